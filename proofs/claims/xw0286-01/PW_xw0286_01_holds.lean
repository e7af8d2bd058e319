import PyProof.Rows.All
import Wide.All
import OpenK.AllK
import Wide.FinOn
import PyProof.TableCode
import PyProof.Raises
import KE.KRevSl
import Lean
import PySem.Challenge.RW_xw0286_01
set_option genCtorIdx false
set_option genSizeOf false
set_option genInjectivity false
set_option Elab.async false
set_option linter.all false
set_option autoImplicit false
open PySem.AutoListH renaming list___mul___list_int_3->Hw
open PySem.Builtin renaming bitAnd->A9,bitXor->bP
open PySem.Calls renaming callWith_function->OQ,spliced_cons->OR,spliced_nil->OS
open PySem.Data.seq renaming inj->Hx
open PySem.F renaming slot_int_rmul->OT
open PySem.Heap.DictOf renaming new->Hz
open PySem.Heap.IsSliceOf renaming new->Ia
open PySem.Heap renaming dictOf_iff->gE,get?_push_of_some->DS,get?_push_size->aH,get?_update_ne->OU,get?_update_self->OV,lt_size->DU,size_push->xG
open PySem.IntMulOk renaming of_left->Ib
open PySem.Obj.mk renaming inj->OW
open PySem.P renaming add_list->OX
open PySem.Str renaming ofString->w5
open PySem.Value.bool renaming inj->Ic
open PySem.Value.bytes renaming inj->Ie
open PySem.Value.int renaming inj->Ig
open PySem.Value.ref renaming inj->Ih
open PySem.Value.str renaming inj->Ii
open PySem.Walks renaming range->OY
open PySem.W renaming boot_heap->lQ,readsAllW_cons_inv->PA,readsAllW_nil_inv->DX
open PySem renaming builtinsNs->oO,codeAny->eU,codeAny_mono->U5,getMethod_builtin->DW,importedModules->a1g,intKind->a1h,letOwnedTupleGo->a1i,mainGlobals->a1j,model->a1l,sizeLine_eq->a1o,slot_list_getitem->a1p,treeTable->a1r,wpAny->a1s,wpAny_Call_ofName->a1t,wpAny_For->a1u,wpAny_askSetting->a1v,wpAny_assign_Name->a1w,wpAny_bind->a1x,wpAny_call->a1y,wpAny_execs_nil->a1z,wpAny_holding->a2a,wpAny_loadPart->a2b,wpAny_mono->a2c,wpAny_of_eq->a2d,wpAny_pure->a2e,wpAny_specialOf->a2f,wpAny_standAt->a2g,wpAny_truthy_bool->a2h
open PyProof.Rows renaming markedEach_of_false->OZ,tail_any->sG
open List renaming mem_cons_self->f9,length_map->i9,mem_map->j4,mem_singleton->j5,mem_cons_of_mem->l6,mem_append->n7,map_append->o4,length_append->o7,sum_cons->u0,append_nil->u9,mem_cons->v5,map_map->A6,not_mem_nil->A8,append_assoc->D9,nodup_cons->H8,length_set->M5,getElem?_set_ne->N4,map_cons->N5,sum_nil->N6,getElem?_eq_getElem->P5,all_eq_true->U1,nil_append->W2,getElem?_append_left->aJ,getElem?_eq_some_iff->aK,mem_of_getElem?->aL,getElem?_map->bR,flatMap_cons->cU,length_drop->cW,lookup_cons->cX,mem_flatMap->cY,length_cons->eY,length_take->eZ,getElem?_set_self->gH,getElem?_append_right->jD,length_reverse->jE,reverse_cons->jF,eq_of_mem_replicate->lV,dropLast_concat->oS,eq_nil_of_length_eq_zero->oU,getLast?_concat->oV,map_replicate->oW,nodup_nil->oX,any_cons->sQ,flatMap_append->sR,idxOf?_cons->sS,map_drop->sU,drop_eq_getElem_cons->xT,flatMap_map->xU,getD_eq_getElem?_getD->xV,length_range->xW,mapM_cons->xX,map_congr_left->xY,map_take->xZ,takeWhile_cons->yC,all_cons->EN,cons_append->EO,cons_ne_nil->EP,drop_eq_nil_of_le->ER,filter_cons->ES,flatten_cons->ET,forIn_cons->EU,length_replicate->EV,map_flatMap->EW,map_set->EX,mem_filterMap->EY,replicate_succ->EZ,take_nil->FA,all_map->PR,any_eq_true->PS,foldl_cons->PT,getElem?_drop->PU,getElem?_replicate->PV,getElem?_zip_eq_some->PW,isEmpty_iff->PX,length_take_le->PY,length_zipIdx->PZ,map_id->QA,map_inj_left->QB,map_reverse->QC,mem_of_mem_take->QD,nodup_append->QE,range_succ_eq_map->QF,takeWhile_sublist->QG,take_append_drop->QH,take_eq_take_min->QK,take_left->QL,take_of_length_le->QM,take_zero->QN
open Nat renaming le_refl->g7,le_trans->k6,ble_eq->n6,succ_le_succ->u6,zero_le->v7,lt_succ_self->A1,le_of_ble_eq_true->E0,le_add_right->H9,le_of_eq->I0,eq_of_beq_eq_true->I9,le_succ->J5,le_of_not_lt->N7,max_le->U3,lt_of_lt_of_le->W3,zero_add->W4,lt_of_le_of_lt->Y9,lt_irrefl->aM,not_lt_zero->aN,le_add_left->bS,mul_le_mul_right->bT,add_sub_cancel_left->cZ,add_assoc->gI,mul_le_mul->jG,succ_mul->jH,add_comm->lW,lt_succ_of_le->lX,mul_add->lY,sub_self->lZ,succ_pos->oY,le_of_lt_succ->sV,max_zero->sW,mul_comm->sX,mul_le_mul_left->sY,add_zero->yD,beq_refl->yE,ble_eq_true_of_le->yF,le_max_left->yG,le_max_right->yH,le_of_lt->yI,le_of_succ_le_succ->yJ,ne_of_lt->yK,succ_ne_self->yL,add_lt_add_left->FD,add_mul->FE,add_sub_of_le->FF,le_antisymm->FG,le_succ_of_le->FH,lt_or_eq_of_le->FI,min_le_left->FJ,min_le_right->FL,ne_of_gt->FN,not_lt->FP,not_succ_le_zero->FQ,zero_lt_succ->FT,add_le_add->QO,add_le_add_left->QS,div_eq_of_lt->QT,lt_add_of_pos_right->QU,lt_succ_of_lt->QV,min_eq_left->QW,mul_add_div->QX,one_mul->QY,pow_le_pow_right->QZ,sub_add_cancel->RA,sub_eq_zero_of_le->RB,sub_le->RC,sub_lt_left_of_lt_add->RD,sub_succ_lt_self->RE
open Int renaming le_trans->o9,le_refl->z0,add_zero->aI,le_max_right->cT,add_le_add->eW,one_mul->eX,natCast_nonneg->gG,le_max_left->jC,mul_le_mul_of_nonneg_right->lT,mul_one->lU,fmod_lt_of_pos->oR,add_assoc->sN,fmod_nonneg_of_pos->sO,max_le->sP,mul_comm->xO,mul_le_mul_of_nonneg_left->xP,toNat_sub->xQ,add_comm->EE,add_nonneg->EF,le_add_of_nonneg_right->EG,le_of_lt->EH,max_eq_left->EI,max_eq_right->EJ,natCast_add->EK,not_lt->EL,zero_add->EM,add_le_add_left->PF,add_le_add_right->PG,add_mul->PI,eq_ofNat_of_zero_le->PJ,min_eq_left->PK,mul_add->PL,ofNat_le->PM,toNat_add->PN,zero_mul->PO
open Bool renaming and_true->F7,and_eq_true->N3,and_false->Y8,or_eq_true->bQ,not_eq_true'->lS,not_not->oQ,eq_false_iff->sJ,false_and->xM,true_and->xN,eq_iff_iff->EA,false_eq_true->EB,or_eq_false_iff->EC,and_assoc->PD,or_false->PE
open Option.some renaming inj->G0
open Ne renaming symm->U4
open Nat.succ renaming inj->bU
open Array renaming getElem?_toList->eV,getElem?_eq_getElem->lR,size_append->sI,toList_append->xK,any_toList->PB,toList_push->PC
open Prod renaming ext->fB
open PySem.W.Fast renaming te14364793385576792824->oZ,te10110043849684766642->FW,te11892475500146522536->Iu,te14082659384304107361->Iv,te14374325043358763698->Iw,te15667345088766844465->Iz,te4187177175401517315->Ja,te5923862056798008813->Jb,te9446332074065402090->Jc
open Eq renaming trans->sM
open Option renaming isSome_iff_exists->sZ,bind_some->RG,isSome_map->RH
open Lean.Omega.Int renaming ofNat_min->xR
open List.cons renaming inj->xS,injEq->Iq
open Iff renaming rfl->ED
open PySem.F renaming plainAttrs_list->FU
open PyProof.Rows renaming callWith_type->RI,getItem_tuple->Ir
open PySem.W renaming eq_bytes->RJ
open PySem renaming wpAny_UnaryOp->RK
open Classical renaming choose_spec->Io
open List.Nodup renaming mem_erase_iff->Ip
section
open PySem PySem.W PySem.Calls PyProof.Rows
namespace Rx.Lake
section
theorem nn {α:Type} {P:Prop} {x:α} (h:none=some x):P:=by cases h
theorem sn {α:Type} {P:Prop} {x:α} (h:some x=none):P:=by cases h
theorem ft {P:Prop} (h:false=true):P:=by cases h
theorem tf {P:Prop} (h:true=false):P:=by cases h
theorem nm {α:Type} {P:α->Prop} (y:α) (h:y∈([]:List α)):P y:=absurd h A8
theorem si {α:Type} {a b:α} (h:some a=some b):a=b:=G0 h
noncomputable abbrev HM:=Addr->Option Obj
set_option genCtorIdx true in
inductive D where
 | none
 | bool (b:Bool)
 | int (i:Int)
 | str (s:Str)
 | bytes (b:Array UInt8)
 | tup (l:List D)
 | lst (l:List D)
 | D7 (ks:List Int) (l:List D)
 | obj (c:Addr) (l:List D)
 deriving Inhabited
noncomputable def eH:List Str:=["op","flags","subs","low","high","cap","name","rune","runes","ranges","match_id","re","parent","below","values","most","is_copying","walked","is_stopped"]
noncomputable def aD (C:Addr):List Str:=if C=55 then eH.take 11 else if C=202 then(eH.drop 11).take 4 else eH.drop 15
noncomputable def HL (K:Frag) (C:Addr):Bool:=hasDictIn K C&&plainOver K C&&makesIn K C&&findIn K (.ref C) "__getattribute__"==some (some (.builtin "object.__getattribute__"))&&findIn K (.ref C) "__setattr__"==some (some (.builtin "object.__setattr__"))&&
 findIn K (.ref C) "__getattr__"==some none&&(aD C).all fun x=>findIn K (.ref C) x==some none
noncomputable def YT (K:Frag):Bool:=findIn K (.ref 55) "is_lazy"==some (some (.ref 44))&&(specialIn K (.ref 44) "__get__"==some (some (.builtin "property.__get__"))&&(takesIn K (.ref 44)==some true&&(recIn K 44 "property").bind List.head?==some (.ref 43)))
structure Gd where
 prog:Program
 w:World
 F0:HM
 K:Frag
 mg:Str->Option Value
 mb:Str->Option Value
 IZ:∀ a o,K.lookup a=some o->F0 a=some o
 glob:∀ h:Heap,(∀ a o,F0 a=some o->h.get? a=some o)->h.Ns a1j mg
 pL:∀ h:Heap,(∀ a o,F0 a=some o->h.get? a=some o)->h.Ns oO mb
 lim:∀ h:Heap,(∀ a o,F0 a=some o->h.get? a=some o)->h.NoLimit
 cf:∀ C,C=55∨C=202∨C=343∨C=441->HL K C=true
 lz:YT K=true
noncomputable abbrev K5 (vs:Array Value) (n:Nat):Obj:={cls:=.type "list",data:=.seq vs n}
noncomputable abbrev eE (vs:Array Value) (n:Nat):Obj:={cls:=.type "tuple",data:=.seq vs n}
noncomputable def d9:Nat:=1000000
inductive K8 {β:Type} (R:β->Prop) (P:List β->Prop) (l:List β):Prop
 | mk (b:β) (bs:List β) (e:l=b::bs) (r:R b) (h:P bs)
noncomputable def p9 {α β:Type} (R:α->β->Prop):List α->List β->Prop
 | [],l=>l=[]
 | a::as,l=>K8 (R a) (p9 R as) l
section
variable {α β:Type} {R S:α->β->Prop}
theorem p9.len:∀{a:List α} {b:List β},p9 R a b->a.length=b.length
 | [],_,h=>by rw[show _=[] from h];rfl
 | _::_,_,Yn=>by obtain⟨_,_,e,_,h⟩:=Yn;rw[e];exact congrArg (fun ζ=>ζ+1) h.len
theorem p9.get:∀{a:List α} {b:List β} {i:Nat} {x:α},p9 R a b->a[i]?=some x->∃ y,b[i]?=some y/\R x y
 | _::_,_,0,_,Yo,q=>by obtain⟨y,_,e,r,_⟩:=Yo;injection q with q;exact⟨y,by rw[e];rfl,q▸r⟩
 | _::_,_,_+1,_,Yp,q=>by obtain⟨_,_,e,_,h⟩:=Yp;rw[e];exact h.get q
theorem p9.of:∀{a:List α} {b:List β},a.length=b.length->(∀(i:Nat) x y,a[i]?=some x->b[i]?=some y->R x y)->p9 R a b
 | [],[],_,_=>rfl
 | _::_,y::b,l,h=>⟨y,b,rfl,h 0 _ _ rfl rfl,p9.of (bU l) fun i=>h (i+1)⟩
theorem p9.at {a:List α} {b:List β} {i:Nat} {y:β} (h:p9 R a b) (q:b[i]?=some y):∃ x,a[i]?=some x/\R x y:=by
 have hi:=(aK.mp q).1
 obtain⟨z,e,r⟩:=h.get (P5 (h.len▸hi))
 rw[q] at e
 injection e with e
 exact⟨_,P5 _,e▸r⟩
theorem p9.imp:∀{a:List α} {b:List β},(∀ x y,x∈a->R x y->S x y)->p9 R a b->p9 S a b
 | [],_,_,h=>h
 | _::_,_,f,Yq=>by obtain⟨y,b,e,r,h⟩:=Yq;exact⟨y,b,e,f _ _ f9 r,h.imp fun x z hx=>f x z (l6 _ hx)⟩
theorem p9.app:∀{a a':List α} {b b':List β},p9 R a b->p9 R a' b'->p9 R (a++a') (b++b')
 | [],_,_,_,h,g=>by rw[show _=[] from h];exact g
 | _::_,_,_,b',Yr,g=>by obtain⟨y,b,e,r,h⟩:=Yr;rw[e];exact⟨y,b++b',rfl,r,h.app g⟩
theorem p9.map {γ:Type} {f:γ->α}:∀{a:List γ} {b:List β},p9 R (a.map f) b↔p9 (fun x y=>R (f x) y) a b:=by
 intro b7
 induction b7 with
 | nil=>intro _;exact ED
 | cons _ _ ih=>intro _;exact⟨fun⟨y,b,e,r,h⟩=>⟨y,b,e,r,ih.mp h⟩,fun⟨y,b,e,r,h⟩=>⟨y,b,e,r,ih.mpr h⟩⟩
theorem p9.drop {a:List α} {b:List β} (n:Nat) (h:p9 R a b):p9 R (a.drop n) (b.drop n):=
 .of (by rw[cW,cW,h.len]) fun i x y p q=>by
  rw[PU] at p q
  obtain⟨z,e,r⟩:=h.get p
  rw[q] at e;injection e with e;exact e▸r
theorem p9.take:∀{a:List α} {b:List β} (n:Nat),p9 R a b->p9 R (a.take n) (b.take n)
 | _,_,0,_=>rfl
 | [],_,_+1,h=>by rw[show _=[] from h];rfl
 | _::_,_,n+1,Wg=>by obtain⟨y,b,e,r,h⟩:=Wg;rw[e];exact⟨y,b.take n,rfl,r,h.take n⟩
theorem p9.rev:∀{a:List α} {b:List β},p9 R a b->p9 R a.reverse b.reverse
 | [],_,h=>by rw[show _=[] from h];rfl
 | _::_,_,Wh=>by obtain⟨y,b,e,r,h⟩:=Wh;rw[e,jF,jF];exact h.rev.app ⟨y,[],rfl,r,rfl⟩
theorem p9.one {x:α} {y:β} (r:R x y):p9 R [x] [y]:=⟨y,[],rfl,r,rfl⟩
theorem p9.set:∀{a:List α} {b:List β} (i:Nat) {x:α} {y:β},p9 R a b->R x y->p9 R (a.set i x) (b.set i y)
 | [],_,_,_,_,h,_=>by rw[show _=[] from h];rfl
 | _::_,_,0,_,y,Wi,q=>by obtain⟨_,b,e,_,h⟩:=Wi;rw[e];exact⟨y,b,rfl,q,h⟩
 | _::_,_,i+1,_,y,Wl,q=>by obtain⟨z,b,e,r,h⟩:=Wl;rw[e];exact⟨z,b.set i y,rfl,r,h.set i q⟩
end
inductive Gh (q:DictEntry) (P:List Str->List Value->Prop) (xs:List Str) (vs:List Value):Prop
 | mk (x:Str) (xs':List Str) (us:List Value) (t:Tok) (e1:xs=x::xs') (e2:vs=q.val::us) (k:q.key=.str x t) (h:P xs' us)
noncomputable def V9:List DictEntry->List Str->List Value->Prop
 | [],_,vs=>vs=[]
 | e::es,xs,vs=>Gh e (V9 es) xs vs
noncomputable def lD (o:Obj) (names:List Str) (vs:List Value):Prop:=∃ es n,o=dictOf es n/\V9 es names vs
inductive W0 (F:HM) (R:List Value->Prop) (v:Value):Prop
 | mk (a:Addr) (vs:Array Value) (n:Nat) (e:v=.ref a) (f:F a=some (K5 vs n)) (z:vs.size<=d9) (r:R vs.toList)
inductive Tup (F:HM) (R:List Value->Prop) (v:Value):Prop
 | mk (a:Addr) (vs:Array Value) (n:Nat) (e:v=.ref a) (f:F a=some (eE vs n)) (z:vs.size<=d9) (r:R vs.toList)
inductive Sq (F:HM) (R:List Value->Prop) (v:Value):Prop
 | mk (a:Addr) (vs:Array Value) (n:Nat) (e:v=.ref a) (f:F a=some (K5 vs n)∨F a=some (eE vs n)) (z:vs.size<=d9) (r:R vs.toList)
inductive Gw (h:HM) (a:Addr) (R:List Value->Prop):Prop
 | mk (vs:Array Value) (n:Nat) (b:h a=some (K5 vs n)) (z:vs.size<=d9) (r:R vs.toList)
inductive Gg (h:HM) (a C:Addr) (R:List Value->Prop):Prop
 | mk (o:Obj) (vs:List Value) (b:h a=some o) (p:lD o (aD C) vs) (r:R vs)
section
variable (G:Gd)
inductive Gp (h:HM) (a:Addr) (ks:List Int) (R:List Value->Prop):Prop
 | mk (o:Obj) (kvs:List (Int×Value)) (b:h a=some o) (p:o.IsDictOf (a1h G.prog G.w) kvs) (q:kvs.map (fun ζ=>ζ.1)=ks) (r:R (kvs.map (fun ζ=>ζ.2))) (z:(a==sysModules)=false) (l:ks.length<=d9)
inductive cO (F:HM) (ks:List Int) (R:List Value->Prop) (v:Value):Prop
 | mk (a:Addr) (o:Obj) (kvs:List (Int×Value)) (e:v=.ref a) (f:F a=some o) (p:o.IsDictOf (a1h G.prog G.w) kvs) (q:kvs.map (fun ζ=>ζ.1)=ks) (r:R (kvs.map (fun ζ=>ζ.2))) (z:(a==sysModules)=false) (l:ks.length<=d9)
inductive gB (F:HM) (C:Addr) (R:List Value->Prop) (v:Value):Prop
 | mk (a dx:Addr) (o:Obj) (vs:List Value) (e:v=.ref a) (f:F a=some (instObj C dx)) (g:F dx=some o) (p:lD o (aD C) vs) (r:R vs)
section
variable {F F':HM} {v:Value} {R R':List Value->Prop} (g:∀ a o,F a=some o->F' a=some o) (h:∀ vs,R vs->R' vs)
include g h
theorem W0.imp (x:W0 F R v):W0 F' R' v:=by obtain⟨a,vs,n,e,f,z,r⟩:=x;exact⟨a,vs,n,e,g _ _ f,z,h _ r⟩
theorem Tup.imp (x:Tup F R v):Tup F' R' v:=by obtain⟨a,vs,n,e,f,z,r⟩:=x;exact⟨a,vs,n,e,g _ _ f,z,h _ r⟩
variable {G:Gd}
theorem cO.imp {ks:List Int} (x:cO G F ks R v):cO G F' ks R' v:=by obtain⟨a,o,kvs,e,f,p,q,r,z,l⟩:=x;exact⟨a,o,kvs,e,g _ _ f,p,q,h _ r,z,l⟩
theorem gB.imp {C:Addr} (x:gB F C R v):gB F' C R' v:=by obtain⟨a,dx,o,vs,e,f,f',p,r⟩:=x;exact⟨a,dx,o,vs,e,g _ _ f,g _ _ f',p,h _ r⟩
end
theorem K8.imp {β:Type} {R R':β->Prop} {P P':List β->Prop} {l:List β} (f:∀ b,R b->R' b) (h:∀ l,P l->P' l) (x:K8 R P l):K8 R' P' l:=by obtain⟨b,bs,e,r,p⟩:=x;exact⟨b,bs,e,f _ r,h _ p⟩
theorem W0.sq {F:HM} {R:List Value->Prop} {v:Value} (x:W0 F R v):Sq F R v:=by obtain⟨a,vs,n,e,f,z,r⟩:=x;exact⟨a,vs,n,e,.inl f,z,r⟩
theorem Tup.sq {F:HM} {R:List Value->Prop} {v:Value} (x:Tup F R v):Sq F R v:=by obtain⟨a,vs,n,e,f,z,r⟩:=x;exact⟨a,vs,n,e,.inr f,z,r⟩
mutual
noncomputable def Rep (F:HM):D->Value->Prop
 | .none,v=>v=.none
 | .bool b,v=>v=.bool b
 | .int i,v=>∃ t,v=.int i t
 | .str s,v=>∃ t,v=.str s t
 | .bytes b,v=>∃ t,v=.bytes b t
 | .tup l,v=>Tup F (t9 F l) v
 | .lst l,v=>W0 F (t9 F l) v
 | .D7 ks l,v=>cO G F ks (t9 F l) v
 | .obj C l,v=>gB F C (t9 F l) v
noncomputable def t9 (F:HM):List D->List Value->Prop
 | [],vs=>vs=[]
 | d::ds,vs=>K8 (Rep F d) (t9 F ds) vs
end
end
variable {G:Gd}
theorem reps {F:HM}:∀{ds:List D} {vs:List Value},t9 G F ds vs↔p9 (Rep G F) ds vs:=by
 intro b7
 induction b7 with
 | nil=>intro _;exact ED
 | cons _ _ ih=>intro _;exact⟨K8.imp (fun ζ h=>h) fun ζ=>ih.mp,K8.imp (fun ζ h=>h) fun ζ=>ih.mpr⟩
mutual
theorem Rep.mono {F F':HM} (h:∀ a o,F a=some o->F' a=some o):∀{d:D} {v:Value},Rep G F d v->Rep G F' d v
 | .none,_,x=>x
 | .bool _,_,x=>x
 | .int _,_,x=>x
 | .str _,_,x=>x
 | .bytes _,_,x=>x
 | .tup _,_,x=>Tup.imp h (fun ζ=>t9.mono h) x
 | .lst _,_,x=>W0.imp h (fun ζ=>t9.mono h) x
 | .D7 _ _,_,x=>cO.imp h (fun ζ=>t9.mono h) x
 | .obj _ _,_,x=>gB.imp h (fun ζ=>t9.mono h) x
theorem t9.mono {F F':HM} (h:∀ a o,F a=some o->F' a=some o):∀{ds:List D} {vs:List Value},t9 G F ds vs->t9 G F' ds vs
 | [],_,x=>x
 | _::_,_,x=>K8.imp (fun ζ=>Rep.mono h) (fun ζ=>t9.mono h) x
end
end
section
set_option genCtorIdx true in
inductive V where
 | val (d:D)
 | loc (i:Nat)
 | tup (l:List V)
 deriving Inhabited
set_option genCtorIdx true in
inductive M where
 | list (l:List V)
 | inst (c:Addr)
 | attrs (c:Addr) (l:List V)
 | dict (ks:List Int) (l:List V)
 | frozen (d:D)
 | dead
 deriving Inhabited
structure St where
 vars:List (Option V)
 mu:List M
structure Cx where
 F:HM
 r:Nat->Addr
 σ:St
 s:Shared
noncomputable abbrev Cx.n (c:Cx):Nat:=c.σ.mu.length
noncomputable abbrev Cx.h (c:Cx):Heap:=c.s.heap
section
variable (G:Gd)
mutual
noncomputable def i0 (c:Cx):V->Value->Prop
 | .val d,v=>Rep G c.F d v
 | .loc i,v=>v=.ref (c.r i)/\i<c.n
 | .tup l,v=>Tup c.F (o8 c l) v
noncomputable def o8 (c:Cx):List V->List Value->Prop
 | [],vs=>vs=[]
 | d::ds,vs=>K8 (i0 c d) (o8 c ds) vs
end
noncomputable def T7 (c:Cx) (i:Nat):M->Prop
 | .list l=>c.F (c.r i)=none/\Gw c.h.get? (c.r i) (o8 G c l)
 | .inst C=>c.F (c.r i)=none/\c.h.get? (c.r i)=some (instObj C (c.r (i+1)))/\i+1<c.n
 | .attrs C l=>c.F (c.r i)=none/\Gg c.h.get? (c.r i) C (o8 G c l)
 | .dict ks l=>c.F (c.r i)=none/\Gp G c.h.get? (c.r i) ks (o8 G c l)
 | .frozen d=>Rep G c.F d (.ref (c.r i))
 | .dead=>True
structure A0 (c:Cx):Prop where
 base:∀ a o,G.F0 a=some o->c.F a=some o
 sub:∀ a o,c.F a=some o->c.h.get? a=some o
 inj:∀ i j,i<c.n->j<c.n->c.r i=c.r j->i=j
 cell:∀(i:Nat) (m:M),c.σ.mu[i]?=some m->T7 G c i m
 live:∀ i,i<c.n->∃ o,c.h.get? (c.r i)=some o
end
noncomputable def nZ (k:Nat) (A:Around):Prop:=A.handled=none/\A.depth+k<980/\A.units+16*k<9800
structure Ev where
 G:Gd
 k:Nat
 A:Around
 env:Env
 nm:List Str
 room:nZ k A
 kind:env.scope.kind=.function
 glob:env.globals=a1j
 pL:env.builtins=oO
 nodup:nm.Nodup
 apart:∀ x y c,env.cells.lookup x=some c->env.cells.lookup y=some c->x=y
 cells:∀ x,env.kindOf x=some .cell->∃ c,env.cells.lookup x=some c
noncomputable def own (env:Env) (b:Addr):Prop:=b=env.locals∨∃ x,env.cells.lookup x=some b
noncomputable def Holds (env:Env) (m cm:Str->Option Value) (x:Str) (v:Value):Prop:=
 (env.kindOf x=some .local/\m x=some v)∨(env.kindOf x=some .cell/\∃ c,env.cells.lookup x=some c/\cm x=some v)
structure Inv (e:Ev) (c:Cx):Prop where
 hp:A0 e.G c
 bH:∀ b,own e.env b->c.F b=none
 cF:∀ b,own e.env b->∀ i,i<c.n->b≠c.r i
 kD:∃ m cm,c.h.Ns e.env.locals m/\(∀ x a,e.env.cells.lookup x=some a->c.h.IsCell a (cm x))/\
  ∀(j:Nat) (x:Str) (u:V),e.nm[j]?=some x->c.σ.vars[j]?=some (some u)->∃ v,Holds e.env m cm x v/\i0 e.G c u v
structure Step (fr:Addr->Prop) (c c':Cx):Prop where
 same:∃ h tk,c'.s={c.s with heap:=h,toks:=tk}
 grow:∀ a o,c.F a=some o->c'.F a=some o
 B9:∀ i,i<c.n->c'.r i=c.r i
 len:c.n<=c'.n
 keep:∀ b o,c.h.get? b=some o->¬fr b->(∀ i,i<c.n->b≠c.r i)->c'.h.get? b=some o
 live:∀ b o,c.h.get? b=some o->∃ o',c'.h.get? b=some o'
 newF:∀ b,c'.F b≠none->c.F b≠none∨c.h.get? b=none∨∃ i,i<c.n/\b=c.r i
 newR:∀ i,c.n<=i->i<c'.n->c.h.get? (c'.r i)=none
theorem Step.refl {fr:Addr->Prop} {c:Cx}:Step fr c c:=
 ⟨⟨_,_,rfl⟩,fun ζ ζ e=>e,fun ζ ζ=>rfl,g7 _,fun ζ ζ e ζ ζ=>e,fun ζ o e=>⟨o,e⟩,fun ζ e=>.inl e,fun ζ h1 h2=>absurd (Y9 h1 h2) (aM _)⟩
theorem Step.back {fr:Addr->Prop} {c c':Cx} (x:Step fr c c') {b:Addr} (e:c'.h.get? b=none):c.h.get? b=none:=by
 cases q:c.h.get? b with
 | none=>rfl
 | some o=>obtain⟨o',e'⟩:=x.live b o q;rw[e] at e';cases e'
theorem Step.trans {fr:Addr->Prop} {c c' c'':Cx} (x:Step fr c c') (y:Step fr c' c''):Step fr c c'' where
 same:=by
  obtain⟨h,tk,e⟩:=x.same
  obtain⟨h',tk',e'⟩:=y.same
  exact⟨h',tk',by rw[e',e]⟩
 grow a o e:=y.grow _ _ (x.grow _ _ e)
 B9 i hi:=(y.B9 i (W3 hi x.len)).trans (x.B9 i hi)
 len:=k6 x.len y.len
 keep b o e h1 h2:=y.keep b o (x.keep b o e h1 h2) h1 fun i hi q=>by
  by_cases p:i<c.n
  ·exact h2 i p (q.trans (x.B9 i p))
  ·have:=x.newR i (N7 p) hi
   rw[<-q,e] at this;exact sn this
 live b o e:=by
  obtain⟨o',e'⟩:=x.live b o e
  exact y.live b o' e'
 newF b e:=by
  rcases y.newF b e with q | q |⟨i,hi,q⟩
  ·exact x.newF b q
  ·exact .inr (.inl (x.back q))
  ·by_cases p:i<c.n
   ·exact .inr (.inr ⟨i,p,q.trans (x.B9 i p)⟩)
   ·exact .inr (.inl (q▸x.newR i (N7 p) hi))
 newR i h1 h2:=by
  by_cases q:i<c'.n
  ·exact(y.B9 i q)▸(x.newR i h1 q)
  ·exact x.back (y.newR i (N7 q) h2)
theorem Step.weak {fr IB:Addr->Prop} {c c':Cx} (h:∀ b,fr b->IB b) (x:Step fr c c'):Step IB c c':={x with keep:=fun b o e h1 h2=>x.keep b o e (fun z=>h1 (h b z)) h2}
noncomputable abbrev I3:Addr->Prop:=fun ζ=>False
section
variable {α β γ δ:Type}
inductive Y6 (e:Ev) (fr:Addr->Prop) (c:Cx) (R:Cx->β->α->Prop) (Q:β->St->Prop) (a:α) (s':Shared):Prop
 | mk (c':Cx) (b:β) (e1:c'.s=s') (i:Inv e c') (st:Step fr c c') (r:R c' b a) (q:Q b c'.σ)
noncomputable abbrev Post (e:Ev) (c:Cx) (R:Cx->β->α->Prop) (Q:β->St->Prop):α->Shared->Prop:=Y6 e I3 c R Q
noncomputable abbrev D4:Value->Shared->Prop:=fun ζ ζ=>False
noncomputable abbrev Hq (e:Ev) (c:Cx) (t:Sem α) (Q:α->Shared->Prop):Prop:=a1s (a1l e.G.prog e.G.w) e.A t Q D4 c.s
noncomputable abbrev Rn (e:Ev) (c:Cx) (t:Sem α) (R:Cx->β->α->Prop) (Q:β->St->Prop):Prop:=Hq e c t (Post e c R Q)
variable {e:Ev} {fr:Addr->Prop} {c c':Cx} {R:Cx->β->α->Prop} {Q:β->St->Prop} {a:α} {b:β} {s':Shared}
theorem Y6.trans (x:Step fr c c') (p:Y6 e fr c' R Q a s'):Y6 e fr c R Q a s':=by
 obtain⟨c2,b,e1,i,st,r,q⟩:=p
 exact⟨c2,b,e1,i,x.trans st,r,q⟩
theorem here (i:Inv e c) (r:R c b a) (q:Q b c.σ):Y6 e fr c R Q a c.s:=⟨c,b,rfl,i,.refl,r,q⟩
theorem use {M:Model} {A:Around} {t:Sem α} {C:α->Shared->Prop} {E:Value->Shared->Prop} {s:Shared} (x:a1s M A t (Y6 e fr c R Q) D4 s)
  (y:∀ c' b a,Inv e c'->Step fr c c'->R c' b a->Q b c'.σ->C a c'.s):a1s M A t C E s:=
 a2c x (fun a s' ⟨c',b,e1,i,st,r,q⟩=>e1▸y c' b a i st r q) fun ζ ζ h=>h.elim
theorem back {M:Model} {A:Around} {t:Sem α} {s:Shared} (st:Step fr c c') (h:a1s M A t (Y6 e fr c' R Q) D4 s):a1s M A t (Y6 e fr c R Q) D4 s:=a2c h (fun ζ ζ p=>p.trans st) fun ζ ζ e=>e
end
variable {G:Gd}
theorem w6 {c:Cx}:∀{l:List V} {vs:List Value},o8 G c l vs↔p9 (i0 G c) l vs:=by
 intro b7
 induction b7 with
 | nil=>intro _;exact ED
 | cons _ _ ih=>intro _;exact⟨K8.imp (fun ζ h=>h) fun ζ=>ih.mp,K8.imp (fun ζ h=>h) fun ζ=>ih.mpr⟩
theorem kO {c:Cx} {l:List D} {vs:List Value}:o8 G c (l.map .val) vs↔t9 G c.F l vs:=w6.trans (p9.map.trans reps.symm)
structure Ge (c c':Cx):Prop where
 grow:∀ a o,c.F a=some o->c'.F a=some o
 B9:∀ i,i<c.n->c'.r i=c.r i
 len:c.n<=c'.n
theorem Step.ge {fr:Addr->Prop} {c c':Cx} (x:Step fr c c'):Ge c c':=⟨x.grow,x.B9,x.len⟩
mutual
theorem i0.mono {c c':Cx} (h:Ge c c'):∀{u:V} {v:Value},i0 G c u v->i0 G c' u v
 | .val _,_,r=>Rep.mono h.grow r
 | .loc i,_,Wv=>by obtain⟨e,l⟩:=Wv;exact⟨by rw[h.B9 i l];exact e,W3 l h.len⟩
 | .tup _,_,x=>Tup.imp h.grow (fun ζ=>o8.mono h) x
theorem o8.mono {c c':Cx} (h:Ge c c'):∀{l:List V} {vs:List Value},o8 G c l vs->o8 G c' l vs
 | [],_,r=>r
 | _::_,_,x=>K8.imp (fun ζ=>i0.mono h) (fun ζ=>o8.mono h) x
end
theorem T7.mono {c c':Cx} {i:Nat} {m:M} (x:T7 G c i m) (hi:i<c.n) (g:Ge c c') (hN:c.F (c.r i)=none->c'.F (c.r i)=none) (hk:∀ o,c.h.get? (c.r i)=some o->c'.h.get? (c.r i)=some o):T7 G c' i m:=by
 have e:=g.B9 i hi
 induction m using M.casesOn with
 | list l=>obtain⟨a,vs,k,b,z,r⟩:=x;exact⟨by rw[e];exact hN a,vs,k,by rw[e];exact hk _ b,z,r.mono g⟩
 | inst C=>exact⟨by rw[e];exact hN x.1,by rw[e,g.B9 _ x.2.2];exact hk _ x.2.1,W3 x.2.2 g.len⟩
 | attrs C l=>obtain⟨a,o,vs,b,z,r⟩:=x;exact⟨by rw[e];exact hN a,o,vs,by rw[e];exact hk _ b,z,r.mono g⟩
 | dict ks l=>obtain⟨a,o,kvs,b,p,q,r,z,l⟩:=x;exact⟨by rw[e];exact hN a,o,kvs,by rw[e];exact hk _ b,p,q,r.mono g,by rw[e];exact z,l⟩
 | frozen d=>show Rep G c'.F d (.ref (c'.r i));rw[e];exact Rep.mono g.grow x
 | dead=>trivial
end
section
set_option genCtorIdx true in
inductive BI where
 | len | list | sum | max | min | int | dict
 deriving DecidableEq
set_option genCtorIdx true in
inductive Mt where
 | append | pop | extend | pre | post | copy | short | enter | walk
 deriving DecidableEq
inductive Tg where
 | var (i:Nat)
 | tup (l:List Nat)
mutual
inductive E where
 | const (d:D)
 | var (i:Nat)
 | bin (o:Operator) (l r:E)
 | not (e:E)
 | neg (e:E)
 | and (l:List E)
 | or (l:List E)
 | cmp (l:E) (ops:List CmpOp) (es:List E)
 | ite (t b o:E)
 | tup (l:List E)
 | lst (l:List E)
 | dict (ks vs:List E)
 | idx (e i:E)
 | slice (e:E) (lo hi st:Option E)
 | attr (e:E) (j:Nat)
 | lazy (e:E)
 | call (f:Addr) (l:List E)
 | new (c:Addr) (l:List E)
 | bi (b:BI) (l:List E)
 | A5 (o:E) (m:Mt) (l:List E)
 | comp (cap:List Nat) (len:Nat) (elt:E) (c:Cl) (more:List Cl)
inductive Cl where
 | mk (t:Tg) (it:E) (ifs:List E)
end
inductive It where
 | e (e:E)
 | range (e:E)
 | enum (e:E)
inductive iY where
 | t (t:Tg)
 | attr (e:E) (j:Nat)
 | item (e i:E)
inductive S where
 | asg (t:iY) (e:E)
 | expr (e:E)
 | ite (t:E) (b o:List S)
 | while (t:E) (b:List S)
 | for (t:Tg) (it:It) (b:List S)
 | ret (e:E)
inductive GV where
 | const (d:D)
 | fn (a:Addr)
 | cls (a:Addr)
 | bi (b:BI)
 | range
 | enum
structure Sc where
 names:List (Str×NameKind)
 nm:List Str
 gt:List (Str×GV)
noncomputable def GF (x:Str):Option Nat:=eH.idxOf? x
noncomputable def KG (x:Str):Option Mt:=([("append",.append),("pop",.pop),("extend",.extend),("pre",.pre),("post",.post),("copy",.copy),("short",.short),("enter",.enter),("walk",.walk)]:List (Str×Mt)).lookup x
noncomputable def S6 (sc:Sc) (x:Str):Option Nat:=match sc.names.lookup x with
 | some .local=>sc.nm.idxOf? x
 | some .cell=>sc.nm.idxOf? x
 | _=>none
noncomputable def M7 (sc:Sc) (x:Str):Option GV:=match sc.names.lookup x with
 | some .globalImplicit=>sc.gt.lookup x
 | _=>none
noncomputable def bJ (x:Str):Bool:=!(x==("__debug__":Str))
noncomputable def M9 {α:Type} (x:Expr) (e:α) (nm:Str->α:=fun ζ=>e) (cl:Expr->List Expr->List Keyword->α:=fun ζ ζ ζ=>e) (tu:List Expr->α:=fun ζ=>e) (sl:Option Expr->Option Expr->Option Expr->α:=fun ζ ζ ζ=>e) (st:α:=e) (at_:Expr->Str->Pos->α:=fun ζ ζ ζ=>e) (sb:Expr->Expr->α:=fun ζ ζ=>e):α:=by
 induction x using PySem.Expr.casesOn with
 | Call f a k=>exact cl f a k
 | Attribute o x p=>exact at_ o x p
 | Subscript o i=>exact sb o i
 | Starred=>exact st
 | Name x=>exact nm x
 | Tuple l=>exact tu l
 | Slice a b c=>exact sl a b c
 | _=>exact e
noncomputable def P6 (sc:Sc) (x:Expr):Option Tg:=M9 x none (fun x=>(S6 sc x).map .var) (tu:=fun es=>(es.mapM fun e=>M9 e none (S6 sc)).map .tup)
noncomputable def notStar (x:Expr):Bool:=M9 x true (st:=false)
noncomputable def kT (x:Expr):List Str:=M9 x [] (fun x=>[x]) (tu:=fun es=>es.filterMap fun e=>M9 e none some)
noncomputable def NB (sc:Sc) (e:Expr):Bool:=(kT e).all fun x=>sc.names.lookup x==some .local
noncomputable def qO (x:Expr):Bool:=M9 x true (cl:=fun f as ks=>M9 f true fun x=>!(as.isEmpty&&ks.isEmpty&&x==("super":Str)))
noncomputable def kN (names outer:List (Str×NameKind)):List (Str×NameKind):=names.map fun(n,k)=>if k==.free&&outer.lookup n==some .cell then(n,.cell) else(n,k)
noncomputable def KP (sc:Sc) (scope:Scope):List Str:=scope.names.filterMap fun(x,k)=>if k==.local&&x !=(".0":Str)&&!sc.nm.contains x then some x else none
noncomputable def UT (f:Expr->Option E) (sc:Sc) (g:Comprehension):Option Cl:=Comprehension.casesOn g fun t it ifs a=>if a=0 then(do return Cl.mk (<-P6 sc t) (<-f it) (<-ifs.mapM f)) else none
noncomputable def cE:Nat->Sc->Expr->Option E
 | 0,_,_=>none
 | n+1,sc,e=>PySem.Expr.casesOn e
  (fun o vs ζ=>do
   let l <-vs.mapM (cE n sc)
   match o with
   | .And=>some (.and l)
   | .Or=>some (.or l))
  (fun ζ ζ ζ=>none)
  (fun l o r ζ=>do return .bin o (<-cE n sc l) (<-cE n sc r))
  (fun o x ζ=>match o with
   | .Not=>(cE n sc x).map .not
   | .USub=>(cE n sc x).map .neg
   | _=>none)
  (fun ζ ζ ζ ζ=>none)
  (fun t b o ζ=>do return .ite (<-cE n sc t) (<-cE n sc b) (<-cE n sc o))
  (fun ks vs ζ=>if ks.length==vs.length&&ks.length<15 then do return .dict (<-ks.mapM fun k=>k.bind (cE n sc)) (<-vs.mapM (cE n sc)) else none)
  (fun ζ ζ ζ=>none)
  (fun elt gens scope ζ=>match gens with
   |⟨t,it,ifs,0⟩::more=>do
    let names:=kN scope.names sc.names
    let nm:=sc.nm++KP sc scope
    let sc':Sc:=⟨names,nm,sc.gt⟩
    let cap:=(scope.names.filterMap fun(x,k)=>if k==.free then sc.nm.idxOf? x else none)
    if scope.kind==.function&&nm.Nodup&&NB sc' t&&more.all (fun g=>NB sc' g.target)&&scope.names.all (fun(x,k)=>k != .cell&&(k != .local||scope.names.lookup x==some .local)&&(k != .free||(sc.names.lookup x==some .cell&&scope.names.lookup x==some .free))) then
     let cls <-more.mapM (UT (cE n sc') sc')
     return .comp cap nm.length (<-cE n sc' elt) (.mk (<-P6 sc' t) (<-cE n sc it) (<-ifs.mapM (cE n sc'))) cls
    else none
   | _=>none)
  (fun ζ ζ ζ ζ=>none)
  (fun ζ ζ ζ ζ ζ=>none)
  (fun ζ ζ ζ ζ=>none)
  (fun ζ ζ=>none)
  (fun ζ ζ=>none)
  (fun ζ ζ=>none)
  (fun l ops cs ζ=>do
   if ops.length==cs.length&&!ops.isEmpty&&!lastMarks ops cs then return .cmp (<-cE n sc l) ops (<-cs.mapM (cE n sc)) else none)
  (fun f as ks pos=>if ks.isEmpty&&as.all notStar&&as.length<10 then M9 f none (fun x=>if bJ x then do
     let l <-as.mapM (cE n sc)
     match M7 sc x with
     | some (.fn a)=>some (.call a l)
     | some (.cls a)=>some (.new a l)
     | some (.bi b)=>some (.bi b l)
     | _=>none
    else none)
   (at_:=fun o x apos=>if qO o&&apos.endLine==pos.line then do return .A5 (<-cE n sc o) (<-KG x) (<-as.mapM (cE n sc)) else none) else none)
  (fun ζ ζ ζ ζ=>none)
  (fun ζ ζ=>none)
  (fun c ζ ζ=>match c with
   | .none=>some (.const .none)
   | .bool b=>some (.const (.bool b))
   | .int i=>some (.const (.int i))
   | .str s=>some (.const (.str s))
   | .bytes b=>some (.const (.bytes b.toArray))
   | _=>none)
  (fun v x ζ=>if qO v then(if x==("is_lazy":Str) then(cE n sc v).map .lazy else do return .attr (<-cE n sc v) (<-GF x)) else none)
  (fun v s ζ=>
   let sub:=do return .idx (<-cE n sc v) (<-cE n sc s)
   M9 s sub (sl:=fun lo hi st=>do
    let e <-cE n sc v
    let f (x:Option Expr):Option (Option E):=match x with | none=>some none | some x=>(cE n sc x).map some
    return .slice e (<-f lo) (<-f hi) (<-f st)))
  (fun ζ ζ=>none)
  (fun x ζ=>if bJ x then(match S6 sc x with
    | some i=>some (.var i)
    | none=>match M7 sc x with
     | some (.const d)=>some (.const d)
     | _=>none) else none)
  (fun es ζ=>if es.all notStar&&es.length<100 then(es.mapM (cE n sc)).map .lst else none)
  (fun es ζ ζ=>if es.all notStar&&es.length<100 then(es.mapM (cE n sc)).map .tup else none)
  (fun ζ ζ ζ ζ=>none)
noncomputable def YE (n:Nat) (sc:Sc) (x:Str) (a:Expr) (p:Option It) (g:Option GV):Option It:=match g with
 | some .range=>if bJ x&&notStar a then(cE n sc a).map It.range else none
 | some .enum=>if bJ x&&notStar a then(cE n sc a).map It.enum else none
 | _=>p
noncomputable def UP (n:Nat) (sc:Sc) (it:Expr):Option It:=
 let p:=(cE n sc it).map It.e
 M9 it p (cl:=fun f as ks=>M9 f p fun x=>List.casesOn as p fun a r=>List.casesOn r (List.casesOn ks (YE n sc x a p (M7 sc x)) fun ζ ζ=>p) fun ζ ζ=>p)
noncomputable def HH (n:Nat) (sc:Sc) (x:Expr):Option iY:=
 let p:=(P6 sc x).map .t
 M9 x p (at_:=fun o x ζ=>do return .attr (<-cE n sc o) (<-GF x)) (sb:=fun o i=>M9 i (do return .item (<-cE n sc o) (<-cE n sc i)) (sl:=fun ζ ζ ζ=>none))
noncomputable def MY (t:Expr) (v:Expr):Bool:=M9 t true (tu:=fun ζ=>M9 v true (tu:=fun vs=>vs.all (foldedForSure 8)||!(vs.all (constantsAlone 8))))
noncomputable def Cv {α:Type} (s:Stmt) (e:α) (fn:Arguments->List Stmt->Scope->α:=fun ζ ζ ζ=>e) (cl:List Stmt->α:=fun ζ=>e) (rt:Option Expr->α:=fun ζ=>e) (asg:List Expr->Expr->α:=fun ζ ζ=>e) (fr:Expr->Expr->List Stmt->List Stmt->α:=fun ζ ζ ζ ζ=>e) (wh:Expr->List Stmt->List Stmt->α:=fun ζ ζ ζ=>e) (it:Expr->List Stmt->List Stmt->α:=fun ζ ζ ζ=>e) (ex:Expr->α:=fun ζ=>e):α:=by
 induction s using PySem.Stmt.casesOn with
 | FunctionDef _ a b _ _ _ sc=>exact fn a b sc
 | ClassDef _ _ _ b=>exact cl b
 | Return r=>exact rt r
 | Assign t v=>exact asg t v
 | For t i b o=>exact fr t i b o
 | While t b o=>exact wh t b o
 | If t b o=>exact it t b o
 | Expr v=>exact ex v
 | _=>exact e
noncomputable def cS:Nat->Sc->Stmt->Option S
 | 0,_,_=>none
 | n+1,sc,st=>Cv st none (rt:=fun r=>Option.casesOn r (some (.ret (.const .none))) fun e=>(cE n sc e).map .ret)
  (asg:=fun ts v=>List.casesOn ts none fun t r=>List.casesOn r (if MY t v then do return .asg (<-HH n sc t) (<-cE n sc v) else none) fun ζ ζ=>none)
  (fr:=fun t it b o=>List.casesOn o (do
   return .for (<-P6 sc t) (<-UP n sc it) (<-b.mapM (cS n sc))) fun ζ ζ=>none)
  (wh:=fun t b o=>List.casesOn o (do return .while (<-cE n sc t) (<-b.mapM (cS n sc))) fun ζ ζ=>none)
  (it:=fun t b o=>do return .ite (<-cE n sc t) (<-b.mapM (cS n sc)) (<-o.mapM (cS n sc)))
  (ex:=fun v=>M9 v none (cl:=fun f ζ ζ=>M9 f none (at_:=fun ζ ζ ζ=>(cE n sc v).map .expr)))
noncomputable def ownNames (names:List (Str×NameKind)):List Str:=names.filterMap fun(x,k)=>if k==.local||k==.cell then some x else none
end
section
inductive Fl where
 | next
 | ret (v:V)
noncomputable def St.alloc (σ:St) (m:M):St:=⟨σ.vars,σ.mu++[m]⟩
noncomputable def St.R3 (σ:St) (i:Nat) (m:M):St:=⟨σ.vars,σ.mu.set i m⟩
noncomputable def St.MF (σ:St) (i:Nat) (v:V):St:=⟨σ.vars.set i (some v),σ.mu⟩
noncomputable def oe {α:Type} (o:Option α) (f:α->Prop):Prop:=Option.casesOn o False f
noncomputable def br (b:Bool) (P Q:Prop):Prop:=Bool.casesOn b Q P
theorem j6 {α:Type} {o:Option α} {f:α->Prop} {x:α} (h:o=some x) (p:f x):oe o f:=by subst h;exact p
theorem vO {α:Type} {o:Option α} {f:α->Prop} (h:oe o f):∃ x,o=some x/\f x:=by induction o using Option.casesOn with | none=>exact h.elim | some x=>exact⟨x,rfl,h⟩
theorem k8 {α:Type} {P:Prop} {o:Option α} {f:α->Prop} (h:oe o f) (k:∀ x,o=some x->f x->P):P:=by cases o with | none=>exact h.elim | some x=>exact k x rfl h
theorem g8 {b:Bool} {P Q:Prop} (h1:b=true->P) (h2:b=false->Q):br b P Q:=by induction b using Bool.casesOn with | true=>exact h1 rfl | false=>exact h2 rfl
theorem tP {b:Bool} {P Q:Prop} (h:br b P Q):(b=true/\P)∨(b=false/\Q):=by induction b using Bool.casesOn with | true=>exact .inl ⟨rfl,h⟩ | false=>exact .inr ⟨rfl,h⟩
theorem s9 {b:Bool} {P Q:Prop} (h1:b=true) (p:P):br b P Q:=by subst h1;exact p
theorem U8 {b:Bool} {P Q:Prop} (h1:b=false) (p:Q):br b P Q:=by subst h1;exact p
noncomputable def rD {α:Type} (l:List α):(List α->Prop)->Prop:=List.rec (motive:=fun ζ=>(List α->Prop)->Prop) (fun k=>k []) (fun a ζ ih k=>ih fun l=>k (a::l)) l
theorem rE {α:Type}:∀(l:List α) (k:List α->Prop),rD l k=k l:=by
 intro b7
 induction b7 with
 | nil=>intro _;exact rfl
 | cons a l ih=>intro k;exact ih fun l=>k (a::l)
noncomputable def D.AY (d:D):Bool:=D.casesOn d true (fun ζ=>false) (fun ζ=>false) (fun ζ=>false) (fun ζ=>false) (fun ζ=>false) (fun ζ=>false) (fun ζ ζ=>false) (fun ζ ζ=>false)
noncomputable def D.bool? (d:D):Option Bool:=D.casesOn d .none .some (fun ζ=>.none) (fun ζ=>.none) (fun ζ=>.none) (fun ζ=>.none) (fun ζ=>.none) (fun ζ ζ=>.none) (fun ζ ζ=>.none)
noncomputable def D.int? (d:D):Option Int:=D.casesOn d .none (fun ζ=>.none) .some (fun ζ=>.none) (fun ζ=>.none) (fun ζ=>.none) (fun ζ=>.none) (fun ζ ζ=>.none) (fun ζ ζ=>.none)
noncomputable def D.str? (d:D):Option Str:=D.casesOn d .none (fun ζ=>.none) (fun ζ=>.none) .some (fun ζ=>.none) (fun ζ=>.none) (fun ζ=>.none) (fun ζ ζ=>.none) (fun ζ ζ=>.none)
noncomputable def D.UI (d:D):Option (Array UInt8):=D.casesOn d .none (fun ζ=>.none) (fun ζ=>.none) (fun ζ=>.none) .some (fun ζ=>.none) (fun ζ=>.none) (fun ζ ζ=>.none) (fun ζ ζ=>.none)
noncomputable def D.rP (d:D):Option (List D):=D.casesOn d .none (fun ζ=>.none) (fun ζ=>.none) (fun ζ=>.none) (fun ζ=>.none) .some (fun ζ=>.none) (fun ζ ζ=>.none) (fun ζ ζ=>.none)
noncomputable def D.E5 (d:D):Option (List D):=D.casesOn d .none (fun ζ=>.none) (fun ζ=>.none) (fun ζ=>.none) (fun ζ=>.none) (fun ζ=>.none) .some (fun ζ ζ=>.none) (fun ζ ζ=>.none)
noncomputable def D.W7 (d:D):Option (List Int×List D):=D.casesOn d .none (fun ζ=>.none) (fun ζ=>.none) (fun ζ=>.none) (fun ζ=>.none) (fun ζ=>.none) (fun ζ=>.none) (fun k l=>.some (k,l)) (fun ζ ζ=>.none)
noncomputable def D.obj? (d:D):Option (Addr×List D):=D.casesOn d .none (fun ζ=>.none) (fun ζ=>.none) (fun ζ=>.none) (fun ζ=>.none) (fun ζ=>.none) (fun ζ=>.none) (fun ζ ζ=>.none) (fun c l=>.some (c,l))
noncomputable def D.seq? (d:D):Option (List D):=D.casesOn d .none (fun ζ=>.none) (fun ζ=>.none) (fun ζ=>.none) (fun ζ=>.none) .some .some (fun ζ ζ=>.none) (fun ζ ζ=>.none)
noncomputable def V.d? (v:V):Option D:=V.casesOn v some (fun ζ=>none) (fun ζ=>none)
noncomputable def V.loc? (v:V):Option Nat:=V.casesOn v (fun ζ=>none) some (fun ζ=>none)
noncomputable def V.int? (v:V):Option Int:=v.d?.bind D.int?
noncomputable def V.bool? (v:V):Option Bool:=v.d?.bind D.bool?
noncomputable def M.E5 (m:M):Option (List V):=M.casesOn m some (fun ζ=>none) (fun ζ ζ=>none) (fun ζ ζ=>none) (fun d=>d.E5.map (List.map V.val)) none
noncomputable def M.list? (m:M):Option (List V):=M.casesOn m some (fun ζ=>none) (fun ζ ζ=>none) (fun ζ ζ=>none) (fun ζ=>none) none
noncomputable def M.mO (m:M):Option (List Int×List V):=M.casesOn m (fun ζ=>none) (fun ζ=>none) (fun ζ ζ=>none) (fun k l=>some (k,l)) (fun ζ=>none) none
noncomputable def M.zT (m:M):Option Addr:=M.casesOn m (fun ζ=>none) some (fun ζ ζ=>none) (fun ζ ζ=>none) (fun ζ=>none) none
noncomputable def M.attrs? (m:M):Option (Addr×List V):=M.casesOn m (fun ζ=>none) (fun ζ=>none) (fun c l=>some (c,l)) (fun ζ ζ=>none) (fun ζ=>none) none
noncomputable def gJ (mu:List M) (v:V):Option (List V):=V.casesOn v (fun d=>d.E5.map (List.map V.val)) (fun i=>(mu[i]?).bind M.E5) (fun ζ=>none)
noncomputable def RX (v:V):Option (List V):=V.casesOn v (fun d=>d.rP.map (List.map V.val)) (fun ζ=>none) some
noncomputable def U6 (mu:List M) (v:V):Option (List V):=Option.casesOn (gJ mu v) (RX v) some
noncomputable def M8 {α β:Type} (f:α->Option β):List α->Option (List β)
 | []=>some []
 | a::l=>(f a).bind fun b=>(M8 f l).map (fun ζ=>b::ζ)
noncomputable def pk:Nat->List M->V->Option D
 | 0,_,v=>v.d?
 | n+1,mu,v=>V.casesOn v some
   (fun i=>(mu[i]?).bind fun m=>M.casesOn m (fun l=>(M8 (pk n mu) l).map .lst) (fun ζ=>none) (fun ζ ζ=>none) (fun ks l=>(M8 (pk n mu) l).map (.D7 ks)) some none)
   (fun l=>(M8 (pk n mu) l).map .tup)
noncomputable def G6 (f:List M->V->Option (D×List M)):List M->List V->Option (List D×List M)
 | mu,[]=>some ([],mu)
 | mu,v::vs=>(f mu v).bind fun x=>(G6 f x.2 vs).map fun y=>(x.1::y.1,y.2)
noncomputable def fz:Nat->List M->V->Option (D×List M)
 | 0,mu,v=>v.d?.map fun d=>(d,mu)
 | n+1,mu,v=>V.casesOn v (fun d=>some (d,mu))
   (fun i=>(mu[i]?).bind fun m=>M.casesOn m
    (fun l=>(G6 (fz n) mu l).bind fun x=>((x.2[i]?).bind M.list?).map fun ζ=>(.lst x.1,x.2.set i (.frozen (.lst x.1))))
    (fun c=>((mu[i+1]?).bind M.attrs?).bind fun q=>(G6 (fz n) mu q.2).bind fun x=>((x.2[i]?).bind M.zT).bind fun ζ=>((x.2[i+1]?).bind M.attrs?).bind fun ζ=>
     bif Nat.beq c q.1 then some (.obj c x.1,(x.2.set (i+1) .dead).set i (.frozen (.obj c x.1))) else none)
    (fun ζ ζ=>none)
    (fun ks l=>(G6 (fz n) mu l).bind fun x=>((x.2[i]?).bind M.mO).map fun ζ=>(.D7 ks x.1,x.2.set i (.frozen (.D7 ks x.1))))
    (fun d=>some (d,mu)) none)
   (fun l=>(G6 (fz n) mu l).map fun x=>(.tup x.1,x.2))
noncomputable def toD (v:V) (σ:St) (k:D->St->Prop):Prop:=oe (fz 6 σ.mu v) fun x=>k x.1 ⟨σ.vars,x.2⟩
noncomputable def R7 (vs:List V) (σ:St) (k:List D->St->Prop):Prop:=oe (G6 (fz 6) σ.mu vs) fun x=>k x.1 ⟨σ.vars,x.2⟩
noncomputable def aB1 (b:Bool):Option Bool:=bif b then some true else none
mutual
noncomputable def B8:D->D->Option Bool
 | .none,e=>aB1 e.AY
 | .bool a,e=>e.bool?.map fun b=>a==b
 | .int a,e=>e.int?.map fun b=>a==b
 | .str a,e=>e.str?.map fun b=>a==b
 | .bytes a,e=>e.UI.map fun b=>a==b
 | .tup a,e=>e.rP.bind fun b=>(E7 a b).map fun r=>r&&a.length==b.length
 | .lst a,e=>e.E5.bind fun b=>List.casesOn b (some a.isEmpty) fun x y=>bif a.length==(x::y).length then E7 a (x::y) else some false
 | .D7 ks a,e=>e.W7.bind fun q=>bif ks==q.1 then E7 a q.2 else none
 | .obj _ _,_=>none
noncomputable def E7:List D->List D->Option Bool
 | [],_=>some true
 | a::as,b=>List.casesOn b (some true) fun b bs=>(B8 a b).bind fun x=>(E7 as bs).map fun y=>x&&y
end
mutual
noncomputable def dep:D->Nat
 | .none=>0
 | .bool _=>0
 | .int _=>0
 | .str _=>0
 | .bytes _=>0
 | .tup l=>deps l+1
 | .lst l=>deps l+1
 | .D7 _ l=>deps l+1
 | .obj _ _=>0
noncomputable def deps:List D->Nat
 | []=>0
 | d::ds=>max (dep d) (deps ds)
end
noncomputable def pin (d:D):List D->Option Bool
 | []=>some false
 | e::es=>(B8 e d).bind fun x=>(pin d es).map fun y=>x||y
noncomputable def vI (d:D):Bool:=D.casesOn d true (fun ζ=>true) (fun ζ=>true) (fun ζ=>true) (fun ζ=>false) (fun ζ=>true) (fun ζ=>true) (fun ζ ζ=>false) (fun ζ ζ=>true)
noncomputable def j7 (b:Bool) (P:Prop):Prop:=br b P False
noncomputable def Fw (o:Operator) (x y:Int) (σ:St) (Q:V->St->Prop):Prop:=match o with
 | .Add=>Q (.val (.int (x+y))) σ
 | .Sub=>Q (.val (.int (x-y))) σ
 | .Mult=>(-4611686018427387904<=x/\x<=4611686018427387904)/\Q (.val (.int (x*y))) σ
 | .MatMult=>False
 | .Div=>False
 | .Mod=>y≠0/\Q (.val (.int (x.fmod y))) σ
 | .Pow=>x=10/\y=12/\Q (.val (.int 1000000000000)) σ
 | .LShift=>False
 | .RShift=>False
 | .BitOr=>Q (.val (.int (Builtin.bitOr x y))) σ
 | .BitXor=>Q (.val (.int (bP x y))) σ
 | .BitAnd=>Q (.val (.int (A9 x y))) σ
 | .FloorDiv=>(0<y/\y<1000000)/\Q (.val (.int (x.fdiv y))) σ
noncomputable def NP (a b:V) (σ:St) (Q:V->St->Prop):Prop:=oe (gJ σ.mu a) fun l=>oe (gJ σ.mu b) fun m=>j7 (Nat.ble (l.length+m.length) d9) (Q (.loc σ.mu.length) (σ.alloc (.list (l++m))))
noncomputable def V.E5 (v:V):Option (List D):=v.d?.bind D.E5
noncomputable def rX (a b:V) (σ:St) (Q:V->St->Prop):Prop:=Option.casesOn (a.E5.bind fun x=>b.E5.map fun y=>(x,y)) (NP a b σ Q) fun q=>j7 (Nat.ble (q.1.length+q.2.length) d9) (Q (.val (.lst (q.1++q.2))) σ)
noncomputable def Fy (a b:V) (σ:St) (Q:V->St->Prop):Prop:=oe (gJ σ.mu a) fun l=>oe b.int? fun n=>((-1000<=n/\n<=1000)/\l.length<=1000)/\Q (.loc σ.mu.length) (σ.alloc (.list (List.replicate n.toNat l).flatten))
noncomputable def isAdd (o:Operator):Bool:=match o with | .Add=>true | .Sub=>false | .Mult=>false | .MatMult=>false | .Div=>false | .Mod=>false | .Pow=>false | .LShift=>false | .RShift=>false | .BitOr=>false | .BitXor=>false | .BitAnd=>false | .FloorDiv=>false
noncomputable def isMul (o:Operator):Bool:=match o with | .Add=>false | .Sub=>false | .Mult=>true | .MatMult=>false | .Div=>false | .Mod=>false | .Pow=>false | .LShift=>false | .RShift=>false | .BitOr=>false | .BitXor=>false | .BitAnd=>false | .FloorDiv=>false
noncomputable def rY (o:Operator) (a b:V) (σ:St) (Q:V->St->Prop):Prop:=Option.casesOn a.int?
 (br (isAdd o) (rX a b σ Q) (br (isMul o) (Fy a b σ Q) False))
 fun x=>oe b.int? fun y=>Fw o x y σ Q
noncomputable def keysOf (mu:List M) (v:V):Option (List Int):=V.casesOn v (fun d=>d.W7.map (fun ζ=>ζ.1)) (fun i=>((mu[i]?).bind M.mO).map (fun ζ=>ζ.1)) (fun ζ=>none)
noncomputable def CY (neg:Bool) (a b:V) (σ:St) (Q:V->St->Prop):Prop:=Option.casesOn (keysOf σ.mu b)
 (oe (pk 6 σ.mu a) fun d=>oe (U6 σ.mu b) fun l=>oe (M8 (pk 6 σ.mu) l) fun ds=>oe (pin d ds) fun r=>j7 (Nat.ble (dep d) 90) (Q (.val (.bool (bif neg then !r else r))) σ))
 fun ks=>oe a.int? fun k=>br neg False (Q (.val (.bool (ks.contains k))) σ)
noncomputable def Vl (v:V):Option Bool:=V.casesOn v (fun d=>D.casesOn d (some true) (fun ζ=>some false) (fun ζ=>none) (fun ζ=>none) (fun ζ=>none) (fun ζ=>none) (fun ζ=>some false) (fun ζ ζ=>none) (fun ζ ζ=>some false)) (fun ζ=>some false) (fun ζ=>none)
noncomputable def V.AY (v:V):Bool:=V.casesOn v D.AY (fun ζ=>false) (fun ζ=>false)
noncomputable def NS (neg:Bool) (a b:V) (σ:St) (Q:V->St->Prop):Prop:=br b.AY
 (oe (Vl a) fun r=>Q (.val (.bool (bif neg then !r else r))) σ)
 (oe (a.d?.bind D.obj?) fun x=>oe (b.d?.bind D.obj?) fun y=>∀ r,(r=true->x=y)->Q (.val (.bool (bif neg then !r else r))) σ)
noncomputable def jV (a b:V) (f:Int->Int->Prop):Prop:=oe a.int? fun x=>oe b.int? fun y=>f x y
noncomputable def S8 (o:CmpOp) (a b:V) (σ:St) (Q:V->St->Prop):Prop:=match o with
 | .Eq=>oe (pk 6 σ.mu a) fun d=>oe (pk 6 σ.mu b) fun e=>oe (B8 d e) fun r=>j7 (Nat.ble (dep e) 90) (Q (.val (.bool r)) σ)
 | .NotEq=>oe (pk 6 σ.mu a) fun d=>oe (pk 6 σ.mu b) fun e=>oe (B8 d e) fun r=>j7 (vI d&&Nat.ble (dep e) 90) (Q (.val (.bool (!r))) σ)
 | .Lt=>jV a b fun x y=>Q (.val (.bool (decide (x<y)))) σ
 | .LtE=>jV a b fun x y=>Q (.val (.bool (decide (x<=y)))) σ
 | .Gt=>jV a b fun x y=>Q (.val (.bool (decide (x>y)))) σ
 | .GtE=>jV a b fun x y=>Q (.val (.bool (decide (x≥y)))) σ
 | .Is=>NS false a b σ Q
 | .IsNot=>NS true a b σ Q
 | .In=>CY false a b σ Q
 | .NotIn=>CY true a b σ Q
noncomputable def x7 (v:V) (σ:St) (Q:Bool->St->Prop):Prop:=oe v.bool? fun b=>Q b σ
noncomputable def L6 {α:Type} (l:List α) (k:Int):Option α:=Int.casesOn k (fun n=>l[n]?) fun m=>bif Nat.ble (m+1) l.length then l[l.length-(m+1)]? else none
noncomputable def dictAt (mu:List M) (v:V) (k:Int):Option V:=V.casesOn v (fun d=>d.W7.bind fun q=>(q.1.idxOf? k).bind fun j=>(q.2[j]?).map V.val) (fun i=>((mu[i]?).bind M.mO).bind fun q=>(q.1.idxOf? k).bind fun j=>q.2[j]?) (fun ζ=>none)
noncomputable def N1 (o i:V) (σ:St) (Q:V->St->Prop):Prop:=oe i.int? fun k=>Option.casesOn (U6 σ.mu o) (oe (dictAt σ.mu o k) fun v=>Q v σ) fun l=>oe (L6 l k) fun v=>Q v σ
noncomputable def BE (x:Option V):Option (Option Int):=Option.casesOn x (some none) fun v=>v.int?.map some
noncomputable def B3 {α:Type} (l:List α) (lo hi:Option Int):List α:=(l.drop (sliceBounds lo hi none l.length).1.toNat).take ((sliceBounds lo hi none l.length).2.1-(sliceBounds lo hi none l.length).1).toNat
noncomputable def Ga (o:V) (lo hi st:Option V) (σ:St) (Q:V->St->Prop):Prop:=oe (BE lo) fun a=>oe (BE hi) fun b=>oe (BE st) fun c=>Option.casesOn o.E5
 (oe (gJ σ.mu o) fun l=>Option.casesOn c (Q (.loc σ.mu.length) (σ.alloc (.list (B3 l a b)))) fun n=>(a=none/\b=none/\n=-1)/\Q (.loc σ.mu.length) (σ.alloc (.list l.reverse)))
 fun l=>Option.casesOn c (Q (.val (.lst (B3 l a b))) σ) fun n=>(a=none/\b=none/\n=-1)/\Q (.val (.lst l.reverse)) σ
noncomputable def setAt {α:Type} (l:List α) (j:Nat) (v:α):List α:=bif Nat.blt j l.length then l.set j v else l++[v]
noncomputable def mJ (C:Addr):Bool:=Nat.beq C 55||Nat.beq C 202||Nat.beq C 343||Nat.beq C 441
noncomputable def posOf (C:Addr) (j:Nat):Option Nat:=bif Nat.beq C 55 then(bif Nat.blt j 11 then some j else none) else bif Nat.beq C 202 then(bif Nat.ble 11 j&&Nat.blt j 15 then some (j-11) else none)
 else bif Nat.beq C 343||Nat.beq C 441 then(bif Nat.ble 15 j&&Nat.blt j 19 then some (j-15) else none) else none
noncomputable def NR (c:Addr) (l:List D) (j:Nat) (σ:St) (Q:V->St->Prop):Prop:=oe (posOf c j) fun p=>oe (l[p]?) fun d=>Q (.val d) σ
noncomputable def cM (o:V) (j:Nat) (σ:St) (Q:V->St->Prop):Prop:=V.casesOn o
 (fun d=>oe d.obj? fun q=>NR q.1 q.2 j σ Q)
 (fun i=>oe (σ.mu[i]?) fun m=>M.casesOn m (fun ζ=>False) (fun c=>oe ((σ.mu[i+1]?).bind M.attrs?) fun q=>j7 (Nat.beq c q.1) (oe (posOf c j) fun p=>oe (q.2[p]?) fun v=>Q v σ)) (fun ζ ζ=>False) (fun ζ ζ=>False) (fun d=>oe d.obj? fun q=>NR q.1 q.2 j σ Q) False)
 (fun ζ=>False)
noncomputable def DB (o:V) (j:Nat) (v:V) (σ:St) (Q:St->Prop):Prop:=oe o.loc? fun i=>oe ((σ.mu[i]?).bind M.zT) fun c=>oe ((σ.mu[i+1]?).bind M.attrs?) fun q=>j7 (Nat.beq c q.1) (oe (posOf c j) fun p=>j7 (Nat.ble p q.2.length) (rD (setAt q.2 p v) fun l=>Q (σ.R3 (i+1) (.attrs c l))))
noncomputable def aS (ds:List D):Option (List Int):=M8 D.int? ds
noncomputable def NT (vs:List V) (σ:St) (Q:V->St->Prop):Prop:=List.casesOn vs False fun a r=>List.casesOn r
 (toD a σ fun d σ'=>oe d.E5 fun ds=>oe (aS ds) fun ns=>List.casesOn ns False fun n ns=>Q (.val (.int (ns.foldl max n))) σ')
 fun b r=>oe a.int? fun x=>oe b.int? fun y=>List.casesOn r (Q (.val (.int (max x y))) σ) fun c r=>List.casesOn r (oe c.int? fun z=>Q (.val (.int (max (max x y) z))) σ) fun ζ ζ=>False
noncomputable def one {α:Type} (vs:List α) (f:α->Prop):Prop:=List.casesOn vs False fun a r=>List.casesOn r (f a) fun ζ ζ=>False
noncomputable def CV (b:BI) (vs:List V) (σ:St) (Q:V->St->Prop):Prop:=match b with
 | .len=>one vs fun v=>oe (U6 σ.mu v) fun l=>Q (.val (.int l.length)) σ
 | .list=>one vs fun v=>Option.casesOn v.E5 (oe (gJ σ.mu v) fun l=>Q (.loc σ.mu.length) (σ.alloc (.list l))) fun l=>Q (.val (.lst l)) σ
 | .sum=>one vs fun v=>toD v σ fun d σ'=>oe d.E5 fun ds=>oe (aS ds) fun ns=>Q (.val (.int ns.sum)) σ'
 | .max=>NT vs σ Q
 | .min=>List.casesOn vs False fun a r=>one r fun b=>oe a.int? fun x=>oe b.int? fun y=>Q (.val (.int (min x y))) σ
 | .int=>one vs fun v=>oe v.int? fun x=>Q (.val (.int x)) σ
 | .dict=>one vs fun v=>oe (v.d?.bind D.W7) fun q=>Q (.loc σ.mu.length) (σ.alloc (.dict q.1 (q.2.map .val)))
noncomputable def lB (i:Nat) (v:V) (σ:St) (Q:V->St->Prop):Prop:=oe ((σ.mu[i]?).bind M.list?) fun l=>j7 (Nat.blt l.length d9) (Q (.val .none) (σ.R3 i (.list (l++[v]))))
noncomputable def Fz (i:Nat) (σ:St) (Q:V->St->Prop):Prop:=oe ((σ.mu[i]?).bind M.list?) fun l=>oe l.getLast? fun v=>Q v (σ.R3 i (.list l.dropLast))
noncomputable def Ft (i:Nat) (u:V) (σ:St) (Q:V->St->Prop):Prop:=oe ((σ.mu[i]?).bind M.list?) fun l=>oe (gJ σ.mu u) fun k=>j7 (Nat.ble (l.length+k.length) d9&&!(u.loc?==some i)) (Q (.val .none) (σ.R3 i (.list (l++k))))
noncomputable def KH (vs:List V):V:=Option.casesOn (M8 V.d? vs) (.tup vs) fun ds=>.val (.tup ds)
noncomputable def bindTo (is:List Nat) (vs:List V) (l:List (Option V)):List (Option V):=(is.zip vs).foldl (fun l p=>l.set p.1 (some p.2)) l
noncomputable def fS:List Nat->Bool
 | []=>true
 | x::l=>!(l.any (Nat.beq x))&&fS l
noncomputable def C6 (t:Tg) (v:V) (σ:St) (Q:St->Prop):Prop:=match t with
 | .var i=>j7 (Nat.blt i σ.vars.length) (Q (σ.MF i v))
 | .tup is=>oe (U6 σ.mu v) fun l=>j7 (Nat.beq is.length l.length&&(fS is&&is.all fun i=>Nat.blt i σ.vars.length)) (Q ⟨bindTo is l σ.vars,σ.mu⟩)
noncomputable def uI (i:Nat):List Nat->Option Nat
 | []=>none
 | x::l=>bif Nat.beq x i then some 0 else(uI i l).map Nat.succ
noncomputable def qU (n:Nat) (p:List Nat) (i:Nat):Option Nat:=bif Nat.blt i n then some i else(uI i p).map fun j=>n+j
mutual
noncomputable def V.re (n:Nat) (p:List Nat):V->Option V
 | .val d=>some (.val d)
 | .loc i=>(qU n p i).map .loc
 | .tup l=>(V.res n p l).map .tup
noncomputable def V.res (n:Nat) (p:List Nat):List V->Option (List V)
 | []=>some []
 | v::vs=>(v.re n p).bind fun v=>(V.res n p vs).map fun vs=>v::vs
end
noncomputable def M.re (n:Nat) (p:List Nat) (i q:Nat) (m:M):M:=M.casesOn m (fun l=>Option.casesOn (V.res n p l) .dead .list)
 (fun c=>bif Option.casesOn (qU n p (i+1)) false (fun j=>Nat.beq j (q+1)) then .inst c else .dead)
 (fun c l=>Option.casesOn (V.res n p l) .dead (.attrs c)) (fun ks l=>Option.casesOn (V.res n p l) .dead (.dict ks)) .frozen .dead
noncomputable def keepR (n:Nat) (p:List Nat):Nat->List M->List M
 | _,[]=>[]
 | i,m::mu=>bif Nat.blt i n then m.re n p i i::keepR n p (i+1) mu else []
noncomputable def vG (n:Nat) (p:List Nat) (mu:List M):Nat->List Nat->List M
 | _,[]=>[]
 | q,i::l=>((mu[i]?).getD .dead).re n p i q::vG n p mu (q+1) l
noncomputable def cI (n:Nat) (p:List Nat) (mu:List M):List M:=keepR n p 0 mu++vG n p mu n p
noncomputable def cut (n:Nat) (mu:List M):List M:=keepR n [] 0 mu
noncomputable def iI (n:Nat) (p:List Nat) (len:Nat):Bool:=p.all (fun i=>Nat.ble n i&&Nat.blt i len)&&fS p
noncomputable def St.pick (n:Nat) (p:List Nat) (σ:St):St:=⟨σ.vars.map fun v=>v.bind (V.re n p),cI n p σ.mu⟩
noncomputable def P8 (fs:List Nat) (vs:List (Option V)):List (Option V):=fs.foldl (fun l i=>l.set i none) vs
noncomputable def St.forget (fs:List Nat) (σ:St):St:=⟨P8 fs σ.vars,σ.mu⟩
noncomputable def Let (n:Nat) (fs:List Nat) (I:St->Prop) (σ:St):Prop:=∃ p,Option.casesOn p (I (σ.forget fs)) fun p=>iI n p σ.mu.length=true/\I ((σ.pick n p).forget fs)
inductive Gl (G:Gd) (c:Cx) (P:V->List M->Prop) (r:Result) (s':Shared):Prop
 | mk (v:Value) (e:r=.ok (.ret v)) (c':Cx) (u:V) (e':c'.s=s') (hp:A0 G c') (st:Step I3 c c') (rv:i0 G c' u v) (p:P u c'.σ.mu)
noncomputable abbrev Gm (G:Gd) (c:Cx) (P:V->List M->Prop):Result->Shared->Prop:=Gl G c P
noncomputable def C8 (G:Gd) (k:Nat) (f:Value) (args:List V) (mu:List M) (P:V->List M->Prop):Prop:=
 ∀ A c vs,nZ k A->c.σ=⟨[],mu⟩->A0 G c->o8 G c args vs->eU (a1l G.prog G.w) A (.call f ⟨vs,[]⟩) (Gm G c P) c.s
noncomputable def Pure (G:Gd) (k:Nat) (f:Addr) (ds:List D) (d:D):Prop:=C8 G k (.ref f) (ds.map .val) [] fun r ζ=>r=.val d
mutual
noncomputable def L7 (n:Nat):V->V
 | .val d=>.val d
 | .loc i=>.loc (n+i)
 | .tup l=>.tup (rF n l)
noncomputable def rF (n:Nat):List V->List V
 | []=>[]
 | v::vs=>L7 n v::rF n vs
end
noncomputable def bM (n:Nat) (m:M):M:=M.casesOn m (fun l=>.list (rF n l)) .inst (fun c l=>.attrs c (rF n l)) (fun ks l=>.dict ks (rF n l)) .frozen .dead
noncomputable def wZ (G:Gd) (k:Nat) (C:Addr) (ds:List D) (r:V) (mu:List M):Prop:=C8 G k (.ref C) (ds.map .val) [] fun r' d8=>r'=r/\d8=mu
noncomputable def qI (c:Addr) (m:Mt):Option Addr:=
 let w:=Nat.beq c 343
 bif w||Nat.beq c 441 then(match m with
  | .append=>none | .pop=>none | .extend=>none
  | .pre=>some 228 | .post=>some (bif w then 333 else 431) | .copy=>some 242 | .short=>some (bif w then 340 else 438) | .walk=>some 256 | .enter=>some 263) else none
noncomputable def cal (G:Gd) (k:Nat) (f:Addr) (ds:List D) (K:D->Prop):Prop:=∃ d,Pure G k f ds d/\K d
noncomputable def cC (G:Gd) (k:Nat) (f:Addr) (ds:List D) (K:V->List M->Prop):Prop:=∃ r mu,wZ G k f ds r mu/\K r mu
structure Wp where
 e:E->St->(V->St->Prop)->Prop
 t:E->St->(Bool->St->Prop)->Prop
 x:List S->St->(Fl->St->Prop)->Prop
section
variable (e:E->St->(V->St->Prop)->Prop) (t:E->St->(Bool->St->Prop)->Prop)
noncomputable def aC:List E->St->(List V->St->Prop)->Prop
 | [],σ,Q=>Q [] σ
 | x::xs,σ,Q=>e x σ fun v σ'=>aC xs σ' fun vs σ''=>Q (v::vs) σ''
noncomputable def CZ (x:Option E) (σ:St) (Q:Option V->St->Prop):Prop:=Option.casesOn x (Q none σ) fun x=>e x σ fun v σ'=>Q (some v) σ'
noncomputable def NQ:List E->St->(V->St->Prop)->Prop
 | [],_,_=>False
 | x::xs,σ,Q=>List.casesOn xs (e x σ Q) fun ζ ζ=>e x σ fun v σ'=>x7 v σ' fun b σ''=>br b (NQ xs σ'' Q) (Q v σ'')
noncomputable def NU:List E->St->(V->St->Prop)->Prop
 | [],_,_=>False
 | x::xs,σ,Q=>List.casesOn xs (e x σ Q) fun ζ ζ=>e x σ fun v σ'=>x7 v σ' fun b σ''=>br b (Q v σ'') (NU xs σ'' Q)
noncomputable def Y3:List E->St->(Bool->St->Prop)->Prop
 | [],σ,Q=>Q true σ
 | x::xs,σ,Q=>t x σ fun b σ'=>br b (Y3 xs σ' Q) (Q false σ')
noncomputable def iR:List E->St->(Bool->St->Prop)->Prop
 | [],σ,Q=>Q false σ
 | x::xs,σ,Q=>t x σ fun b σ'=>br b (Q true σ') (iR xs σ' Q)
noncomputable def Y0:List E->V->List CmpOp->St->(V->St->Prop)->Prop
 | [],_,_,_,_=>False
 | x::xs,a,ops,σ,Q=>List.casesOn ops False fun o os=>e x σ fun b σ'=>S8 o a b σ' fun c σ''=>List.casesOn os (Q c σ'') fun ζ ζ=>x7 c σ'' fun r σ3=>br r (Y0 xs b os σ3 Q) (Q c σ3)
noncomputable def DA:List E->List E->St->(List Int->List V->St->Prop)->Prop
 | [],vs,σ,Q=>List.casesOn vs (Q [] [] σ) fun ζ ζ=>False
 | k::ks,vs,σ,Q=>List.casesOn vs False fun v vs=>e k σ fun a σ'=>e v σ' fun b σ''=>DA ks vs σ'' fun ns us σ3=>oe a.int? fun n=>Q (n::ns) (b::us) σ3
noncomputable def wN:List E->St->(Bool->St->Prop)->Prop
 | [],σ,Q=>Q true σ
 | x::xs,σ,Q=>t x σ fun b σ'=>br b (wN xs σ' Q) (Q false σ')
end
noncomputable def z7 (body:D->List D->List M->(List D->List M->Prop)->Prop):List D->List D->List M->(List D->List M->Prop)->Prop
 | [],acc,mu,K=>K acc mu
 | d::ds,acc,mu,K=>body d acc mu fun acc' d8=>z7 body ds acc' d8 K
noncomputable def CA (cap:List Nat):Nat->List (Option V)->List (Option V)
 | _,[]=>[]
 | i,v::l=>(bif cap.any (Nat.beq i) then v else none)::CA cap (i+1) l
noncomputable def seen (cap:List Nat) (len:Nat) (vars:List (Option V)):List (Option V):=CA cap 0 ((vars++List.replicate (len-vars.length) none).take len)
noncomputable def O8 (t:Tg):List Nat:=match t with
 | .var i=>[i]
 | .tup l=>l
noncomputable def J3 (W:Wp) (vars:List (Option V)) (n₀:Nat) (elt:E) (t:Tg) (ifs:List E) (d:D) (acc:List D) (mu:List M) (K:List D->List M->Prop):Prop:=
 C6 t (.val d) ⟨vars,mu⟩ fun σ=>wN W.t ifs σ fun ok σ'=>br ok (W.e elt σ' fun r σ''=>toD r σ'' fun rd σ3=>K (acc++[rd]) (cut n₀ σ3.mu)) (K acc (cut n₀ σ'.mu))
noncomputable def zB (W:Wp) (vars:List (Option V)) (n₀:Nat) (elt:E) (t:Tg) (ifs:List E) (t2:Tg) (aZ:E) (L4:List E) (d:D) (acc:List D) (mu:List M) (K:List D->List M->Prop):Prop:=
 C6 t (.val d) ⟨vars,mu⟩ fun σ=>wN W.t ifs σ fun ok σ'=>br ok
  (W.e aZ σ' fun r σ''=>toD r σ'' fun rd σ3=>oe rd.seq? fun ds=>z7 (fun d acc mu K=>j7 (Nat.blt acc.length d9) (J3 W (P8 (O8 t2) σ.vars) σ3.mu.length elt t2 L4 d acc mu K)) ds acc σ3.mu fun acc' d8=>K acc' (cut n₀ d8))
  (K acc (cut n₀ σ'.mu))
noncomputable def again (Q:Fl->St->Prop) (J:St->Prop) (f:Fl) (σ:St):Prop:=Fl.casesOn f (J σ) fun v=>Q (.ret v) σ
noncomputable def NO (W:Wp) (t:E) (b rest:List S) (Q:Fl->St->Prop) (J:St->Prop) (σ₁:St):Prop:=W.t t σ₁ fun r σ'=>br r (W.x b σ' (again Q J)) (W.x rest σ' Q)
noncomputable def wh (W:Wp) (t:E) (b rest:List S) (σ:St) (Q:Fl->St->Prop):Prop:=
 ∃(fs:List Nat) (I:Nat->St->Prop),(∃ n,I n (σ.forget fs))/\
  ∀ n σ₁,I n σ₁->σ.mu.length<=σ₁.mu.length->NO W t b rest Q (Let σ.mu.length fs fun σ''=>∃ m,m<n/\I m σ'') σ₁
noncomputable def HY (W:Wp) (t:Tg) (b:List S) (Q:Fl->St->Prop) (J:St->Prop) (d:D) (σ₁:St):Prop:=C6 t (.val d) σ₁ fun σ₂=>W.x b σ₂ (again Q J)
noncomputable def fo (W:Wp) (t:Tg) (b rest:List S) (Q:Fl->St->Prop) (ds:List D) (σ':St):Prop:=
 ∃(fs:List Nat) (I:List D->St->Prop),I ds (σ'.forget fs)/\
  (∀ d rs σ₁,I (d::rs) σ₁->σ'.mu.length<=σ₁.mu.length->HY W t b Q (Let σ'.mu.length fs (I rs)) d σ₁)/\
  (∀ σ₁,I [] σ₁->σ'.mu.length<=σ₁.mu.length->W.x rest σ₁ Q)
noncomputable def isTup (t:Tg):Bool:=match t with | .var _=>false | .tup _=>true
noncomputable def numbered (ds:List D):List D:=ds.zipIdx.map fun p=>.tup [.int p.2,p.1]
noncomputable def P4 (G:Gd) (k:Nat) (W:Wp) (m:Mt) (l:List E) (a:V) (σ':St) (Q:V->St->Prop):Prop:=
 oe a.loc? fun i=>oe (σ'.mu[i]?) fun ob=>M.casesOn ob
  (fun ζ=>match m with
   | .append=>one l fun e=>W.e e σ' fun v σ''=>lB i v σ'' Q
   | .pop=>List.casesOn l (Fz i σ' Q) fun ζ ζ=>False
   | .extend=>one l fun e=>W.e e σ' fun v σ''=>Ft i v σ'' Q
   | .pre=>False | .post=>False | .copy=>False | .short=>False | .enter=>False | .walk=>False)
  (fun c=>oe (qI c m) fun f=>oe ((σ'.mu[i+1]?).bind M.attrs?) fun q=>j7 (Nat.beq c q.1) (aC W.e l σ' fun vs σ''=>∃ P,C8 G k (.ref f) (a::vs) σ''.mu P/\∀ r mu,P r mu->Q r ⟨σ''.vars,mu⟩))
  (fun ζ ζ=>False) (fun ζ ζ=>False) (fun ζ=>False) False
noncomputable def laid (σ:St) (mu:List M):St:=⟨σ.vars,σ.mu++mu.map (bM σ.mu.length)⟩
noncomputable def fZ (G:Gd) (k:Nat) (W:Wp) (x:E) (σ:St) (Q:V->St->Prop):Prop:=match x with
 | .const d=>Q (.val d) σ
 | .var i=>oe ((σ.vars[i]?).bind id) fun v=>Q v σ
 | .bin o l r=>W.e l σ fun a σ'=>W.e r σ' fun b σ''=>rY o a b σ'' Q
 | .not x=>W.e x σ fun v σ'=>x7 v σ' fun b σ''=>Q (.val (.bool (!b))) σ''
 | .neg x=>W.e x σ fun v σ'=>oe v.int? fun i=>Q (.val (.int (-i))) σ'
 | .and l=>NQ W.e l σ Q
 | .or l=>NU W.e l σ Q
 | .cmp l ops es=>W.e l σ fun a σ'=>Y0 W.e es a ops σ' Q
 | .ite t b o=>W.t t σ fun r σ'=>br r (W.e b σ' Q) (W.e o σ' Q)
 | .tup l=>aC W.e l σ fun vs σ'=>Q (KH vs) σ'
 | .lst l=>aC W.e l σ fun vs σ'=>Q (.loc σ'.mu.length) (σ'.alloc (.list vs))
 | .dict ks vs=>DA W.e ks vs σ fun ns us σ'=>ns.Nodup/\Q (.loc σ'.mu.length) (σ'.alloc (.dict ns us))
 | .idx o i=>W.e o σ fun a σ'=>W.e i σ' fun b σ''=>N1 a b σ'' Q
 | .slice o lo hi st=>W.e o σ fun a σ'=>CZ W.e lo σ' fun l σ1=>CZ W.e hi σ1 fun h σ2=>CZ W.e st σ2 fun s σ3=>Ga a l h s σ3 Q
 | .attr o j=>W.e o σ fun a σ'=>cM a j σ' Q
 | .lazy o=>W.e o σ fun a σ'=>oe (a.d?.bind D.obj?) fun q=>j7 (Nat.beq q.1 55) (∃ j,j<k/\cal G j 43 [.obj 55 q.2] fun r=>Q (.val r) σ')
 | .call f l=>aC W.e l σ fun vs σ'=>R7 vs σ' fun ds σ''=>br (Nat.beq f 115) (cC G k f ds fun r mu=>Q (L7 σ''.mu.length r) (laid σ'' mu)) (cal G k f ds fun d=>Q (.val d) σ'')
 | .new c l=>j7 (mJ c) (aC W.e l σ fun vs σ'=>R7 vs σ' fun ds σ''=>cC G k c ds fun r mu=>Q (L7 σ''.mu.length r) (laid σ'' mu))
 | .bi b l=>aC W.e l σ fun vs σ'=>CV b vs σ' Q
 | .A5 o m l=>W.e o σ fun a σ'=>P4 G k W m l a σ' Q
 | .comp cap len elt c more=>match c with
  | .mk t it ifs=>W.e it σ fun a σ'=>toD a σ' fun d σ''=>oe d.seq? fun ds=>List.casesOn more
   (z7 (J3 W (P8 (O8 t) (seen cap len σ''.vars)) σ''.mu.length elt t ifs) ds [] σ''.mu fun acc mu=>Q (.val (.lst acc)) ⟨σ''.vars,mu⟩)
   fun c2 more=>List.casesOn more (match c2 with
    | .mk t2 aZ L4=>z7 (zB W (P8 (O8 t++O8 t2) (seen cap len σ''.vars)) σ''.mu.length elt t ifs t2 aZ L4) ds [] σ''.mu fun acc mu=>Q (.val (.lst acc)) ⟨σ''.vars,mu⟩)
    fun ζ ζ=>False
noncomputable def DC (W:Wp) (x:E) (σ:St) (Q:Bool->St->Prop):Prop:=
 let go:Prop:=W.e x σ fun v σ'=>x7 v σ' Q
 match x with
 | .not x=>W.t x σ fun b σ'=>Q (!b) σ'
 | .and l=>Y3 W.t l σ Q
 | .or l=>iR W.t l σ Q
 | .ite t b o=>W.t t σ fun r σ'=>br r (W.t b σ' Q) (W.t o σ' Q)
 | .cmp l ops es=>W.e l σ fun a σ'=>Y0 W.e es a ops σ' fun v σ''=>x7 v σ'' Q
 | .const _=>go | .var _=>go | .bin _ _ _=>go | .neg _=>go | .tup _=>go | .lst _=>go | .dict _ _=>go | .idx _ _=>go | .slice _ _ _ _=>go | .attr _ _=>go | .lazy _=>go | .call _ _=>go | .new _ _=>go | .bi _ _=>go | .A5 _ _ _=>go | .comp _ _ _ _ _=>go
noncomputable def setItem (ks:List Int) (l:List V) (n:Int) (v:V):M:=Option.casesOn (ks.idxOf? n) (.dict (ks++[n]) (l++[v])) fun p=>.dict ks (l.set p v)
noncomputable def wM (W:Wp) (t:iY) (v:V) (σ':St) (K:St->Prop):Prop:=match t with
 | .t t=>C6 t v σ' K
 | .attr o j=>W.e o σ' fun a σ''=>DB a j v σ'' K
 | .item o i=>W.e o σ' fun a σ''=>W.e i σ'' fun b σ3=>oe a.loc? fun j=>oe b.int? fun n=>oe ((σ3.mu[j]?).bind M.mO) fun q=>j7 (Nat.blt q.1.length d9) (K (σ3.R3 j (setItem q.1 q.2 n v)))
noncomputable def CX (W:Wp) (t:Tg) (it:It) (b rest:List S) (σ:St) (Q:Fl->St->Prop):Prop:=match it with
 | .e e=>W.e e σ fun v σ'=>toD v σ' fun d σ''=>oe d.seq? fun ds=>fo W t b rest Q ds σ''
 | .range e=>W.e e σ fun v σ'=>oe v.int? fun n=>(-1000000<=n/\n<=1000000)/\fo W t b rest Q ((List.range n.toNat).map fun i=>.int (i:Nat)) σ'
 | .enum e=>W.e e σ fun v σ'=>toD v σ' fun d σ''=>oe d.E5 fun ds=>j7 (isTup t) (fo W t b rest Q (numbered ds) σ'')
noncomputable def l8 (W:Wp) (rest:List S) (Q:Fl->St->Prop) (f:Fl) (σ':St):Prop:=Fl.casesOn f (W.x rest σ' Q) fun v=>Q (.ret v) σ'
noncomputable def wpS (W:Wp) (l:List S) (Q:Fl->St->Prop) (σ:St):Prop:=List.casesOn l (Q .next σ) fun st rest=>match st with
 | .asg t e=>W.e e σ fun v σ'=>wM W t v σ' fun σ''=>W.x rest σ'' Q
 | .expr e=>W.e e σ fun v σ'=>W.x rest σ' Q
 | .ite t b o=>W.t t σ fun r σ'=>br r (W.x b σ' (l8 W rest Q)) (W.x o σ' (l8 W rest Q))
 | .while t b=>wh W t b rest σ Q
 | .for t it b=>CX W t it b rest σ Q
 | .ret e=>W.e e σ fun v σ'=>Q (.ret v) σ'
noncomputable def wO (W:Wp) (l:List S) (σ:St) (Q:Fl->St->Prop):Prop:=rD σ.vars fun vs=>rD σ.mu fun mu=>wpS W l Q ⟨vs,mu⟩
@[irreducible] noncomputable def wp (G:Gd) (k:Nat):Nat->Wp
 | 0=>⟨fun ζ ζ ζ=>False,fun ζ ζ ζ=>False,fun ζ ζ ζ=>False⟩
 | n+1=>⟨fZ G k (wp G k n),DC (wp G k n),wO (wp G k n)⟩
end
end Rx.Lake
end
section
open PySem PySem.W
namespace Rx.Lake
noncomputable def lF:List (Str×GV):=[
 (PySem.Str.ofString "_wall",GV.fn 21),
 (PySem.Str.ofString "MAX_RUNE",GV.const (.int 1114111)),
 (PySem.Str.ofString "FOLD_CASE",GV.const (.int 1)),
 (PySem.Str.ofString "LATIN1",GV.const (.int 32)),
 (PySem.Str.ofString "NON_GREEDY",GV.const (.int 64)),
 (PySem.Str.ofString "WAS_DOLLAR",GV.const (.int 8192)),
 (PySem.Str.ofString "OP_NO_MATCH",GV.const (.int 1)),
 (PySem.Str.ofString "OP_EMPTY",GV.const (.int 2)),
 (PySem.Str.ofString "OP_LITERAL",GV.const (.int 3)),
 (PySem.Str.ofString "OP_STRING",GV.const (.int 4)),
 (PySem.Str.ofString "OP_CONCAT",GV.const (.int 5)),
 (PySem.Str.ofString "OP_ALTERNATE",GV.const (.int 6)),
 (PySem.Str.ofString "OP_STAR",GV.const (.int 7)),
 (PySem.Str.ofString "OP_PLUS",GV.const (.int 8)),
 (PySem.Str.ofString "OP_QUEST",GV.const (.int 9)),
 (PySem.Str.ofString "OP_REPEAT",GV.const (.int 10)),
 (PySem.Str.ofString "OP_CAPTURE",GV.const (.int 11)),
 (PySem.Str.ofString "OP_ANY_CHAR",GV.const (.int 12)),
 (PySem.Str.ofString "OP_ANY_BYTE",GV.const (.int 13)),
 (PySem.Str.ofString "OP_BEGIN_LINE",GV.const (.int 14)),
 (PySem.Str.ofString "OP_END_LINE",GV.const (.int 15)),
 (PySem.Str.ofString "OP_WORD",GV.const (.int 16)),
 (PySem.Str.ofString "OP_NO_WORD",GV.const (.int 17)),
 (PySem.Str.ofString "OP_BEGIN_TEXT",GV.const (.int 18)),
 (PySem.Str.ofString "OP_END_TEXT",GV.const (.int 19)),
 (PySem.Str.ofString "OP_CLASS",GV.const (.int 20)),
 (PySem.Str.ofString "OP_HAVE_MATCH",GV.const (.int 21)),
 (PySem.Str.ofString "NO_BOUND",GV.const (.int (-1))),
 (PySem.Str.ofString "TREE_LOOPS",GV.const (.tup [.int 7,.int 8,.int 9])),
 (PySem.Str.ofString "Regexp",GV.cls 55),
 (PySem.Str.ofString "tree_plain",GV.fn 66),
 (PySem.Str.ofString "tree_literal",GV.fn 73),
 (PySem.Str.ofString "tree_string",GV.fn 80),
 (PySem.Str.ofString "tree_class",GV.fn 87),
 (PySem.Str.ofString "tree_several",GV.fn 94),
 (PySem.Str.ofString "tree_concat",GV.fn 101),
 (PySem.Str.ofString "tree_alternate",GV.fn 108),
 (PySem.Str.ofString "tree_of_one",GV.fn 115),
 (PySem.Str.ofString "tree_loop",GV.fn 122),
 (PySem.Str.ofString "tree_star",GV.fn 129),
 (PySem.Str.ofString "tree_plus",GV.fn 136),
 (PySem.Str.ofString "tree_quest",GV.fn 143),
 (PySem.Str.ofString "tree_repeat",GV.fn 150),
 (PySem.Str.ofString "tree_capture",GV.fn 157),
 (PySem.Str.ofString "tree_with_subs",GV.fn 164),
 (PySem.Str.ofString "tree_flags_that_matter",GV.fn 171),
 (PySem.Str.ofString "tree_top_equal",GV.fn 178),
 (PySem.Str.ofString "tree_equal",GV.fn 185),
 (PySem.Str.ofString "WalkRow",GV.cls 202),
 (PySem.Str.ofString "Walker",GV.cls 266),
 (PySem.Str.ofString "COALESCE_SIGNS",GV.const (.tup [.int 3,.int 20,.int 12,.int 13])),
 (PySem.Str.ofString "COALESCE_REPEATS",GV.const (.tup [.int 7,.int 8,.int 9,.int 10])),
 (PySem.Str.ofString "COALESCE_FLAGS",GV.const (.int 33)),
 (PySem.Str.ofString "coalesce_is_repeat",GV.fn 279),
 (PySem.Str.ofString "coalesce_sign",GV.fn 286),
 (PySem.Str.ofString "coalesce_bounds",GV.fn 293),
 (PySem.Str.ofString "coalesce_can",GV.fn 300),
 (PySem.Str.ofString "coalesce_taken",GV.fn 307),
 (PySem.Str.ofString "coalesce_joined",GV.fn 314),
 (PySem.Str.ofString "coalesced_row",GV.fn 319),
 (PySem.Str.ofString "CoalesceWalker",GV.cls 343),
 (PySem.Str.ofString "coalesced",GV.fn 352),
 (PySem.Str.ofString "SIMPLIFY_LOOPS",GV.const (.tup [.int 7,.int 8,.int 9])),
 (PySem.Str.ofString "SIMPLIFY_PLACES",GV.const (.tup [.int 14,.int 15,.int 16,.int 17,.int 18,.int 19])),
 (PySem.Str.ofString "SIMPLIFY_LATIN1_MOST",GV.const (.int 255)),
 (PySem.Str.ofString "simplify_is_full",GV.fn 361),
 (PySem.Str.ofString "simplify_is_plain",GV.fn 368),
 (PySem.Str.ofString "is_simple",GV.fn 375),
 (PySem.Str.ofString "simplify_is_place",GV.fn 382),
 (PySem.Str.ofString "simplify_class",GV.fn 389),
 (PySem.Str.ofString "simplify_loop",GV.fn 396),
 (PySem.Str.ofString "simplify_from",GV.fn 403),
 (PySem.Str.ofString "simplify_up_to",GV.fn 410),
 (PySem.Str.ofString "simplified_repeat",GV.fn 417),
 (PySem.Str.ofString "SimplifyWalker",GV.cls 441),
 (PySem.Str.ofString "simplified",GV.fn 450),
 (PySem.Str.ofString "_law_digits",GV.fn 457),
 (PySem.Str.ofString "_law_sign",GV.fn 464),
 (PySem.Str.ofString "_law_leaf",GV.fn 471),
 (PySem.Str.ofString "_law_many",GV.fn 476),
 (PySem.Str.ofString "_law_nest",GV.fn 481),
 (PySem.Str.ofString "_law_load",GV.fn 486),
 (PySem.Str.ofString "_law_loops",GV.fn 491),
 (PySem.Str.ofString "_law_loop",GV.fn 498),
 (PySem.Str.ofString "_law_ordered",GV.fn 505),
 (PySem.Str.ofString "_law_put",GV.fn 510),
 (PySem.Str.ofString "_law_read",GV.fn 515),
 (PySem.Str.ofString "_law_small",GV.fn 520),
 (PySem.Str.ofString "_law_stands",GV.fn 527),
 (PySem.Str.ofString "_law_firsts",GV.fn 534),
 (PySem.Str.ofString "_law_rounds",GV.fn 541),
 (PySem.Str.ofString "_law_ways",GV.fn 546),
 (PySem.Str.ofString "_law_kept",GV.fn 553),
 (PySem.Str.ofString "_law_can_be_empty",GV.fn 558),
 (PySem.Str.ofString "_law_is_sure",GV.fn 563),
 (PySem.Str.ofString "_law_is_plain",GV.fn 570),
 (PySem.Str.ofString "law",GV.fn 575),
 (PySem.Str.ofString "len",GV.bi .len),
 (PySem.Str.ofString "list",GV.bi .list),
 (PySem.Str.ofString "sum",GV.bi .sum),
 (PySem.Str.ofString "max",GV.bi .max),
 (PySem.Str.ofString "min",GV.bi .min),
 (PySem.Str.ofString "int",GV.bi .int),
 (PySem.Str.ofString "dict",GV.bi .dict),
 (PySem.Str.ofString "range",GV.range),
 (PySem.Str.ofString "enumerate",GV.enum)]
end Rx.Lake
end
section
open PySem
namespace Rx.Lake
noncomputable abbrev U0:E:=.attr (.var 0) 1
noncomputable abbrev Z0:E:=.attr (.var 1) 0
noncomputable abbrev jB:E:=.attr (.var 1) 1
noncomputable abbrev xH:E:=.attr (.var 1) 2
noncomputable abbrev z6:E:=.attr (.var 0) 0
noncomputable abbrev sF:E:=.attr (.var 0) 3
noncomputable abbrev oG:E:=.attr (.var 0) 4
noncomputable abbrev DP:E:=.attr (.var 0) 5
noncomputable abbrev DQ:E:=.attr (.var 0) 6
noncomputable abbrev DR:E:=.attr (.var 0) 7
noncomputable abbrev xJ:E:=.attr (.var 1) 8
noncomputable abbrev oH:E:=.attr (.var 0) 9
noncomputable abbrev lP:E:=.attr (.var 0) 2
noncomputable abbrev yM:E:=.attr (.var 5) 14
noncomputable abbrev tB:E:=.attr (.var 5) 11
noncomputable abbrev DZ:E:=.attr (.var 3) 0
noncomputable abbrev DY:E:=.attr (.var 2) 0
noncomputable abbrev j9:E:=.const (.int 0)
noncomputable abbrev jW:E:=.const (.int 64)
noncomputable abbrev Z7:E:=.const (.int 3)
noncomputable abbrev J4:E:=.const (.int 2)
noncomputable abbrev j3:E:=.const (.int 1)
noncomputable abbrev bC:E:=.const (.int 4)
noncomputable abbrev pZ:E:=.const (.int 20)
noncomputable abbrev uT:E:=.const (.int 5)
noncomputable abbrev bD:E:=.const (.int 6)
noncomputable abbrev jX:E:=.const (.int 7)
noncomputable abbrev fL:E:=.const (.int 8)
noncomputable abbrev uU:E:=.const (.int 9)
noncomputable abbrev Z6:E:=.const (.int 10)
noncomputable abbrev uS:E:=.const (.int 11)
noncomputable abbrev JL:E:=.const (.int 19)
noncomputable abbrev AA:E:=.const (.int 32)
noncomputable abbrev JM:E:=.const (.int 255)
noncomputable abbrev uR:E:=.const (.int 1114111)
noncomputable abbrev zZ:E:=.const (.int 12)
noncomputable abbrev dK:E:=.const (.int 97)
noncomputable abbrev qA:E:=.const (.int 98)
noncomputable abbrev AB:E:=.const (.int 65)
noncomputable abbrev JH:E:=.const (.int 14)
noncomputable abbrev JI:E:=.const (.int 15)
noncomputable abbrev JK:E:=.const (.int 18)
noncomputable abbrev JJ:E:=.const (.int 16)
noncomputable abbrev b8:E:=.var 0
noncomputable abbrev b9:E:=.var 1
noncomputable abbrev e8:E:=.var 2
noncomputable abbrev l9:E:=.var 3
noncomputable abbrev n9:E:=.var 4
noncomputable abbrev H7:E:=.var 6
noncomputable abbrev A4:E:=.var 5
noncomputable abbrev R9:E:=.var 7
noncomputable abbrev X8:E:=.var 9
noncomputable abbrev M4:E:=.var 8
noncomputable abbrev fX:E:=.var 10
noncomputable abbrev X7:E:=.var 11
noncomputable abbrev R8:E:=.var 12
noncomputable abbrev V7:E:=.var 13
noncomputable abbrev wK:E:=.var 16
noncomputable def SR:List S:=[(.asg (.attr b8 0) b9),(.asg (.attr b8 1) e8),(.asg (.attr b8 2) (.lst [])),(.asg (.attr b8 3) j9),(.asg (.attr b8 4) j9),(.asg (.attr b8 5) j9),(.asg (.attr b8 6) (.const .none)),(.asg (.attr b8 7) j9),(.asg (.attr b8 8) (.lst [])),(.asg (.attr b8 9) (.lst [])),(.asg (.attr b8 10) j9)]
noncomputable def TF:List S:=[(.ret (.cmp (.bin .BitAnd U0 jW) [.NotEq] [j9]))]
noncomputable def TP:List S:=[(.ret (.new 55 [b8,b9]))]
noncomputable def HA:List S:=[(.asg (.t (.var 2)) (.new 55 [Z7,b9])),(.asg (.attr e8 7) b8),(.ret e8)]
noncomputable def HB:List S:=[(.ite (.cmp (.bi .len [b8]) [.Eq] [j9]) [(.ret (.new 55 [J4,b9]))] []),(.ite (.cmp (.bi .len [b8]) [.Eq] [j3]) [(.ret (.call 73 [(.idx b8 j9),b9]))] []),(.asg (.t (.var 2)) (.new 55 [bC,b9])),(.asg (.attr e8 8) (.bi .list [b8])),(.ret e8)]
noncomputable def HC:List S:=[(.asg (.t (.var 2)) (.new 55 [pZ,b9])),(.asg (.attr e8 9) (.bi .list [b8])),(.ret e8)]
noncomputable def HE:List S:=[(.ite (.cmp (.bi .len [e8]) [.Eq] [j9]) [(.ret (.new 55 [b9,l9]))] []),(.ite (.cmp (.bi .len [e8]) [.Eq] [j3]) [(.ret (.idx e8 j9))] []),(.asg (.t (.var 4)) (.new 55 [b8,l9])),(.asg (.attr n9 2) (.bi .list [e8])),(.ret n9)]
noncomputable def SA:List S:=[(.ret (.call 94 [uT,J4,b8,b9]))]
noncomputable def SD:List S:=[(.ret (.call 94 [bD,j3,b8,b9]))]
noncomputable def GH:List S:=[(.asg (.t (.var 3)) (.new 55 [b8,e8])),(.asg (.attr l9 2) (.lst [b9])),(.ret l9)]
noncomputable def SE:List S:=[(.ite (.or [(.cmp Z0 [.NotIn] [(.const (.tup [(.int 7),(.int 8),(.int 9)]))]),(.cmp (.bin .BitAnd (.bin .BitXor jB e8) jW) [.NotEq] [j9])]) [(.ret (.call 115 [b8,b9,e8]))] []),(.ite (.or [(.cmp Z0 [.Eq] [b8]),(.cmp Z0 [.Eq] [jX])]) [(.ret b9)] []),(.ret (.call 115 [jX,(.idx xH j9),e8]))]
noncomputable def SG:List S:=[(.ret (.call 122 [jX,b8,b9]))]
noncomputable def SH:List S:=[(.ret (.call 122 [fL,b8,b9]))]
noncomputable def SI:List S:=[(.ret (.call 122 [uU,b8,b9]))]
noncomputable def GI:List S:=[(.asg (.t (.var 4)) (.call 115 [Z6,b8,b9])),(.asg (.attr n9 3) e8),(.asg (.attr n9 4) l9),(.ret n9)]
noncomputable def GJ:List S:=[(.asg (.t (.var 4)) (.call 115 [uS,b8,b9])),(.asg (.attr n9 5) e8),(.asg (.attr n9 6) l9),(.ret n9)]
noncomputable def GK:List S:=[(.asg (.t (.var 2)) (.new 55 [z6,U0])),(.asg (.attr e8 2) (.bi .list [b9])),(.asg (.attr e8 3) sF),(.asg (.attr e8 4) oG),(.asg (.attr e8 5) DP),(.asg (.attr e8 6) DQ),(.ret e8)]
noncomputable def GL:List S:=[(.ite (.cmp b8 [.In] [(.tup [Z7,bC])]) [(.ret j3)] []),(.ite (.or [(.cmp b8 [.In] [(.const (.tup [(.int 7),(.int 8),(.int 9)]))]),(.cmp b8 [.Eq] [Z6])]) [(.ret jW)] []),(.ret (.ite (.cmp b8 [.Eq] [JL]) (.const (.int 8192)) j9))]
noncomputable def SJ:List S:=[(.ite (.or [(.cmp z6 [.NotEq] [Z0]),(.cmp (.bin .BitAnd (.bin .BitXor U0 jB) (.call 171 [z6])) [.NotEq] [j9])]) [(.ret (.const (.bool false)))] []),(.ite (.cmp z6 [.Eq] [Z7]) [(.ret (.cmp DR [.Eq] [(.attr b9 7)]))] []),(.ite (.cmp z6 [.Eq] [bC]) [(.ret (.cmp (.attr b8 8) [.Eq] [xJ]))] []),(.ite (.cmp z6 [.Eq] [pZ]) [(.ret (.cmp oH [.Eq] [(.attr b9 9)]))] []),(.ite (.cmp z6 [.Eq] [Z6]) [(.ret (.and [(.cmp sF [.Eq] [(.attr b9 3)]),(.cmp oG [.Eq] [(.attr b9 4)])]))] []),(.ite (.cmp z6 [.Eq] [uS]) [(.ret (.and [(.cmp DP [.Eq] [(.attr b9 5)]),(.cmp DQ [.Eq] [(.attr b9 6)])]))] []),(.ite (.cmp z6 [.Eq] [(.const (.int 21))]) [(.ret (.cmp (.attr b8 10) [.Eq] [(.attr b9 10)]))] []),(.ret (.cmp (.bi .len [lP]) [.Eq] [(.bi .len [xH])]))]
noncomputable def tG:List S:=[(.asg (.t (.var 2)) (.lst [(.tup [b8,b9])])),(.while (.cmp e8 [.NotEq] [(.lst [])]) [(.asg (.t (.tup [3,4])) (.A5 e8 .pop [])),(.ite (.cmp l9 [.IsNot] [n9]) [(.ite (.not (.call 178 [l9,n9])) [(.ret (.const (.bool false)))] []),(.for (.tup [5,6]) (.enum (.attr l9 2)) [(.expr (.A5 e8 .append [(.tup [H7,(.idx (.attr n9 2) A4)])]))])] [])]),(.ret (.const (.bool true)))]
noncomputable def SK:List S:=[(.asg (.attr b8 11) b9),(.asg (.attr b8 12) e8),(.asg (.attr b8 13) l9),(.asg (.attr b8 14) (.lst []))]
noncomputable def SM:List S:=[(.asg (.attr b8 15) b9),(.asg (.attr b8 16) (.ite (.cmp e8 [.Is] [(.const .none)]) (.cmp b9 [.Is] [(.const .none)]) e8)),(.asg (.attr b8 17) j9),(.asg (.attr b8 18) (.const (.bool false)))]
noncomputable def GN:List S:=[(.ret (.tup [e8,(.const (.bool false))]))]
noncomputable def Jx:List S:=[(.ret l9)]
noncomputable def GO:List S:=[(.ret b9)]
noncomputable def Jy:List S:=[(.ret e8)]
noncomputable def J7:List S:=[(.asg (.attr b8 17) j9),(.asg (.attr b8 18) (.const (.bool false))),(.asg (.t (.var 3)) (.new 202 [(.const .none),(.const .none),e8])),(.asg (.t (.var 4)) (.lst [l9])),(.expr (.A5 b8 .enter [n9,b9])),(.while (.cmp (.bi .len [n9]) [.Gt] [j3]) [(.asg (.t (.var 5)) (.idx n9 (.neg j3))),(.asg (.t (.var 6)) (.bi .len [yM])),(.ite (.cmp H7 [.Eq] [(.bi .len [(.attr tB 2)])]) [(.expr (.A5 n9 .pop [])),(.expr (.A5 (.attr (.idx n9 (.neg j3)) 14) .append [(.A5 b8 .post [tB,(.attr A4 12),(.attr A4 13),yM])]))] [(.ite (.and [(.attr b8 16),(.cmp H7 [.Gt] [j9]),(.cmp (.idx (.attr tB 2) H7) [.Is] [(.idx (.attr tB 2) (.bin .Sub H7 j3))])]) [(.expr (.A5 yM .append [(.A5 b8 .copy [(.idx yM (.neg j3))])]))] [(.expr (.A5 b8 .enter [n9,(.idx (.attr tB 2) H7)]))])])]),(.ret (.idx (.attr l9 14) j9))]
noncomputable def N8:List S:=[(.asg (.t (.var 3)) (.attr (.idx b9 (.neg j3)) 13)),(.ite (.and [(.cmp (.attr b8 15) [.IsNot] [(.const .none)]),(.cmp (.attr b8 17) [.GtE] [(.attr b8 15)])]) [(.asg (.attr b8 18) (.const (.bool true))),(.expr (.A5 (.attr (.idx b9 (.neg j3)) 14) .append [(.A5 b8 .short [e8,l9])])),(.ret (.const .none))] []),(.asg (.attr b8 17) (.bin .Add (.attr b8 17) j3)),(.asg (.t (.tup [4,5])) (.A5 b8 .pre [e8,l9])),(.ite A4 [(.expr (.A5 (.attr (.idx b9 (.neg j3)) 14) .append [n9]))] [(.expr (.A5 b9 .append [(.new 202 [e8,l9,n9])]))])]
noncomputable def SN:List S:=[(.ite (.and [(.cmp z6 [.Eq] [Z6]),(.cmp oG [.NotEq] [(.const (.int (-1)))]),(.cmp oG [.Lt] [sF])]) [(.ret (.const (.bool false)))] []),(.ret (.and [(.cmp z6 [.In] [(.const (.tup [(.int 7),(.int 8),(.int 9),(.int 10)]))]),(.cmp (.attr (.idx lP j9) 0) [.In] [(.const (.tup [(.int 3),(.int 20),(.int 12),(.int 13)]))])]))]
noncomputable def SO:List S:=[(.ite (.cmp z6 [.In] [(.const (.tup [(.int 3),(.int 20),(.int 12),(.int 13)]))]) [(.ret b8)] []),(.ret (.ite (.call 279 [b8]) (.idx lP j9) (.const .none)))]
noncomputable def SP:List S:=[(.ite (.cmp z6 [.Eq] [jX]) [(.ret (.tup [j9,(.const (.int (-1)))]))] []),(.ite (.cmp z6 [.Eq] [fL]) [(.ret (.tup [j3,(.const (.int (-1)))]))] []),(.ite (.cmp z6 [.Eq] [uU]) [(.ret (.tup [j9,j3]))] []),(.ret (.ite (.cmp z6 [.Eq] [Z6]) (.tup [sF,oG]) (.tup [j3,j3])))]
noncomputable def GP:List S:=[(.ite (.cmp Z0 [.Eq] [bC]) [(.ret (.and [(.call 279 [b8]),(.cmp (.call 307 [(.idx lP j9),b9]) [.Gt] [j9])]))] []),(.ite (.and [(.not (.call 279 [b8])),(.not (.call 279 [b9]))]) [(.ret (.const (.bool false)))] []),(.asg (.t (.tup [2,3])) (.tup [(.call 286 [b8]),(.call 286 [b9])])),(.ite (.or [(.cmp e8 [.Is] [(.const .none)]),(.cmp l9 [.Is] [(.const .none)]),(.not (.call 185 [e8,l9]))]) [(.ret (.const (.bool false)))] []),(.ite (.or [(.cmp z6 [.In] [(.const (.tup [(.int 3),(.int 20),(.int 12),(.int 13)]))]),(.cmp Z0 [.In] [(.const (.tup [(.int 3),(.int 20),(.int 12),(.int 13)]))])]) [(.ret (.const (.bool true)))] []),(.ret (.cmp (.bin .BitAnd U0 jW) [.Eq] [(.bin .BitAnd jB jW)]))]
noncomputable def pF:List S:=[(.ite (.or [(.cmp z6 [.NotEq] [Z7]),(.cmp (.bin .BitAnd U0 (.const (.int 33))) [.NotEq] [(.bin .BitAnd jB (.const (.int 33)))])]) [(.ret j9)] []),(.asg (.t (.var 2)) j9),(.while (.and [(.cmp e8 [.Lt] [(.bi .len [xJ])]),(.cmp (.idx xJ e8) [.Eq] [DR])]) [(.asg (.t (.var 2)) (.bin .Add e8 j3))]),(.ret e8)]
noncomputable def gK:List S:=[(.asg (.t (.tup [2,3])) (.tup [(.call 286 [b8]),(.ite (.call 279 [b8]) U0 jB)])),(.asg (.t (.tup [4,5])) (.call 293 [b8])),(.ite (.cmp Z0 [.Eq] [bC]) [(.asg (.t (.var 6)) (.call 307 [e8,b9])),(.asg (.t (.tup [7,8])) (.tup [(.tup [H7,H7]),(.slice (.bi .list [xJ]) (some H7) none none)]))] [(.asg (.t (.tup [7,8])) (.tup [(.call 293 [b9]),(.lst [])]))]),(.asg (.t (.var 9)) (.ite (.cmp (.const (.int (-1))) [.In] [(.tup [A4,(.idx R9 j3)])]) (.const (.int (-1))) (.bin .Add A4 (.idx R9 j3)))),(.asg (.t (.var 10)) (.lst [(.call 150 [e8,l9,(.bin .Add n9 (.idx R9 j9)),X8])])),(.ret (.ite (.cmp M4 [.Eq] [(.lst [])]) fX (.bin .Add fX (.lst [(.call 80 [M4,jB])]))))]
noncomputable def pG:List S:=[(.asg (.t (.tup [1,2])) (.tup [(.lst []),(.const (.bool false))])),(.for (.var 3) (.e b8) [(.ite (.and [(.cmp b9 [.NotEq] [(.lst [])]),(.call 300 [(.idx b9 (.neg j3)),l9])]) [(.asg (.t (.var 1)) (.bin .Add (.slice b9 none (some (.neg j3)) none) (.call 314 [(.idx b9 (.neg j3)),l9]))),(.asg (.t (.var 2)) (.const (.bool true)))] [(.expr (.A5 b9 .append [l9]))])]),(.ret (.ite e8 (.comp [] 4 l9 (.mk (.var 3) b9 [(.cmp DZ [.NotEq] [J4])]) []) (.const .none)))]
noncomputable def bV:List S:=[(.asg (.t (.var 5)) (.ite (.cmp Z0 [.Eq] [uT]) (.call 319 [n9]) (.const .none))),(.ite (.cmp A4 [.IsNot] [(.const .none)]) [(.ret (.call 101 [A4,jB]))] []),(.ret (.ite (.cmp xH [.Eq] [(.lst [])]) b9 (.call 164 [b9,n9])))]
noncomputable def Jz:List S:=[(.ret b9)]
noncomputable def SQ:List S:=[(.ret (.A5 (.new 343 []) .walk [b8,(.const .none)]))]
noncomputable def SV:List S:=[(.ret (.cmp (.bi .list [oH]) [.Eq] [(.lst [(.tup [j9,(.ite (.cmp (.bin .BitAnd U0 AA) [.NotEq] [j9]) JM uR)])])]))]
noncomputable def SW:List S:=[(.ite (.cmp z6 [.Eq] [Z6]) [(.ret (.const (.bool false)))] []),(.ite (.cmp z6 [.Eq] [pZ]) [(.ret (.and [(.cmp oH [.NotEq] [(.lst [])]),(.not (.call 361 [b8]))]))] []),(.ite (.cmp z6 [.In] [(.const (.tup [(.int 7),(.int 8),(.int 9)]))]) [(.asg (.t (.var 1)) (.idx lP j9)),(.ret (.and [(.cmp Z0 [.NotEq] [J4]),(.or [(.cmp Z0 [.NotIn] [(.const (.tup [(.int 7),(.int 8),(.int 9)]))]),(.cmp (.lazy b9) [.NotEq] [(.lazy b8)])])]))] []),(.ret (.const (.bool true)))]
noncomputable def pH:List S:=[(.asg (.t (.var 1)) (.lst [b8])),(.while (.cmp b9 [.NotEq] [(.lst [])]) [(.asg (.t (.var 2)) (.A5 b9 .pop [])),(.ite (.not (.call 368 [e8])) [(.ret (.const (.bool false)))] []),(.expr (.A5 b9 .extend [(.attr e8 2)]))]),(.ret (.const (.bool true)))]
noncomputable def pI:List S:=[(.asg (.t (.var 1)) (.lst [b8])),(.while (.cmp b9 [.NotEq] [(.lst [])]) [(.asg (.t (.var 2)) (.A5 b9 .pop [])),(.ite (.or [(.cmp DY [.Eq] [uT]),(.cmp DY [.Eq] [bD])]) [(.expr (.A5 b9 .extend [(.attr e8 2)]))] [(.ite (.cmp DY [.NotIn] [(.const (.tup [(.int 14),(.int 15),(.int 16),(.int 17),(.int 18),(.int 19)]))]) [(.ret (.const (.bool false)))] [])])]),(.ret (.const (.bool true)))]
noncomputable def SX:List S:=[(.ite (.cmp oH [.Eq] [(.lst [])]) [(.ret (.call 66 [j3,U0]))] []),(.ret (.ite (.call 361 [b8]) (.call 66 [zZ,U0]) b8))]
noncomputable def SY:List S:=[(.ite (.cmp Z0 [.Eq] [J4]) [(.ret b9)] []),(.ite (.cmp z6 [.Eq] [jX]) [(.ret (.call 129 [b9,U0]))] []),(.ret (.ite (.cmp z6 [.Eq] [fL]) (.call 136 [b9,U0]) (.call 143 [b9,U0])))]
noncomputable def TA:List S:=[(.ite (.cmp b9 [.Eq] [j9]) [(.ret (.call 129 [b8,e8]))] []),(.asg (.t (.var 3)) (.call 136 [b8,e8])),(.ret (.ite (.cmp b9 [.Eq] [j3]) l9 (.call 101 [(.bin .Add (.bin .Mult (.lst [b8]) (.bin .Sub b9 j3)) (.lst [l9])),e8])))]
noncomputable def tH:List S:=[(.asg (.t (.var 3)) (.call 143 [b8,e8])),(.for (.var 4) (.range (.bin .Sub b9 j3)) [(.asg (.t (.var 3)) (.call 143 [(.call 101 [(.lst [b8,l9]),e8]),e8]))]),(.ret l9)]
noncomputable def GQ:List S:=[(.ite (.and [(.cmp e8 [.NotEq] [(.const (.int (-1)))]),(.cmp e8 [.Lt] [b9])]) [(.ret (.call 66 [j3,l9]))] []),(.ite (.cmp z6 [.Eq] [J4]) [(.ret b8)] []),(.ite (.call 382 [b8]) [(.asg (.t (.tup [1,2])) (.tup [(.bi .min [b9,j3]),(.ite (.cmp e8 [.Eq] [(.const (.int (-1)))]) j3 (.bi .min [e8,j3]))]))] []),(.ite (.cmp e8 [.Eq] [(.const (.int (-1)))]) [(.ret (.call 403 [b8,b9,l9]))] []),(.asg (.t (.var 4)) (.bin .Mult (.lst [b8]) b9)),(.ite (.cmp e8 [.Gt] [b9]) [(.expr (.A5 n9 .append [(.call 410 [b8,(.bin .Sub e8 b9),l9])]))] []),(.ret (.call 101 [n9,l9]))]
noncomputable def J8:List S:=[(.ite (.cmp Z0 [.In] [(.const (.tup [(.int 7),(.int 8),(.int 9)]))]) [(.ret (.call 396 [b9,(.idx n9 j9)]))] []),(.ite (.cmp Z0 [.Eq] [Z6]) [(.ret (.call 417 [(.idx n9 j9),(.attr b9 3),(.attr b9 4),jB]))] []),(.ite (.cmp Z0 [.Eq] [pZ]) [(.ret (.call 389 [b9]))] []),(.ret (.ite (.cmp xH [.Eq] [(.lst [])]) b9 (.call 164 [b9,n9])))]
noncomputable def Ka:List S:=[(.ret b9)]
noncomputable def yR:List S:=[(.asg (.t (.var 1)) (.call 352 [b8])),(.ret (.ite (.call 375 [b9]) b9 (.A5 (.new 441 []) .walk [b9,(.const .none)])))]
noncomputable def tK:List S:=[(.asg (.t (.var 2)) (.lst [])),(.for (.var 3) (.e b9) [(.expr (.A5 e8 .append [(.bin .Mod b8 l9)])),(.asg (.t (.var 0)) (.bin .FloorDiv b8 l9))]),(.ret e8)]
noncomputable def TG:List S:=[(.asg (.t (.var 2)) (.lst [(.lst [(.tup [dK,qA])]),(.lst [(.tup [AB,AB]),(.tup [dK,dK])]),(.lst []),(.lst [(.tup [j9,JM])]),(.lst [(.tup [j9,uR])])])),(.ite (.or [(.cmp b8 [.Lt] [Z7]),(.cmp b8 [.Gt] [uU])]) [(.asg (.t (.var 3)) (.ite (.cmp b8 [.In] [(.tup [j3,JH,JI])]) qA dK)),(.ret (.tup [(.tup [(.const (.str (PySem.Str.ofString "text"))),(.tup [(.lst [l9]),(.cmp b8 [.Eq] [J4])]),(.lst [])]),(.call 73 [l9,(.ite (.cmp b8 [.Eq] [J4]) (.bin .BitOr b9 j3) b9)])]))] []),(.ite (.cmp b8 [.Lt] [fL]) [(.ret (.tup [(.tup [(.const (.str (PySem.Str.ofString "set"))),(.idx e8 (.bin .Sub b8 Z7)),(.lst [])]),(.call 87 [(.idx e8 (.bin .Sub b8 Z7)),b9])]))] []),(.ret (.tup [(.tup [(.const (.str (PySem.Str.ofString "set"))),(.lst [(.tup [j9,uR])]),(.lst [])]),(.call 66 [(.ite (.cmp b8 [.Eq] [fL]) zZ (.const (.int 13))),b9])]))]
noncomputable def TH:List S:=[(.asg (.t (.var 2)) (.lst [JH,JI,JK,JL,JJ,(.const (.int 17))])),(.asg (.t (.var 3)) (.lst [(.lst [dK,qA]),(.lst [dK,dK,qA]),(.lst [qA,dK]),(.lst [dK,dK])])),(.ite (.cmp b8 [.Lt] [bD]) [(.ret (.tup [(.tup [(.const (.str (PySem.Str.ofString "place"))),(.idx e8 b8),(.lst [])]),(.call 66 [(.idx e8 b8),b9])]))] []),(.ite (.cmp b8 [.Lt] [fL]) [(.ret (.tup [(.idx (.tup [(.tup [(.const (.str (PySem.Str.ofString "text"))),(.tup [(.lst []),(.const (.bool false))]),(.lst [])]),(.tup [(.const (.str (PySem.Str.ofString "set"))),(.lst []),(.lst [])])]) (.bin .Sub b8 bD)),(.call 66 [(.idx (.tup [J4,j3]) (.bin .Sub b8 bD)),b9])]))] []),(.asg (.t (.var 4)) (.idx l9 (.bin .Mod b8 bC))),(.ret (.tup [(.tup [(.const (.str (PySem.Str.ofString "text"))),(.tup [n9,(.cmp b8 [.Gt] [uS])]),(.lst [])]),(.call 80 [n9,(.ite (.cmp b8 [.Gt] [uS]) (.bin .BitOr b9 j3) b9)])]))]
noncomputable def GS:List S:=[(.asg (.t (.tup [1,2,3])) b8),(.ite (.cmp b9 [.Eq] [(.const (.str (PySem.Str.ofString "text")))]) [(.ret (.bi .len [(.idx e8 j9)]))] []),(.ite (.cmp b9 [.In] [(.tup [(.const (.str (PySem.Str.ofString "set"))),(.const (.str (PySem.Str.ofString "place")))])]) [(.ret j3)] []),(.asg (.t (.var 4)) (.bi .sum [(.comp [] 6 (.call 476 [A4]) (.mk (.var 5) l9 []) [])])),(.ite (.cmp b9 [.Eq] [(.const (.str (PySem.Str.ofString "times")))]) [(.ret (.bin .Mult n9 (.ite (.cmp (.idx e8 j3) [.Eq] [(.neg j3)]) (.bi .max [(.idx e8 j9),j3]) (.idx e8 j3))))] []),(.ret n9)]
noncomputable def yS:List S:=[(.asg (.t (.var 1)) (.bi .max [(.bin .Add (.lst [j9]) (.comp [] 3 (.call 481 [e8]) (.mk (.var 2) (.idx b8 J4) []) []))])),(.ret (.ite (.cmp (.idx b8 j9) [.Eq] [(.const (.str (PySem.Str.ofString "times")))]) (.bin .Add b9 j3) b9))]
noncomputable def TJ:List S:=[(.ite (.cmp (.idx b8 j9) [.NotEq] [(.const (.str (PySem.Str.ofString "times")))]) [(.ret (.bi .max [j3,(.ite (.cmp (.idx b8 J4) [.Eq] [(.lst [])]) (.call 476 [b8]) (.bi .sum [(.comp [] 2 (.call 486 [b9]) (.mk (.var 1) (.idx b8 J4) []) [])]))]))] []),(.ret (.bin .Mult (.call 486 [(.idx (.idx b8 J4) j9)]) (.bi .max [(.idx (.idx b8 j3) j9),(.idx (.idx b8 j3) j3),j3])))]
noncomputable def GU:List S:=[(.asg (.t (.var 1)) (.bi .sum [(.comp [] 3 (.call 491 [e8]) (.mk (.var 2) (.idx b8 J4) []) [])])),(.ret (.ite (.cmp (.idx b8 j9) [.Eq] [(.const (.str (PySem.Str.ofString "times")))]) (.bin .Add b9 j3) b9))]
noncomputable def M6:List S:=[(.asg (.t (.tup [6,7])) b8),(.ite (.cmp (.call 481 [H7]) [.Gt] [j3]) [(.ret b8)] []),(.asg (.t (.var 8)) (.ite (.cmp e8 [.Eq] [Z7]) (.neg j3) (.bin .Add b9 e8))),(.ite (.cmp (.bin .Mult (.call 486 [H7]) (.bi .max [b9,M4,j3])) [.Gt] [bD]) [(.asg (.t (.tup [1,8])) (.tup [j9,(.neg j3)]))] []),(.asg (.t (.var 5)) (.ite l9 (.bin .BitOr A4 jW) A4)),(.asg (.t (.var 9)) (.tup [(.const (.str (PySem.Str.ofString "times"))),(.tup [b9,M4,l9]),(.lst [H7])])),(.ite (.and [(.cmp n9 [.Eq] [j9]),(.cmp (.tup [b9,M4]) [.Eq] [(.tup [j9,(.neg j3)])])]) [(.ret (.tup [X8,(.call 129 [R9,A4])]))] []),(.ite (.and [(.cmp n9 [.Eq] [j9]),(.cmp (.tup [b9,M4]) [.Eq] [(.tup [j3,(.neg j3)])])]) [(.ret (.tup [X8,(.call 136 [R9,A4])]))] []),(.ite (.and [(.cmp n9 [.Eq] [j9]),(.cmp (.tup [b9,M4]) [.Eq] [(.tup [j9,j3])])]) [(.ret (.tup [X8,(.call 143 [R9,A4])]))] []),(.ret (.tup [X8,(.call 150 [R9,A4,b9,M4])]))]
noncomputable def F8:List S:=[(.asg (.t (.tup [4,5,6,7,8,9])) (.call 457 [e8,(.lst [Z6,JJ,Z7,bC,J4,J4])])),(.ite (.or [(.cmp n9 [.Lt] [bD]),(.cmp b8 [.Eq] [(.lst [])])]) [(.asg (.t (.var 10)) (.ite (.cmp n9 [.Eq] [J4]) (.call 471 [A4,l9]) (.call 464 [A4,l9]))),(.ret (.bin .Add b8 (.lst [(.ite (.cmp Z7 [.LtE,.Lt] [n9,bD]) (.call 498 [fX,H7,R9,(.cmp M4 [.Eq] [j3]),X8,l9]) fX)])))] []),(.ite (.cmp n9 [.Eq] [bD]) [(.ret (.bin .Add (.slice b8 none (some (.neg j3)) none) (.lst [(.call 498 [(.idx b8 (.neg j3)),H7,R9,(.cmp M4 [.Eq] [j3]),X8,l9])])))] []),(.ite (.cmp n9 [.Eq] [jX]) [(.asg (.t (.var 11)) (.ite (.cmp M4 [.Eq] [j3]) (.const (.bytes #[110])) (.const .none))),(.asg (.t (.tup [12,13])) (.idx b8 (.neg j3))),(.ret (.bin .Add (.slice b8 none (some (.neg j3)) none) (.lst [(.tup [(.tup [(.const (.str (PySem.Str.ofString "group"))),(.tup [b9,X7]),(.lst [R8])]),(.call 157 [V7,l9,b9,X7])])])))] []),(.ite (.and [(.cmp n9 [.Eq] [fL]),(.cmp M4 [.Eq] [j3]),(.cmp (.call 486 [(.idx (.idx b8 (.neg j3)) j9)]) [.Lt] [uT]),(.cmp (.call 491 [(.idx (.idx b8 (.neg j3)) j9)]) [.Eq] [j9])]) [(.ret (.call 510 [(.bin .Add b8 (.lst [(.idx b8 (.neg j3))])),J4,(.const (.bool true)),l9]))] []),(.ret (.call 510 [b8,(.bin .Add J4 X8),(.cmp n9 [.Eq] [fL]),l9]))]
noncomputable def GW:List S:=[(.asg (.t (.var 4)) (.slice b8 (some (.neg b9)) none none)),(.ite (.cmp (.bi .len [n9]) [.Eq] [j3]) [(.ret b8)] []),(.asg (.t (.tup [5,6])) (.tup [(.comp [] 8 (.idx R9 j9) (.mk (.var 7) n9 []) []),(.comp [] 8 (.idx R9 j3) (.mk (.var 7) n9 []) [])])),(.ite e8 [(.ret (.bin .Add (.slice b8 none (some (.neg b9)) none) (.lst [(.tup [(.tup [(.const (.str (PySem.Str.ofString "row"))),(.const .none),A4]),(.call 101 [H7,l9])])])))] []),(.ret (.bin .Add (.slice b8 none (some (.neg b9)) none) (.lst [(.tup [(.tup [(.const (.str (PySem.Str.ofString "choice"))),(.const .none),A4]),(.call 108 [H7,l9])])])))]
noncomputable def GY:List S:=[(.asg (.t (.var 1)) (.comp [] 6 (.call 515 [A4]) (.mk (.var 5) lP []) [])),(.asg (.t (.var 2)) (.dict [jX,fL,uU,Z6] [(.tup [j9,(.neg j3)]),(.tup [j3,(.neg j3)]),(.tup [j9,j3]),(.tup [sF,oG])])),(.ite (.cmp z6 [.In] [e8]) [(.asg (.t (.tup [3,4])) (.idx e8 z6)),(.ret (.tup [(.const (.str (PySem.Str.ofString "times"))),(.tup [l9,n9,(.cmp (.bin .BitAnd U0 jW) [.NotEq] [j9])]),b9]))] []),(.ite (.cmp z6 [.Eq] [uS]) [(.ret (.tup [(.const (.str (PySem.Str.ofString "group"))),(.tup [DP,DQ]),b9]))] []),(.ite (.cmp z6 [.Eq] [uT]) [(.ret (.tup [(.const (.str (PySem.Str.ofString "row"))),(.const .none),b9]))] []),(.ite (.cmp z6 [.Eq] [bD]) [(.ret (.tup [(.const (.str (PySem.Str.ofString "choice"))),(.const .none),b9]))] []),(.ite (.cmp z6 [.Eq] [Z7]) [(.ret (.tup [(.const (.str (PySem.Str.ofString "text"))),(.tup [(.lst [DR]),(.cmp (.bin .BitAnd U0 j3) [.NotEq] [j9])]),(.lst [])]))] []),(.ite (.cmp z6 [.Eq] [bC]) [(.ret (.tup [(.const (.str (PySem.Str.ofString "text"))),(.tup [(.bi .list [(.attr b8 8)]),(.cmp (.bin .BitAnd U0 j3) [.NotEq] [j9])]),(.lst [])]))] []),(.ite (.cmp z6 [.Eq] [J4]) [(.ret (.tup [(.const (.str (PySem.Str.ofString "text"))),(.tup [(.lst []),(.const (.bool false))]),(.lst [])]))] []),(.ite (.cmp z6 [.Eq] [pZ]) [(.ret (.tup [(.const (.str (PySem.Str.ofString "set"))),(.bi .list [oH]),(.lst [])]))] []),(.ite (.cmp z6 [.Eq] [j3]) [(.ret (.tup [(.const (.str (PySem.Str.ofString "set"))),(.lst []),(.lst [])]))] []),(.ret (.ite (.cmp z6 [.In] [(.tup [zZ,(.const (.int 13))])]) (.tup [(.const (.str (PySem.Str.ofString "set"))),(.lst [(.tup [j9,uR])]),(.lst [])]) (.tup [(.const (.str (PySem.Str.ofString "place"))),z6,(.lst [])])))]
noncomputable def TL:List S:=[(.ret (.comp [] 2 (.ite (.cmp AB [.LtE,.LtE] [b9,(.const (.int 90))]) (.bin .Add b9 AA) b9) (.mk (.var 1) b8 []) []))]
noncomputable def tL:List S:=[(.ite (.or [(.cmp b8 [.Eq] [JK]),(.cmp b8 [.Eq] [JL])]) [(.ret (.cmp e8 [.Eq] [(.ite (.cmp b8 [.Eq] [JK]) j9 (.bi .len [b9]))]))] []),(.asg (.t (.var 3)) (.or [(.cmp e8 [.Eq] [j9]),(.cmp (.idx b9 (.bin .Sub e8 j3)) [.Eq] [Z6])])),(.asg (.t (.var 4)) (.or [(.cmp e8 [.Eq] [(.bi .len [b9])]),(.cmp (.idx b9 e8) [.Eq] [Z6])])),(.ite (.cmp b8 [.Eq] [JH]) [(.ret l9)] []),(.ite (.cmp b8 [.Eq] [JI]) [(.ret n9)] []),(.ret (.cmp (.cmp l9 [.NotEq] [n9]) [.Eq] [(.cmp b8 [.Eq] [JJ])]))]
noncomputable def tM:List S:=[(.asg (.t (.tup [1,2])) (.tup [(.lst []),(.lst [])])),(.for (.var 3) (.e b8) [(.ite (.cmp (.idx l9 j9) [.NotIn] [e8]) [(.expr (.A5 e8 .append [(.idx l9 j9)])),(.expr (.A5 b9 .append [l9]))] [])]),(.ret b9)]
noncomputable def mF:List S:=[(.asg (.t (.tup [5,6,7])) b8),(.asg (.t (.tup [8,9,10])) (.tup [(.lst []),(.lst []),(.lst [(.tup [l9,n9,j9,(.const (.bool false))])])])),(.while (.cmp fX [.NotEq] [(.lst [])]) [(.asg (.t (.tup [11,12,13,14])) (.A5 fX .pop [])),(.ite (.var 14) [(.expr (.A5 M4 .append [(.tup [X7,R8])]))] [(.ite (.cmp (.tup [X7,V7]) [.NotIn] [X8]) [(.expr (.A5 X8 .append [(.tup [X7,V7])])),(.asg (.t (.var 15)) (.ite (.and [(.cmp V7 [.GtE] [A4]),R9]) (.lst [(.tup [X7,R8,V7,(.const (.bool true))])]) (.lst []))),(.ite (.cmp V7 [.NotEq] [H7]) [(.for (.tup [16,17]) (.e (.call 546 [b9,e8,X7,R8])) [(.asg (.t (.var 18)) (.and [(.cmp H7 [.Eq] [(.neg j3)]),(.cmp V7 [.GtE] [A4]),(.cmp wK [.Eq] [X7])])),(.expr (.A5 (.var 15) .append [(.tup [wK,(.var 17),(.ite (.and [(.cmp H7 [.Eq] [(.neg j3)]),(.cmp V7 [.GtE] [A4])]) V7 (.bin .Add V7 j3)),(.var 18)])]))])] []),(.ite (.and [(.cmp V7 [.GtE] [A4]),(.not R9)]) [(.expr (.A5 (.var 15) .append [(.tup [X7,R8,V7,(.const (.bool true))])]))] []),(.expr (.A5 fX .extend [(.slice (.var 15) none none (some (.neg j3)))]))] [])])]),(.ret (.call 534 [M4]))]
noncomputable def Z1:List S:=[(.asg (.t (.tup [4,5,6])) b8),(.ite (.cmp n9 [.Eq] [(.const (.str (PySem.Str.ofString "text")))]) [(.asg (.t (.tup [7,8])) (.tup [(.slice b9 (some e8) (some (.bin .Add e8 (.bi .len [(.idx A4 j9)]))) none),(.idx A4 j9)])),(.asg (.t (.var 9)) (.ite (.idx A4 j3) (.cmp (.call 520 [R9]) [.Eq] [(.call 520 [M4])]) (.cmp R9 [.Eq] [M4]))),(.ret (.ite X8 (.lst [(.tup [(.bin .Add e8 (.bi .len [M4])),l9])]) (.lst [])))] []),(.ite (.cmp n9 [.Eq] [(.const (.str (PySem.Str.ofString "set")))]) [(.asg (.t (.var 9)) (.and [(.cmp e8 [.Lt] [(.bi .len [b9])]),(.cmp (.comp [2,1] 14 R8 (.mk (.tup [12,13]) A4 [(.cmp R8 [.LtE,.LtE] [(.idx b9 e8),V7])]) []) [.NotEq] [(.lst [])])])),(.ret (.ite X8 (.lst [(.tup [(.bin .Add e8 j3),l9])]) (.lst [])))] []),(.ite (.cmp n9 [.Eq] [(.const (.str (PySem.Str.ofString "place")))]) [(.ret (.ite (.call 527 [A4,b9,e8]) (.lst [(.tup [e8,l9])]) (.lst [])))] []),(.ite (.cmp n9 [.Eq] [(.const (.str (PySem.Str.ofString "times")))]) [(.ret (.call 541 [A4,(.idx H7 j9),b9,e8,l9]))] []),(.ite (.cmp n9 [.Eq] [(.const (.str (PySem.Str.ofString "choice")))]) [(.ret (.call 534 [(.comp [2,3,1] 13 R8 (.mk (.var 10) H7 []) [(.mk (.var 12) (.call 546 [fX,b9,e8,l9]) [])])]))] []),(.asg (.t (.var 11)) (.lst [(.tup [e8,l9])])),(.for (.var 10) (.e H7) [(.asg (.t (.var 11)) (.call 534 [(.comp [10,1] 15 (.var 14) (.mk (.tup [12,13]) X7 []) [(.mk (.var 14) (.call 546 [fX,b9,R8,V7]) [])])]))]),(.ite (.cmp n9 [.Eq] [(.const (.str (PySem.Str.ofString "row")))]) [(.ret X7)] []),(.ret (.comp [2,5] 14 (.tup [R8,(.call 553 [V7,A4,e8,R8])]) (.mk (.tup [12,13]) X7 []) []))]
noncomputable def TM:List S:=[(.asg (.t (.var 4)) (.bi .dict [b8])),(.asg (.item n9 (.idx b9 j9)) (.tup [e8,l9,(.idx b9 j3)])),(.ret n9)]
noncomputable def GZ:List S:=[(.asg (.t (.tup [1,2,3])) b8),(.ite (.cmp b9 [.Eq] [(.const (.str (PySem.Str.ofString "text")))]) [(.ret (.cmp (.idx e8 j9) [.Eq] [(.lst [])]))] []),(.ite (.or [(.cmp b9 [.Eq] [(.const (.str (PySem.Str.ofString "set")))]),(.cmp b9 [.Eq] [(.const (.str (PySem.Str.ofString "place")))])]) [(.ret (.cmp b9 [.Eq] [(.const (.str (PySem.Str.ofString "place")))]))] []),(.asg (.t (.var 4)) (.comp [] 6 A4 (.mk (.var 5) l9 [(.not (.call 558 [A4]))]) [])),(.ite (.cmp b9 [.Eq] [(.const (.str (PySem.Str.ofString "choice")))]) [(.ret (.cmp (.bi .len [n9]) [.Lt] [(.bi .len [l9])]))] []),(.ret (.or [(.cmp n9 [.Eq] [(.lst [])]),(.and [(.cmp b9 [.Eq] [(.const (.str (PySem.Str.ofString "times")))]),(.cmp (.idx e8 j9) [.Eq] [j9])])]))]
noncomputable def TN:List S:=[(.asg (.t (.tup [1,2,3])) b8),(.ite (.and [(.cmp b9 [.Eq] [(.const (.str (PySem.Str.ofString "times")))]),(.cmp (.idx e8 j3) [.Eq] [(.neg j3)]),(.call 558 [(.idx l9 j9)])]) [(.ret (.const (.bool false)))] []),(.ret (.cmp (.comp [] 5 n9 (.mk (.var 4) l9 [(.not (.call 563 [n9]))]) []) [.Eq] [(.lst [])]))]
noncomputable def jK:List S:=[(.ite (.or [(.cmp z6 [.Eq] [Z6]),(.and [(.cmp z6 [.Eq] [pZ]),(.cmp oH [.In] [(.tup [(.lst []),b9])])])]) [(.ret (.const (.bool false)))] []),(.asg (.t (.var 2)) (.tup [jX,fL,uU])),(.for (.var 3) (.e lP) [(.asg (.t (.var 4)) (.and [(.cmp DZ [.In] [e8]),(.cmp (.bin .BitAnd (.bin .BitXor (.attr l9 1) U0) jW) [.Eq] [j9])])),(.ite (.or [(.and [(.cmp z6 [.In] [e8]),(.or [(.cmp DZ [.Eq] [J4]),n9])]),(.not (.call 570 [l9,b9]))]) [(.ret (.const (.bool false)))] [])]),(.ret (.const (.bool true)))]
noncomputable def x6:List S:=[(.asg (.t (.var 1)) (.lst [dK,qA,AB,Z6])),(.asg (.t (.var 2)) (.lst [(.const (.int 1155)),(.const (.int 1443)),(.const (.int 92))])),(.asg (.t (.var 4)) (.comp [] 20 (.bin .Mod (.bi .int [l9]) (.bin .Pow Z6 zZ)) (.mk (.var 3) (.slice b8 none (some bD) none) []) [])),(.asg (.t (.var 4)) (.bin .Add n9 (.slice e8 (some (.bi .len [n9])) none none))),(.asg (.t (.var 5)) (.call 457 [(.idx n9 j9),(.lst [bD,bD,J4,bC,bC,bC,bC,bC])])),(.asg (.t (.var 6)) (.comp [1] 21 (.idx b9 (.var 20)) (.mk (.var 20) (.slice A4 (some Z7) (some (.bin .Add Z7 (.bi .min [(.idx A4 j9),Z7]))) none) []) [])),(.asg (.t (.tup [7,8])) (.tup [(.bin .Mod (.idx A4 j3) (.bin .Add (.bi .len [H7]) j3)),(.ite (.cmp (.idx A4 J4) [.Eq] [j3]) AA j9)])),(.asg (.t (.var 9)) (.lst [])),(.for (.tup [10,3]) (.enum (.slice n9 (some j3) none none)) [(.asg (.t (.var 9)) (.call 505 [X8,(.bin .Add fX j3),l9,M4]))]),(.asg (.t (.tup [11,12])) (.idx (.call 510 [X8,(.bi .len [X8]),(.const (.bool true)),M4]) j9)),(.asg (.t (.tup [13,14,15])) (.tup [(.call 515 [R8]),(.call 546 [X7,H7,R9,(.dict [] [])]),(.call 476 [X7])])),(.asg (.t (.tup [16,17])) (.tup [(.call 450 [R8]),(.lst [(.tup [j9,(.ite (.cmp M4 [.Eq] [AA]) JM uR)])])])),(.for (.var 18) (.e (.tup [(.call 515 [(.call 352 [R8])]),(.call 515 [wK])])) [(.asg (.t (.var 19)) (.call 546 [(.var 18),H7,R9,(.dict [] [])])),(.ite (.or [(.cmp (.comp [] 21 (.idx (.var 20) j9) (.mk (.var 20) (.var 19) []) []) [.NotEq] [(.comp [] 21 (.idx (.var 20) j9) (.mk (.var 20) (.var 14) []) [])]),(.cmp (.call 476 [(.var 18)]) [.Gt] [(.var 15)])]) [(.ret (.const (.bool false)))] []),(.ite (.and [(.call 563 [X7]),(.cmp (.var 19) [.NotEq] [(.var 14)])]) [(.ret (.const (.bool false)))] [])]),(.ite (.or [(.not (.call 570 [wK,(.var 17)])),(.not (.call 375 [wK])),(.cmp (.call 375 [R8]) [.NotEq] [(.call 570 [R8,(.var 17)])])]) [(.ret (.const (.bool false)))] []),(.ret (.cmp (.call 515 [R8]) [.Eq] [V7]))]
noncomputable def tab:List (Addr×Nat×Nat×Nat×List S):=[(36,3,0,0,SR),(43,1,0,0,TF),(66,2,0,0,TP),(73,2,0,1,HA),(80,2,0,1,HB),(87,2,0,1,HC),(94,4,0,1,HE),(101,2,0,0,SA),(108,2,0,0,SD),(115,3,0,1,GH),(122,3,0,0,SE),(129,2,0,0,SG),(136,2,0,0,SH),(143,2,0,0,SI),(150,4,0,1,GI),(157,4,0,1,GJ),(164,2,0,1,GK),(171,1,0,0,GL),(178,2,0,0,SJ),(185,2,0,5,tG),(199,4,0,0,SK),(221,1,2,0,SM),(228,3,0,0,GN),(235,5,0,0,Jx),(242,2,0,0,GO),(249,3,0,0,Jy),(256,3,0,4,J7),(263,3,0,3,N8),(279,1,0,0,SN),(286,1,0,0,SO),(293,1,0,0,SP),(300,2,0,2,GP),(307,2,0,1,pF),(314,2,0,9,gK),(319,1,0,3,pG),(333,5,0,1,bV),(340,3,0,0,Jz),(352,1,0,0,SQ),(361,1,0,0,SV),(368,1,0,1,SW),(375,1,0,2,pH),(382,1,0,2,pI),(389,1,0,0,SX),(396,2,0,0,SY),(403,3,0,1,TA),(410,3,0,2,tH),(417,4,0,1,GQ),(431,5,0,0,J8),(438,3,0,0,Ka),(450,1,0,1,yR),(457,2,0,2,tK),(464,2,0,2,TG),(471,2,0,3,TH),(476,1,0,4,GS),(481,1,0,1,yS),(486,1,0,0,TJ),(491,1,0,1,GU),(498,6,0,4,M6),(505,4,0,10,F8),(510,4,0,3,GW),(515,1,0,4,GY),(520,1,0,0,TL),(527,3,0,2,tL),(534,1,0,3,tM),(541,5,0,14,mF),(546,4,0,8,Z1),(553,4,0,1,TM),(558,1,0,4,GZ),(563,1,0,3,TN),(570,2,0,3,jK),(575,1,0,19,x6)]
section
set_option genCtorIdx true in
structure Fg where
 fold:Bool
 E4:Bool
 lazy:Bool
 deriving DecidableEq,Inhabited
noncomputable def Fg.i (f:Fg):Int:=(bif f.fold then 1 else 0)+(bif f.E4 then 32 else 0)+(bif f.lazy then 64 else 0)
set_option genCtorIdx true in
inductive Lf where
 | iG | empty | mD | tC | bol | zF | word | AV | bot | zG
 deriving DecidableEq,Inhabited
noncomputable def Lf.code:Lf->Int
 | .iG=>1
 | .empty=>2
 | .mD=>12
 | .tC=>13
 | .bol=>14
 | .zF=>15
 | .word=>16
 | .AV=>17
 | .bot=>18
 | .zG=>19
set_option genCtorIdx true in
inductive Lk where
 | star | plus | quest
 deriving DecidableEq,Inhabited
noncomputable def Lk.code:Lk->Int
 | .star=>7
 | .plus=>8
 | .quest=>9
set_option genCtorIdx true in
inductive T where
 | leaf (o:Lf) (f:Fg)
 | lit (r:Int) (f:Fg)
 | str (rs:List Int) (f:Fg)
 | cls (g:List (Int×Int)) (f:Fg)
 | cat (l:List T) (f:Fg)
 | alt (l:List T) (f:Fg)
 | loop (k:Lk) (s:T) (f:Fg)
 | rep (lo hi:Int) (s:T) (f:Fg)
 | cap (n:Int) (nm:Bool) (s:T) (f:Fg)
 deriving Inhabited
noncomputable def T.op (t:T):Int:=T.casesOn t (fun o ζ=>o.code) (fun ζ ζ=>3) (fun ζ ζ=>4) (fun ζ ζ=>20) (fun ζ ζ=>5) (fun ζ ζ=>6) (fun k ζ ζ=>k.code) (fun ζ ζ ζ ζ=>10) (fun ζ ζ ζ ζ=>11)
noncomputable def T.fg (t:T):Fg:=T.casesOn t (fun ζ f=>f) (fun ζ f=>f) (fun ζ f=>f) (fun ζ f=>f) (fun ζ f=>f) (fun ζ f=>f) (fun ζ ζ f=>f) (fun ζ ζ ζ f=>f) (fun ζ ζ ζ f=>f)
noncomputable def T.subs (t:T):List T:=T.casesOn t (fun ζ ζ=>[]) (fun ζ ζ=>[]) (fun ζ ζ=>[]) (fun ζ ζ=>[]) (fun l ζ=>l) (fun l ζ=>l) (fun ζ s ζ=>[s]) (fun ζ ζ s ζ=>[s]) (fun ζ ζ s ζ=>[s])
noncomputable def T.lo (t:T):Int:=T.casesOn t (fun ζ ζ=>0) (fun ζ ζ=>0) (fun ζ ζ=>0) (fun ζ ζ=>0) (fun ζ ζ=>0) (fun ζ ζ=>0) (fun ζ ζ ζ=>0) (fun lo ζ ζ ζ=>lo) (fun ζ ζ ζ ζ=>0)
noncomputable def T.hi (t:T):Int:=T.casesOn t (fun ζ ζ=>0) (fun ζ ζ=>0) (fun ζ ζ=>0) (fun ζ ζ=>0) (fun ζ ζ=>0) (fun ζ ζ=>0) (fun ζ ζ ζ=>0) (fun ζ hi ζ ζ=>hi) (fun ζ ζ ζ ζ=>0)
noncomputable def T.tR (t:T):Int:=T.casesOn t (fun ζ ζ=>0) (fun ζ ζ=>0) (fun ζ ζ=>0) (fun ζ ζ=>0) (fun ζ ζ=>0) (fun ζ ζ=>0) (fun ζ ζ ζ=>0) (fun ζ ζ ζ ζ=>0) (fun n ζ ζ ζ=>n)
noncomputable def G9 (nm:Bool):D:=bif nm then .bytes #[110] else .none
noncomputable def T.vK (t:T):D:=T.casesOn t (fun ζ ζ=>.none) (fun ζ ζ=>.none) (fun ζ ζ=>.none) (fun ζ ζ=>.none) (fun ζ ζ=>.none) (fun ζ ζ=>.none) (fun ζ ζ ζ=>.none) (fun ζ ζ ζ ζ=>.none) (fun ζ nm ζ ζ=>G9 nm)
noncomputable def T.kP (t:T):Int:=T.casesOn t (fun ζ ζ=>0) (fun r ζ=>r) (fun ζ ζ=>0) (fun ζ ζ=>0) (fun ζ ζ=>0) (fun ζ ζ=>0) (fun ζ ζ ζ=>0) (fun ζ ζ ζ ζ=>0) (fun ζ ζ ζ ζ=>0)
noncomputable def T.O2 (t:T):List Int:=T.casesOn t (fun ζ ζ=>[]) (fun ζ ζ=>[]) (fun rs ζ=>rs) (fun ζ ζ=>[]) (fun ζ ζ=>[]) (fun ζ ζ=>[]) (fun ζ ζ ζ=>[]) (fun ζ ζ ζ ζ=>[]) (fun ζ ζ ζ ζ=>[])
noncomputable def T.ranges (t:T):List (Int×Int):=T.casesOn t (fun ζ ζ=>[]) (fun ζ ζ=>[]) (fun ζ ζ=>[]) (fun g ζ=>g) (fun ζ ζ=>[]) (fun ζ ζ=>[]) (fun ζ ζ ζ=>[]) (fun ζ ζ ζ ζ=>[]) (fun ζ ζ ζ ζ=>[])
noncomputable def n5 (l:List Int):D:=.lst (l.map .int)
noncomputable def z8 (p:Int×Int):D:=.tup [.int p.1,.int p.2]
noncomputable def A7 (l:List (Int×Int)):D:=.lst (l.map z8)
noncomputable def iL (op fl:Int) (subs:List D) (lo hi cap:Int) (nm:D) (kP:Int) (O2 ranges:D):D:=
 .obj 55 [.int op,.int fl,.lst subs,.int lo,.int hi,.int cap,nm,.int kP,O2,ranges,.int 0]
noncomputable def T.tU (t:T) (subs:List D):D:=iL t.op t.fg.i subs t.lo t.hi t.tR t.vK t.kP (n5 t.O2) (A7 t.ranges)
mutual
noncomputable def T.sD:T->List D
 | .leaf _ _=>[]
 | .lit _ _=>[]
 | .str _ _=>[]
 | .cls _ _=>[]
 | .cat l _=>T.ds l
 | .alt l _=>T.ds l
 | .loop _ s _=>[s.tU s.sD]
 | .rep _ _ s _=>[s.tU s.sD]
 | .cap _ _ s _=>[s.tU s.sD]
noncomputable def T.ds:List T->List D
 | []=>[]
 | t::l=>t.tU t.sD::T.ds l
end
noncomputable def T.d (t:T):D:=t.tU t.sD
theorem T.G5:∀ l:List T,T.ds l=l.map T.d:=by
 intro b7
 induction b7 with
 | nil=>exact rfl
 | cons t l ih=>rw[T.ds,ih];rfl
theorem T.kQ (t:T):t.sD=t.subs.map T.d:=by
 induction t using T.casesOn<;>first | rfl | exact T.G5 _
noncomputable def Em (mk:List T->T) (none:T):List T->T
 | []=>none
 | x::l=>List.casesOn l x fun y l=>mk (x::y::l)
noncomputable def C5 (l:List T) (f:Fg):T:=Em (.cat · f) (.leaf .empty f) l
noncomputable def wH (l:List T) (f:Fg):T:=Em (.alt · f) (.leaf .iG f) l
noncomputable def aB (rs:List Int) (f:Fg):T:=List.casesOn rs (.leaf .empty f) fun r l=>List.casesOn l (.lit r f) fun ζ ζ=>.str rs f
noncomputable def u7 (k:Lk) (s:T) (f:Fg):T:=match s with
 | .loop k' s' f'=>if f'.lazy=f.lazy then(if k'=k∨k'=.star then s else .loop .star s' f) else .loop k s f
 | s=>.loop k s f
end
end Rx.Lake
end
section
open PySem PySem.W PySem.Calls PyProof.Rows
namespace Rx.Lake
section
noncomputable def fW (P:V->List M->Prop) (fl:Fl) (σ':St):Prop:=Fl.casesOn fl (P (.val .none) σ'.mu) fun r=>P r σ'.mu
structure FX (G:Gd):Prop where
 fn:∀{a np nd ne:Nat} {b:List S},tab.lookup a=some (np,nd,ne,b)->∀{k:Nat} {args:List V} {mu:List M} {P:V->List M->Prop},args.length=np->
  (∃ n,(wp G k n).x b ⟨(args++List.replicate nd (V.val .none)).map some++List.replicate ne none,mu⟩ (fW P))->C8 G (k+1) (.ref a) args mu P
 cls:∀{C fI:Addr},([(55,36),(202,199),(343,221),(441,221)]:List (Addr×Addr)).lookup C=some fI->∀{k:Nat} {ds:List D} {mu:List M},
  C8 G k (.ref fI) (.loc 0::ds.map .val) [.inst C,.attrs C []] (fun r d8=>r=.val .none/\d8=mu)->wZ G (k+1) C ds (.loc 0) mu
 up:∀{k k':Nat} {f:Value} {args:List V} {mu:List M} {P:V->List M->Prop},k<=k'->C8 G k f args mu P->C8 G k' f args mu P
 WR:∀{k:Nat} {f:Value} {args:List V} {mu:List M} {P:V->List M->Prop},C8 G k f args mu (fun r d8=>oe (fz 6 d8 r) fun x=>P (.val x.1) x.2)->C8 G k f args mu P
noncomputable def At (G:Gd) (n:Nat) (f:Addr) (ds:List D) (d:D):Prop:=∀ k,n<=k->Pure G k f ds d
noncomputable def iV (G:Gd) (n:Nat) (f:Addr) (ds:List D) (r:V) (mu:List M):Prop:=∀ k,n<=k->wZ G k f ds r mu
variable {G:Gd} {n m k:Nat} {f:Addr} {ds:List D} {d:D}
theorem At.up (h:At G n f ds d) (l:n<=m):At G m f ds d:=fun k q=>h k (k6 l q)
theorem J0 {K:D->Prop} (h:At G n f ds d) (l:n<=k) (p:K d):cal G k f ds K:=⟨d,h k l,p⟩
theorem vA {K:V->List M->Prop} {r:V} {mu:List M} (h:iV G n f ds r mu) (l:n<=k) (p:K r mu):cC G k f ds K:=⟨r,mu,h k l,p⟩
noncomputable def f6 (d:D) (fl:Fl) (σ':St):Prop:=Fl.casesOn fl (d=.none) fun r=>oe (fz 6 σ'.mu r) fun x=>x.1=d
theorem fnAt (X:FX G) {np ne:Nat} {b:List S} (h1:tab.lookup f=some (np,0,ne,b)) (h2:ds.length=np)
  (h:∀ k,n<=k->(wp G k 20).x b ⟨(ds.map V.val).map some++List.replicate ne none,[]⟩ (f6 d)):At G (n+1) f ds d:=by
 intro k hk
 obtain⟨j,rfl⟩:∃ j,k=j+1:=⟨k-1,by lia⟩
 refine X.WR (X.fn h1 (by simpa using h2) ⟨20,?_⟩)
 have e:ds.map V.val++List.replicate 0 (V.val .none)=ds.map V.val:=u9 _
 rw[e]
 have e2:f6 d=fW (fun r d8=>oe (fz 6 d8 r) fun x=>V.val x.1=.val d):=by
  funext fl σ'
  induction fl using Fl.casesOn with
  | next=>exact propext ⟨fun(e:d=D.none)=>show V.val D.none=V.val d by rw[e],fun(e:V.val D.none=V.val d)=>by injection e with e;exact e.symm⟩
  | ret r=>
   show(oe (fz 6 σ'.mu r) fun x=>x.1=d)=oe (fz 6 σ'.mu r) fun x=>V.val x.1=V.val d
   congr 1
   funext x
   exact propext ⟨fun e=>by rw[e],fun e=>by injection e⟩
 have:=h j (by lia)
 rw[e2] at this
 exact this
theorem kc {P Q:Prop} (q:Q) (h:P=Q:=by kernel_rfl):P:=h.mpr q
theorem kr {α:Type} {P:Prop} (a:α) (h:P=(a=a):=by kernel_rfl):P:=h.mpr rfl
noncomputable def ex (G:Gd) (k i:Nat) (b:List S) (vars:List (Option V)) (mu:List M) (R:D):Prop:=(wp G k i).x b ⟨vars,mu⟩ (f6 R)
noncomputable def v_ (d:D):Option V:=some (.val d)
theorem Ll (h:At G n f ds d) (l:n<=k):cal G k f ds (fun x=>x=d):=⟨d,h k l,rfl⟩
noncomputable def j8 (b:List S) (i:Nat):S:=(b[i]?).getD (.ret (.var 0))
noncomputable def S.nV (s:S):E:=S.casesOn s (fun ζ ζ=>.var 0) (fun ζ=>.var 0) (fun t ζ ζ=>t) (fun t ζ=>t) (fun ζ ζ ζ=>.var 0) (fun e=>e)
noncomputable def S.l5 (s:S):List S:=S.casesOn s (fun ζ ζ=>[]) (fun ζ=>[]) (fun ζ b ζ=>b) (fun ζ b=>b) (fun ζ ζ b=>b) (fun ζ=>[])
noncomputable def S.tgt (s:S):Tg:=S.casesOn s (fun ζ ζ=>.var 0) (fun ζ=>.var 0) (fun ζ ζ ζ=>.var 0) (fun ζ ζ=>.var 0) (fun t ζ ζ=>t) (fun ζ=>.var 0)
theorem rW {i:Nat} {b:List S} {j:Nat} {vars:List (Option V)} {mu:List M} {Q:Fl->St->Prop} {rest:List S} (fs:List Nat) (I:Nat->St->Prop) (n0:Nat) (h0:I n0 (St.forget fs ⟨vars,mu⟩))
  (h:∀ n σ₁,I n σ₁->mu.length<=σ₁.mu.length->NO (wp G k i) (j8 b j).nV (j8 b j).l5 rest Q (Let mu.length fs fun σ''=>∃ m,m<n/\I m σ'') σ₁) :
  wh (wp G k i) (j8 b j).nV (j8 b j).l5 rest ⟨vars,mu⟩ Q:=⟨fs,I,⟨n0,h0⟩,h⟩
theorem gS {i:Nat} {t:Tg} {b rest:List S} {ds:List D} {vars:List (Option V)} {mu:List M} {Q:Fl->St->Prop} (fs:List Nat) (I:List D->St->Prop) (h0:I ds (St.forget fs ⟨vars,mu⟩))
  (h:∀ d rs σ₁,I (d::rs) σ₁->mu.length<=σ₁.mu.length->HY (wp G k i) t b Q (Let mu.length fs (I rs)) d σ₁)
  (hn:∀ σ₁,I [] σ₁->mu.length<=σ₁.mu.length->(wp G k i).x rest σ₁ Q):fo (wp G k i) t b rest Q ds ⟨vars,mu⟩:=⟨fs,I,h0,h,hn⟩
theorem Z8 {n:Nat} {fs:List Nat} {I:St->Prop} {vars:List (Option V)} {mu:List M} (p:List Nat) (σ':St) (h1:iI n p mu.length=true) (h2:(St.pick n p ⟨vars,mu⟩).forget fs=σ') (h:I σ'):Let n fs I ⟨vars,mu⟩:=⟨some p,h1,by rw[h2];exact h⟩
theorem V2 {b:Bool} (h:(!b)=true):b=false:=by induction b using Bool.casesOn with | true=>cases h | false=>rfl
theorem aA {b:Bool} (h:(!b)=false):b=true:=by induction b using Bool.casesOn with | true=>rfl | false=>exact tf h
theorem AG {m n k:Nat} (h:n<=k) (e:Nat.ble m n=true:=by rfl):m<=k:=k6 (E0 e) h
theorem tQ (h:At G m f ds d) (l:n<=k) (e:Nat.ble m n=true:=by rfl):cal G k f ds (fun x=>x=d):=⟨d,h k (AG l e),rfl⟩
theorem e9 (K:D->Prop) (h:At G m f ds d) (l:n<=k) (p:K d) (e:Nat.ble m n=true:=by rfl):cal G k f ds K:=⟨d,h k (AG l e),p⟩
theorem AO {r:V} {I2:List M} (hn:iV G m f ds r I2) (l:n<=k) (vars:List (Option V)) (mu:List M) (R:D) {P:Prop} (hp:f6 R (.ret (L7 mu.length r)) ⟨vars,mu++I2.map (bM mu.length)⟩)
  (e:P=cC G k f ds fun r d8=>f6 R (.ret (L7 mu.length r)) ⟨vars,mu++d8.map (bM mu.length)⟩) (le:Nat.ble m n=true:=by rfl):P:=e.mpr ⟨r,I2,hn k (AG l le),hp⟩
theorem nE {r:V} {I2:List M} (hn:iV G m f ds r I2) (l:n<=k) (i:Nat) (b:List S) (g:V->List (Option V)) (mu:List M) (R:D) {P:Prop} (hp:ex G k i b (g (L7 mu.length r)) (mu++I2.map (bM mu.length)) R)
  (e:P=cC G k f ds fun r d8=>ex G k i b (g (L7 mu.length r)) (mu++d8.map (bM mu.length)) R) (le:Nat.ble m n=true:=by rfl):P:=e.mpr ⟨r,I2,hn k (AG l le),hp⟩
end
section
variable {G:Gd} {k n:Nat}
theorem La:∀ a b c a' b' c':Bool,(A9 (bP (Fg.i ⟨a,b,c⟩) (Fg.i ⟨a',b',c'⟩)) 64==0)=(c==c'):=by decide +kernel
theorem IF (f g:Fg):(A9 (bP f.i g.i) 64==0)=(f.lazy==g.lazy):=La _ _ _ _ _ _
theorem Km:∀ a b c:Bool,(A9 (Fg.i ⟨a,b,c⟩) 64==0)=!c:=by decide +kernel
theorem f64 (f:Fg):(A9 f.i 64==0)=!f.lazy:=Km _ _ _
noncomputable def BR (op fl:D):List M:=[.inst 55,.attrs 55 [.val op,.val fl,.loc 2,.val (.int 0),.val (.int 0),.val (.int 0),.val .none,.val (.int 0),.loc 3,.loc 4,.val (.int 0)],.list [],.list [],.list []]
theorem Lh (X:FX G) (op fl:D):C8 G (k+1) (.ref 36) [.loc 0,.val op,.val fl] [.inst 55,.attrs 55 []] (fun r d8=>r=.val .none/\d8=BR op fl):=
 X.fn (np:=3) (nd:=0) (ne:=0) (b:=SR) (by rfl) (by rfl) ⟨20,kc (⟨rfl,rfl⟩:V.val .none=V.val .none/\BR op fl=BR op fl)⟩
theorem iF (X:FX G) (op fl:D):iV G 2 55 [op,fl] (.loc 0) (BR op fl):=fun k hk=>
 X.up hk (X.cls (C:=55) (fI:=36) (by rfl) (Lh X op fl))
theorem Xu (X:FX G) (t:T):At G 1 43 [t.d] (.bool t.fg.lazy):=
 fnAt X (b:=TF) (by rfl) (by rfl) fun k h=>kc (show(D.bool (!(A9 t.fg.i 64==0))=.bool t.fg.lazy) by rw[f64,oQ])
theorem cH (X:FX G) (o:Lf) (f:Fg):At G 3 66 [.int o.code,.int f.i] (T.leaf o f).d:=
 fnAt X (b:=TP) (by rfl) (by rfl) fun k h=>AO (iF X (.int o.code) (.int f.i)) h [v_ (.int o.code),v_ (.int f.i)] [] (T.leaf o f).d (kr (T.leaf o f).d) (by kernel_rfl)
theorem dS (X:FX G) (r:Int) (f:Fg):At G 3 73 [.int r,.int f.i] (T.lit r f).d:=
 fnAt X (b:=HA) (by rfl) (by rfl) fun k h=>nE (iF X (.int 3) (.int f.i)) h 19 (HA.drop 1) (fun v=>[v_ (.int r),v_ (.int f.i),some v]) [] (T.lit r f).d (kr (T.lit r f).d) (by kernel_rfl)
theorem bK (X:FX G) (rs:List Int) (f:Fg):At G 4 80 [n5 rs,.int f.i] (aB rs f).d:=by
 refine fnAt X (b:=HB) (by rfl) (by rfl) fun k h=>?_
 match rs with
 | []=>exact AO (iF X (.int 2) (.int f.i)) h [v_ (n5 []),v_ (.int f.i),none] [] (T.leaf .empty f).d (kr (T.leaf .empty f).d) (by kernel_rfl)
 | [r]=>exact kc (Ll (dS X r f) h)
 | a::b::l=>
  have e:∀ x:Int,((((l.map D.int).map V.val).length+1+1:Nat)==x)=false->((((l.map D.int).map V.val).length+1+1:Nat)==x)=false:=fun ζ h=>h
  exact kc (U8 (by rw[beq_eq_false_iff_ne];lia) (U8 (by rw[beq_eq_false_iff_ne];lia) (nE (P:=cC G k 55 [.int 4,.int f.i] _) (iF X (.int 4) (.int f.i)) h 17 (HB.drop 3) (fun v=>[v_ (n5 (a::b::l)),v_ (.int f.i),some v]) [] (T.str (a::b::l) f).d (kr (T.str (a::b::l) f).d) rfl)) :
   br (((((l.map D.int).map V.val).length+1+1:Nat):Int)==0) True (br (((((l.map D.int).map V.val).length+1+1:Nat):Int)==1) True _))
end
section
variable {G:Gd} {k n:Nat}
theorem vS (X:FX G) (g:List (Int×Int)) (f:Fg):At G 3 87 [A7 g,.int f.i] (T.cls g f).d:=
 fnAt X (b:=HC) (by rfl) (by rfl) fun k h=>nE (iF X (.int 20) (.int f.i)) h 19 (HC.drop 1) (fun v=>[v_ (A7 g),v_ (.int f.i),some v]) [] (T.cls g f).d (kr (T.cls g f).d) (by kernel_rfl)
theorem YV {α:Type} (x:List α) (m:Int) (h:m<2):(((x.length+1+1:Nat):Int)==m)=false:=by rw[beq_eq_false_iff_ne];lia
theorem Bc (X:FX G) (op nG:Int) (ts:List T) (f:Fg):At G 3 94 [.int op,.int nG,.lst (T.ds ts),.int f.i]
  (List.casesOn ts (iL nG f.i [] 0 0 0 .none 0 (.lst []) (.lst [])) fun t l=>List.casesOn l t.d fun ζ ζ=>iL op f.i (T.ds ts) 0 0 0 .none 0 (.lst []) (.lst [])):=by
 refine fnAt X (b:=HE) (by rfl) (by rfl) fun k h=>?_
 match ts with
 | []=>exact AO (iF X (.int nG) (.int f.i)) h [v_ (.int op),v_ (.int nG),v_ (.lst []),v_ (.int f.i),none] [] (iL nG f.i [] 0 0 0 .none 0 (.lst []) (.lst [])) (kr (iL nG f.i [] 0 0 0 .none 0 (.lst []) (.lst []))) (by kernel_rfl)
 | [t]=>exact kr t.d
 | a::b::l=>
  exact kc (U8 (YV _ 0 (by decide)) (U8 (YV _ 1 (by decide)) (nE (P:=cC G k 55 [.int op,.int f.i] _) (iF X (.int op) (.int f.i)) h 17 (HE.drop 3) (fun v=>[v_ (.int op),v_ (.int nG),v_ (.lst (T.ds (a::b::l))),v_ (.int f.i),some v]) [] (iL op f.i (T.ds (a::b::l)) 0 0 0 .none 0 (.lst []) (.lst []))
   (kr (iL op f.i (T.ds (a::b::l)) 0 0 0 .none 0 (.lst []) (.lst []))) rfl)) :
   br (((((T.ds l).map V.val).length+1+1:Nat):Int)==0) True (br (((((T.ds l).map V.val).length+1+1:Nat):Int)==1) True _))
theorem vP (X:FX G) (ts:List T) (f:Fg):At G 4 101 [.lst (T.ds ts),.int f.i] (C5 ts f).d:=by
 refine fnAt X (b:=SA) (by rfl) (by rfl) fun k h=>kc (e9 (fun x=>x=(C5 ts f).d) (Bc X 5 2 ts f) h ?_)
 match ts with
 | []=>rfl
 | [t]=>rfl
 | a::b::l=>rfl
theorem Wj (X:FX G) (ts:List T) (f:Fg):At G 4 108 [.lst (T.ds ts),.int f.i] (wH ts f).d:=by
 refine fnAt X (b:=SD) (by rfl) (by rfl) fun k h=>kc (e9 (fun x=>x=(wH ts f).d) (Bc X 6 1 ts f) h ?_)
 match ts with
 | []=>rfl
 | [t]=>rfl
 | a::b::l=>rfl
noncomputable def BA (op fl s:D):List M:=[.inst 55,.attrs 55 [.val op,.val fl,.loc 5,.val (.int 0),.val (.int 0),.val (.int 0),.val .none,.val (.int 0),.loc 3,.loc 4,.val (.int 0)],.list [],.list [],.list [],.list [.val s]]
theorem Pd (X:FX G) {f np ne m:Nat} {b:List S} {ds:List D} {r:V} {mu:List M} (h1:tab.lookup f=some (np,0,ne,b)) (h2:ds.length=np)
  (h:∀ k,m<=k->(wp G k 20).x b ⟨(ds.map V.val).map some++List.replicate ne none,[]⟩ (fW fun r' d8=>r'=r/\d8=mu)):iV G (m+1) f ds r mu:=by
 intro k hk
 obtain⟨j,rfl⟩:∃ j,k=j+1:=⟨k-1,by lia⟩
 refine X.fn h1 (by simpa using h2) ⟨20,?_⟩
 have e:ds.map V.val++List.replicate 0 (V.val .none)=ds.map V.val:=u9 _
 rw[e]
 exact h j (by lia)
theorem LD (X:FX G) (op s fl:D):iV G 3 115 [op,s,fl] (.loc 0) (BA op fl s):=
 Pd X (b:=GH) (by rfl) (by rfl) fun k h=>kc (vA (K:=fun r mu=>(wp G k 19).x (GH.drop 1) ⟨[v_ op,v_ s,v_ fl,some (L7 0 r)],mu.map (bM 0)⟩ (fW fun r' d8=>r'=.loc 0/\d8=BA op fl s)) (iF X op fl) h
  (kc (⟨rfl,rfl⟩:V.loc 0=.loc 0/\BA op fl s=BA op fl s)))
noncomputable def qR (op fl:Int) (s:D):D:=iL op fl [s] 0 0 0 .none 0 (.lst []) (.lst [])
theorem iC (X:FX G) (op fl:Int) (s:D) (h:3<=k) (vars:List (Option V)) {P:Prop} (e:P=cC G k 115 [.int op,s,.int fl] fun r d8=>f6 (qR op fl s) (.ret (L7 0 r)) ⟨vars,d8.map (bM 0)⟩):P:=
 AO (LD X (.int op) s (.int fl)) h vars [] (qR op fl s) (kr (qR op fl s)) e
theorem LF (X:FX G) (o:Lk) (t:T) (f:Fg):At G 4 122 [.int o.code,t.d,.int f.i] (u7 o t f).d:=by
 refine fnAt X (b:=SE) (by rfl) (by rfl) fun k h=>?_
 induction t using T.casesOn with
 | loop o' s f'=>
  let M (op:Int) (x R:D):Prop:=cC G k 115 [.int op,x,.int f.i] fun r d8=>f6 R (.ret (L7 0 r)) ⟨[v_ (.int o.code),v_ (T.loop o' s f').d,v_ (.int f.i)],d8.map (bM 0)⟩
  have A (op:Int) (x:D):M op x (qR op f.i x):=iC X op f.i x h _ rfl
  by_cases e:f'.lazy=f.lazy
  ·have e':(!(A9 (bP f'.i f.i) 64==0))=false:=by rw[IF,e,beq_self_eq_true];rfl
   by_cases c:o'=o∨o'=.star
   ·rw[show u7 o (.loop o' s f') f=.loop o' s f' from(if_pos e).trans (if_pos c)]
    have q:=U8 (P:=M o.code (T.loop o' s f').d (T.loop o' s f').d) e' (rfl:(T.loop o' s f').d=(T.loop o' s f').d)
    induction o using Lk.casesOn<;>cases o'<;>first | exact absurd c (by decide) | exact kc q (by kernel_rfl)
   ·rw[show u7 o (.loop o' s f') f=.loop .star s f from(if_pos e).trans (if_neg c)]
    have q:=U8 (P:=M o.code (T.loop o' s f').d (T.loop .star s f).d) e' (A 7 s.d)
    induction o using Lk.casesOn<;>cases o'<;>first | exact absurd (by decide) c | exact kc q (by kernel_rfl)
  ·have e':(!(A9 (bP f'.i f.i) 64==0))=true:=by rw[IF,beq_eq_false_iff_ne.mpr e];rfl
   rw[show u7 o (.loop o' s f') f=.loop o (.loop o' s f') f from if_neg e]
   have q1:=s9 (Q:=(T.loop o' s f').d=qR o.code f.i (T.loop o' s f').d) e' (A o.code (T.loop o' s f').d)
   have q2:=s9 (Q:=M 7 s.d (qR o.code f.i (T.loop o' s f').d)) e' (A o.code (T.loop o' s f').d)
   by_cases c:o'=o∨o'=.star
   ·induction o using Lk.casesOn<;>cases o'<;>first | exact absurd c (by decide) | exact kc q1 (by kernel_rfl)
   ·induction o using Lk.casesOn<;>cases o'<;>first | exact absurd (by decide) c | exact kc q2 (by kernel_rfl)
 | leaf o' f'=>
  have A (P):(P=cC G k 115 [.int o.code,(T.leaf o' f').d,.int f.i] fun r d8=>f6 (T.loop o (.leaf o' f') f).d (.ret (L7 0 r)) ⟨[v_ (.int o.code),v_ (T.leaf o' f').d,v_ (.int f.i)],d8.map (bM 0)⟩)->P:=iC X o.code f.i _ h _
  cases o'<;>exact kc (A _ rfl) (by kernel_rfl)
 | lit r f'=>exact iC X o.code f.i (T.lit r f').d h [v_ (.int o.code),v_ (T.lit r f').d,v_ (.int f.i)] (by kernel_rfl)
 | str r f'=>exact iC X o.code f.i (T.str r f').d h [v_ (.int o.code),v_ (T.str r f').d,v_ (.int f.i)] (by kernel_rfl)
 | cls r f'=>exact iC X o.code f.i (T.cls r f').d h [v_ (.int o.code),v_ (T.cls r f').d,v_ (.int f.i)] (by kernel_rfl)
 | cat r f'=>exact iC X o.code f.i (T.cat r f').d h [v_ (.int o.code),v_ (T.cat r f').d,v_ (.int f.i)] (by kernel_rfl)
 | alt r f'=>exact iC X o.code f.i (T.alt r f').d h [v_ (.int o.code),v_ (T.alt r f').d,v_ (.int f.i)] (by kernel_rfl)
 | rep a b r f'=>exact iC X o.code f.i (T.rep a b r f').d h [v_ (.int o.code),v_ (T.rep a b r f').d,v_ (.int f.i)] (by kernel_rfl)
 | cap a b r f'=>exact iC X o.code f.i (T.cap a b r f').d h [v_ (.int o.code),v_ (T.cap a b r f').d,v_ (.int f.i)] (by kernel_rfl)
theorem LG (X:FX G) (s:T) (f:Fg):At G 5 129 [s.d,.int f.i] (u7 .star s f).d:=fnAt X (b:=SG) (by rfl) (by rfl) fun k h=>kc (tQ (LF X .star s f) h)
theorem BG (X:FX G) (s:T) (f:Fg):At G 5 136 [s.d,.int f.i] (u7 .plus s f).d:=fnAt X (b:=SH) (by rfl) (by rfl) fun k h=>kc (tQ (LF X .plus s f) h)
theorem BH (X:FX G) (s:T) (f:Fg):At G 5 143 [s.d,.int f.i] (u7 .quest s f).d:=fnAt X (b:=SI) (by rfl) (by rfl) fun k h=>kc (tQ (LF X .quest s f) h)
theorem LH (X:FX G) (s:T) (f:Fg) (lo hi:Int):At G 4 150 [s.d,.int f.i,.int lo,.int hi] (T.rep lo hi s f).d:=
 fnAt X (b:=GI) (by rfl) (by rfl) fun k h=>nE (LD X (.int 10) s.d (.int f.i)) h 19 (GI.drop 1) (fun v=>[v_ s.d,v_ (.int f.i),v_ (.int lo),v_ (.int hi),some v]) [] (T.rep lo hi s f).d (kr (T.rep lo hi s f).d) (by kernel_rfl)
theorem Wq (X:FX G) (s:T) (f:Fg) (c:Int) (nm:Bool):At G 4 157 [s.d,.int f.i,.int c,G9 nm] (T.cap c nm s f).d:=
 fnAt X (b:=GJ) (by rfl) (by rfl) fun k h=>nE (LD X (.int 11) s.d (.int f.i)) h 19 (GJ.drop 1) (fun v=>[v_ s.d,v_ (.int f.i),v_ (.int c),v_ (G9 nm),some v]) [] (T.cap c nm s f).d (kr (T.cap c nm s f).d) (by kernel_rfl)
noncomputable def T.CU (t:T) (l:List T):T:=T.casesOn t .leaf .lit .str .cls (fun ζ f=>.cat l f) (fun ζ f=>.alt l f) (fun k s f=>.loop k (l.headD s) f) (fun lo hi s f=>.rep lo hi (l.headD s) f) (fun n nm s f=>.cap n nm (l.headD s) f)
theorem Ww (X:FX G) (t:T) (ts:List T) (h1:t.subs≠[]) (hlen:ts.length=t.subs.length):At G 3 164 [t.d,.lst (T.ds ts)] (t.CU ts).d:=by
 refine fnAt X (b:=GK) (by rfl) (by rfl) fun k h=>?_
 refine nE (iF X (.int t.op) (.int t.fg.i)) h 19 (GK.drop 1) (fun v=>[v_ t.d,v_ (.lst (T.ds ts)),some v]) [] (t.CU ts).d (kc (show iL t.op t.fg.i (T.ds ts) t.lo t.hi t.tR t.vK 0 (.lst []) (.lst [])=(t.CU ts).d from ?_)) (by kernel_rfl)
 have one {s:T} (h:ts.length=1):∃ x,ts=[x]:=by
  match ts,h with
  | [x],_=>exact⟨x,rfl⟩
 induction t using T.casesOn with
 | leaf o f=>exact absurd rfl h1
 | lit o f=>exact absurd rfl h1
 | str o f=>exact absurd rfl h1
 | cls o f=>exact absurd rfl h1
 | cat l f=>rfl
 | alt l f=>rfl
 | loop o s f=>obtain⟨x,rfl⟩:=one (s:=s) hlen;rfl
 | rep lo hi s f=>obtain⟨x,rfl⟩:=one (s:=s) hlen;rfl
 | cap c nm s f=>obtain⟨x,rfl⟩:=one (s:=s) hlen;rfl
end
section
variable {G:Gd} {k n:Nat}
theorem BJ (X:FX G) {op m:Int} (e:∀ k,(wp G k 20).x GL ⟨([D.int op].map V.val).map some++List.replicate 0 none,[]⟩ (f6 (.int m))=(D.int m=D.int m)):At G 1 171 [.int op] (.int m):=
 fnAt X (b:=GL) (by rfl) (by rfl) fun k h=>kr (D.int m) (e k)
theorem Wx (X:FX G):At G 1 171 [.int 3] (.int 1):=BJ X fun k=>by kernel_rfl
theorem Wy (X:FX G):At G 1 171 [.int 20] (.int 0):=BJ X fun k=>by kernel_rfl
theorem Wz (X:FX G):At G 1 171 [.int 12] (.int 0):=BJ X fun k=>by kernel_rfl
theorem Xa (X:FX G):At G 1 171 [.int 13] (.int 0):=BJ X fun k=>by kernel_rfl
theorem Kz:∀ a b c a' b' c':Bool,(A9 (bP (Fg.i ⟨a,b,c⟩) (Fg.i ⟨a',b',c'⟩)) 1==0)=(a==a'):=by decide +kernel
theorem WU (f g:Fg):(A9 (bP f.i g.i) 1==0)=(f.fold==g.fold):=Kz _ _ _ _ _ _
theorem Ky:∀ a b c a' b' c':Bool,(A9 (bP (Fg.i ⟨a,b,c⟩) (Fg.i ⟨a',b',c'⟩)) 0==0)=true:=by decide +kernel
theorem IE (f g:Fg):(A9 (bP f.i g.i) 0==0)=true:=Ky _ _ _ _ _ _
inductive Sg where
 | lit (r:Int) (f:Fg)
 | cls (g:List (Int×Int)) (f:Fg)
 | any (b:Bool) (f:Fg)
noncomputable def Sg.t (s:Sg):T:=Sg.casesOn s .lit .cls fun b f=>.leaf (bif b then .tC else .mD) f
noncomputable def T.isSign (t:T):Bool:=T.casesOn t (fun o ζ=>Lf.casesOn o false false true true false false false false false false) (fun ζ ζ=>true) (fun ζ ζ=>false) (fun ζ ζ=>true) (fun ζ ζ=>false) (fun ζ ζ=>false) (fun ζ ζ ζ=>false) (fun ζ ζ ζ ζ=>false) (fun ζ ζ ζ ζ=>false)
theorem sign_of {t:T} (h:t.isSign=true):∃ s:Sg,t=s.t:=by
 induction t using T.casesOn with
 | leaf o f=>induction o using Lf.casesOn<;>first | exact ft h;done | exact⟨.any false f,rfl⟩ | exact⟨.any true f,rfl⟩
 | lit r f=>exact⟨.lit r f,rfl⟩
 | cls g f=>exact⟨.cls g f,rfl⟩
 | _=>cases h
noncomputable def V3 (s t:Sg):Bool:=Sg.casesOn s
 (fun r f=>Sg.casesOn t (fun r' f'=>f.fold==f'.fold&&r==r') (fun ζ ζ=>false) fun ζ ζ=>false)
 (fun g f=>Sg.casesOn t (fun ζ ζ=>false) (fun g' ζ=>g==g') fun ζ ζ=>false)
 (fun b f=>Sg.casesOn t (fun ζ ζ=>false) (fun ζ ζ=>false) fun b' ζ=>b==b')
theorem Bl:∀(a b:List (Int×Int)),a.length=b.length->E7 (a.map z8) (b.map z8)=some (a==b)
 | [],[],_=>rfl
 |(x,y)::a,(u,v)::b,h=>by
  have ih:=Bl a b (by simpa using h)
  show(some ((x==u&&(y==v&&true))&&true)).bind (fun x=>(E7 (a.map z8) (b.map z8)).map fun y=>x&&y)=_
  rw[ih]
  show some _=some _
  rw[F7,F7]
  rfl
theorem LO (a b:List (Int×Int)):B8 (A7 a) (A7 b)=some (a==b):=by
 induction b using List.casesOn with
 | nil=>induction a using List.casesOn<;>rfl
 | cons y b=>
  show(bif (a.map z8).length==(z8 y::b.map z8).length then E7 (a.map z8) ((y::b).map z8) else some false)=_
  by_cases h:a.length=(y::b).length
  ·rw[show((a.map z8).length==(z8 y::b.map z8).length)=true by simpa using h]
   exact Bl a (y::b) h
  ·rw[show((a.map z8).length==(z8 y::b.map z8).length)=false by simpa using h]
   show some false=_
   have:(a==y::b)=false:=beq_eq_false_iff_ne.mpr fun e=>h (by rw[e])
   rw[this]
theorem Nh:∀ a:List (Int×Int),deps (a.map z8)<=1:=by
 intro b7
 induction b7 with
 | nil=>exact v7 _
 | cons x a ih=>exact U3.mpr ⟨g7 _,ih⟩
theorem VL (a:List (Int×Int)):Nat.ble (dep (A7 a)) 90=true:=n6.mpr (k6 (u6 (Nh a)) (by decide))
theorem Xb (X:FX G) (s t:Sg):At G 2 178 [s.t.d,t.t.d] (.bool (V3 s t)):=by
 refine fnAt X (b:=SJ) (by rfl) (by rfl) fun k h=>?_
 let K (a b:Int) (e:Prop) (R:D):D->Prop:=fun d=>oe (V.int? (.val d)) fun m=>br (!(A9 (bP a b) m==0)) (D.bool false=R) e
 induction s using Sg.casesOn with
 | lit r f=>induction t using Sg.casesOn with
  | lit r' f'=>
   refine kc (J0 (K:=K f.i f'.i (D.bool (r==r')=.bool (f.fold==f'.fold&&r==r')) (.bool (f.fold==f'.fold&&r==r'))) (Wx X) h (g8 (fun e=>?_) fun e=>?_))
   ·rw[WU] at e;rw[show(f.fold==f'.fold)=false by simpa using e];rfl
   ·rw[WU] at e;rw[show(f.fold==f'.fold)=true by simpa using e];rfl
  | cls g f'=>exact kr (D.bool false)
  | any b f'=>induction b using Bool.casesOn<;>exact kr (D.bool false) (by kernel_rfl)
 | cls g f=>induction t using Sg.casesOn with
  | lit r' f'=>exact kr (D.bool false)
  | cls g' f'=>
   refine kc (J0 (K:=K f.i f'.i (oe (B8 (A7 g) (A7 g')) fun r=>j7 (Nat.ble (dep (A7 g')) 90) (D.bool r=.bool (g==g'))) (.bool (g==g'))) (Wy X) h (U8 (by rw[IE];rfl) (j6 (LO g g') (s9 (VL g') rfl))))
  | any b f'=>induction b using Bool.casesOn<;>exact kr (D.bool false) (by kernel_rfl)
 | any b f=>induction t using Sg.casesOn with
  | lit r' f'=>induction b using Bool.casesOn<;>exact kr (D.bool false) (by kernel_rfl)
  | cls g' f'=>induction b using Bool.casesOn<;>exact kr (D.bool false) (by kernel_rfl)
  | any b' f'=>
   induction b using Bool.casesOn<;>cases b'
   ·exact kc (J0 (K:=K f.i f'.i (D.bool true=.bool true) (.bool true)) (Wz X) h (U8 (by rw[IE];rfl) rfl)) (by kernel_rfl)
   ·exact kr (D.bool false) (by kernel_rfl)
   ·exact kr (D.bool false) (by kernel_rfl)
   ·exact kc (J0 (K:=K f.i f'.i (D.bool true=.bool true) (.bool true)) (Xa X) h (U8 (by rw[IE];rfl) rfl)) (by kernel_rfl)
theorem Fg.Sd:∀ a b c a' b' c':Bool,Fg.i ⟨a,b,c⟩=Fg.i ⟨a',b',c'⟩->a=a':=by decide +kernel
theorem Zs {a b:Int×Int} (h:z8 a=z8 b):a=b:=by
 induction a using Prod.casesOn;induction b using Prod.casesOn
 injection h with h
 injection h with h1 h
 injection h with h2 _
 injection h1 with h1
 injection h2 with h2
 exact fB h1 h2
theorem ZK {α β:Type} {f:α->β} (hf:∀ a b,f a=f b->a=b):∀(l m:List α),l.map f=m.map f->l=m
 | [],[],_=>rfl
 | [],b::m,h=>nomatch h
 | a::l,[],h=>nomatch h
 | a::l,b::m,h=>by
  injection h with h1 h2
  rw[hf _ _ h1,ZK hf _ _ h2]
noncomputable def Ag (d:D):Option (Int×Int):=(d.obj?.bind fun q=>(q.2[0]?).bind fun o=>o.int?.bind fun o=>(q.2[1]?).bind fun f=>f.int?.map fun f=>(o,f))
theorem aC5 {s t:Sg} (h:s.t.d=t.t.d):V3 s t=true:=by
 have ho:s.t.op=t.t.op:=by have:=congrArg Ag h;have this:=si this;injection this
 induction s using Sg.casesOn with
 | lit r f=>induction t using Sg.casesOn with
  | lit r' f'=>
   have hf:f.i=f'.i:=by have:=congrArg Ag h;have this:=si this;injection this
   have hr:some (D.int r)=some (D.int r'):=sM (by kernel_rfl) ((congrArg (fun d:D=>d.obj?.bind fun q=>q.2[7]?) h).trans (by kernel_rfl))
   have hr:=si hr
   injection hr with hr
   have:=Fg.Sd _ _ _ _ _ _ hf
   show(f.fold==f'.fold&&r==r')=true
   rw[this,hr,beq_self_eq_true,beq_self_eq_true];rfl
  | cls g' f'=>exact absurd (show(3:Int)=20 from ho) (by decide)
  | any b' f'=>cases b'<;>first | exact absurd (show(3:Int)=12 from ho) (by decide) | exact absurd (show(3:Int)=13 from ho) (by decide)
 | cls g f=>induction t using Sg.casesOn with
  | lit r' f'=>exact absurd (show(20:Int)=3 from ho) (by decide)
  | cls g' f'=>
   have hr:some (A7 g)=some (A7 g'):=sM (by kernel_rfl) ((congrArg (fun d:D=>d.obj?.bind fun q=>q.2[9]?) h).trans (by kernel_rfl))
   have hr:=si hr
   injection hr with hr
   show(g==g')=true
   rw[ZK (fun a b=>Zs) _ _ hr];exact beq_self_eq_true _
  | any b' f'=>cases b'<;>first | exact absurd (show(20:Int)=12 from ho) (by decide) | exact absurd (show(20:Int)=13 from ho) (by decide)
 | any b f=>induction t using Sg.casesOn with
  | lit r' f'=>induction b using Bool.casesOn<;>first | exact absurd (show(12:Int)=3 from ho) (by decide) | exact absurd (show(13:Int)=3 from ho) (by decide)
  | cls g' f'=>induction b using Bool.casesOn<;>first | exact absurd (show(12:Int)=20 from ho) (by decide) | exact absurd (show(13:Int)=20 from ho) (by decide)
  | any b' f'=>induction b using Bool.casesOn<;>cases b'<;>first | rfl | exact absurd (show(12:Int)=13 from ho) (by decide) | exact absurd (show(13:Int)=12 from ho) (by decide)
noncomputable def HV (s t:D) (l:List V):St:=⟨[v_ s,v_ t,some (.loc 0),none,none,none,none],[.list l]⟩
noncomputable def objOf (d:D):Addr×List D:=(d.obj?).getD (0,[])
theorem Vn {s t:T} (h:objOf s.d=objOf t.d):s.d=t.d:=congrArg (fun q:Addr×List D=>D.obj q.1 q.2) h
theorem Sg.Vj (s:Sg):s.t.sD=[]:=by
 induction s using Sg.casesOn with
 | any b f=>induction b using Bool.casesOn<;>rfl
 | _=>rfl
theorem WO {i:Nat} {t:Tg} {b rest:List S} {Q:Fl->St->Prop} {σ:St} (h:(wp G k i).x rest σ Q):fo (wp G k i) t b rest Q [] σ:=
 ⟨[],fun ds σ₁=>ds=[]/\σ₁=σ,⟨rfl,rfl⟩,fun ζ ζ ζ h=>absurd h.1 (EP _ _),fun σ₁ e ζ=>by rw[e.2];exact h⟩
theorem Xc (X:FX G) (s t:Sg):At G 3 185 [s.t.d,t.t.d] (.bool (V3 s t)):=by
 refine fnAt X (b:=tG) (by rfl) (by rfl) fun k h=>?_
 let I:Nat->St->Prop:=fun n σ=>(n=1/\σ=HV s.t.d t.t.d [.val (.tup [s.t.d,t.t.d])])∨(n=0/\σ=HV s.t.d t.t.d []/\V3 s t=true)
 refine kc (rW (G:=G) (k:=k) (i:=18) (b:=tG) (j:=1) (rest:=tG.drop 2) (vars:=[v_ s.t.d,v_ t.t.d,some (.loc 0),none,none,none,none]) (mu:=[.list [.val (.tup [s.t.d,t.t.d])]]) (Q:=f6 (.bool (V3 s t))) [3,4,5,6] I 1 (.inl ⟨rfl,rfl⟩) ?_)
 rintro n σ₁ (⟨rfl,rfl⟩ |⟨rfl,rfl,he⟩) _
 ·let J:St->Prop:=Let 1 [3,4,5,6] fun σ''=>∃ m,m<1/\I m σ''
  let Q:Fl->St->Prop:=again (f6 (.bool (V3 s t))) J
  let vs:List (Option V):=[v_ s.t.d,v_ t.t.d,some (.loc 0),v_ s.t.d,v_ t.t.d,none,none]
  let A:=(j8 (j8 tG 1).l5 1).l5
  let K:D->Prop:=fun d=>oe (V.bool? (.val d)) fun b=>br (!b) (D.bool false=.bool (V3 s t)) (fo (wp G k 14) (j8 A 1).tgt (j8 A 1).l5 [] (l8 (wp G k 16) [] Q) (numbered s.t.sD) ⟨vs,[.list [],.list []]⟩)
  have out (he:V3 s t=true):J ⟨vs,[.list [],.list []]⟩:=Z8 [] (HV s.t.d t.t.d []) rfl (by kernel_rfl) ⟨0,Nat.zero_lt_one,.inr ⟨rfl,rfl,he⟩⟩
  have q:∀ r,(r=true->objOf s.t.d=objOf t.t.d)->br (bif true then !r else r) (cal G k 178 [s.t.d,t.t.d] K) (J ⟨vs,[.list [],.list []]⟩):=by
   intro r hr
   induction r using Bool.casesOn with
   | true=>exact out (aC5 (Vn (hr rfl)))
   | false=>
    refine e9 K (Xb X s t) h (g8 (fun e=>?_) fun e=>?_)
    ·rw[V2 e]
    ·rw[Sg.Vj]
     exact WO (kc (out (aA e)))
  exact kc q
 ·exact kc (show(D.bool true=.bool (V3 s t)) by rw[he]) (by kernel_rfl)
end
section
variable {G:Gd} {k n:Nat}
noncomputable def T.D6 (t:T):Bool:=T.casesOn t (fun ζ ζ=>false) (fun ζ ζ=>false) (fun ζ ζ=>false) (fun ζ ζ=>false) (fun ζ ζ=>false) (fun ζ ζ=>false) (fun ζ s ζ=>s.isSign) (fun lo hi s ζ=>bif !(hi==-1)&&decide (hi<lo) then false else s.isSign) (fun ζ ζ ζ ζ=>false)
theorem nH (t:T):(3==t.op||(20==t.op||(12==t.op||(13==t.op||false))))=t.isSign:=by
 induction t using T.casesOn with
 | leaf o f=>induction o using Lf.casesOn<;>rfl
 | loop o s f=>induction o using Lk.casesOn<;>rfl
 | _=>rfl
theorem vR (X:FX G) (t:T):At G 1 279 [t.d] (.bool t.D6):=by
 refine fnAt X (b:=SN) (by rfl) (by rfl) fun k h=>?_
 induction t using T.casesOn with
 | leaf o f=>induction o using Lf.casesOn<;>exact kr (D.bool false) (by kernel_rfl)
 | loop o s f=>
  have q:D.bool (3==s.op||(20==s.op||(12==s.op||(13==s.op||false))))=.bool s.isSign:=by rw[nH]
  induction o using Lk.casesOn<;>exact kc q (by kernel_rfl)
 | rep lo hi s f=>
  have q:D.bool (3==s.op||(20==s.op||(12==s.op||(13==s.op||false))))=.bool s.isSign:=by rw[nH]
  let R:=D.bool (bif !(hi==-1)&&decide (hi<lo) then false else s.isSign)
  have e (x y:Bool):br x (br y (D.bool false=.bool (bif x&&y then false else s.isSign)) (D.bool (3==s.op||(20==s.op||(12==s.op||(13==s.op||false))))=.bool (bif x&&y then false else s.isSign)))
    (D.bool (3==s.op||(20==s.op||(12==s.op||(13==s.op||false))))=.bool (bif x&&y then false else s.isSign)):=by induction x using Bool.casesOn<;>induction y using Bool.casesOn<;>first | exact rfl | exact q
  exact kc (e (!(hi==-1)) (decide (hi<lo)))
 | lit r f=>exact kr (D.bool false)
 | str r f=>exact kr (D.bool false)
 | cls r f=>exact kr (D.bool false)
 | cat r f=>exact kr (D.bool false)
 | alt r f=>exact kr (D.bool false)
 | cap a b r f=>exact kr (D.bool false)
theorem BW {t:T} (h:t.D6=true):∃ s:Sg,t.subs=[s.t]/\t.sD=[s.t.d]:=by
 induction t using T.casesOn with
 | loop o s f=>obtain⟨s,rfl⟩:=sign_of (h:s.isSign=true);exact⟨s,rfl,rfl⟩
 | rep lo hi s f=>
  have:s.isSign=true:=by
   have h:(bif !(hi==-1)&&decide (hi<lo) then false else s.isSign)=true:=h
   cases e:(!(hi==-1)&&decide (hi<lo)) with
   | true=>rw[e] at h;exact ft h
   | false=>rw[e] at h;exact h
  obtain⟨s,rfl⟩:=sign_of this
  exact⟨s,rfl,rfl⟩
 | _=>exact ft h
noncomputable def T.sgn (t:T):Option T:=bif t.isSign then some t else bif t.D6 then t.subs.head? else none
noncomputable def BC (o:Option T):D:=Option.casesOn o .none T.d
theorem LJ (X:FX G) (t:T):At G 2 286 [t.d] (BC t.sgn):=by
 refine fnAt X (b:=SO) (by rfl) (by rfl) fun k h=>?_
 let K:D->Prop:=fun d=>oe (V.bool? (.val d)) fun b=>br b (oe (L6 (t.sD.map V.val) 0) fun v=>f6 (BC t.sgn) (.ret v) ⟨[v_ t.d],[]⟩) (D.none=BC t.sgn)
 refine kc (g8 (b:=(3==t.op||(20==t.op||(12==t.op||(13==t.op||false))))) (P:=t.d=BC t.sgn) (Q:=cal G k 279 [t.d] K) (fun e=>?_) fun e=>e9 K (vR X t) h (g8 (fun e'=>?_) fun e'=>?_))
 ·rw[nH] at e;unfold T.sgn;rw[e];rfl
 ·rw[nH] at e
  obtain⟨g,h1,h2⟩:=BW e'
  rw[h2]
  unfold T.sgn
  rw[e,e',h1]
  exact rfl
 ·rw[nH] at e;unfold T.sgn;rw[e,e'];rfl
noncomputable def T.bnd (t:T):Int×Int:=T.casesOn t (fun ζ ζ=>(1,1)) (fun ζ ζ=>(1,1)) (fun ζ ζ=>(1,1)) (fun ζ ζ=>(1,1)) (fun ζ ζ=>(1,1)) (fun ζ ζ=>(1,1)) (fun o ζ ζ=>Lk.casesOn o (0,-1) (1,-1) (0,1)) (fun lo hi ζ ζ=>(lo,hi)) (fun ζ ζ ζ ζ=>(1,1))
theorem Aq (X:FX G) (t:T):At G 1 293 [t.d] (z8 t.bnd):=by
 refine fnAt X (b:=SP) (by rfl) (by rfl) fun k h=>?_
 induction t using T.casesOn with
 | leaf o f=>induction o using Lf.casesOn<;>exact kr (z8 (1,1)) (by kernel_rfl)
 | loop o s f=>
  induction o using Lk.casesOn
  ·exact kr (z8 (0,-1)) (by kernel_rfl)
  ·exact kr (z8 (1,-1)) (by kernel_rfl)
  ·exact kr (z8 (0,1)) (by kernel_rfl)
 | rep lo hi s f=>exact kr (z8 (lo,hi))
 | lit r f=>exact kr (z8 (1,1))
 | str r f=>exact kr (z8 (1,1))
 | cls r f=>exact kr (z8 (1,1))
 | cat r f=>exact kr (z8 (1,1))
 | alt r f=>exact kr (z8 (1,1))
 | cap a b r f=>exact kr (z8 (1,1))
theorem Kl:∀ a b c a' b' c':Bool,(A9 (Fg.i ⟨a,b,c⟩) 33==A9 (Fg.i ⟨a',b',c'⟩) 33)=(a==a'&&b==b'):=by decide +kernel
theorem WK (f g:Fg):(A9 f.i 33==A9 g.i 33)=(f.fold==g.fold&&f.E4==g.E4):=Kl _ _ _ _ _ _
theorem Kn:∀ a b c a' b' c':Bool,(A9 (Fg.i ⟨a,b,c⟩) 64==A9 (Fg.i ⟨a',b',c'⟩) 64)=(c==c'):=by decide +kernel
theorem Oq (f g:Fg):(A9 f.i 64==A9 g.i 64)=(f.lazy==g.lazy):=Kn _ _ _ _ _ _
noncomputable def taken (s:Sg) (rs:List Int) (g:Fg):Nat:=Sg.casesOn s (fun r f=>bif f.fold==g.fold&&f.E4==g.E4 then(rs.takeWhile (·==r)).length else 0) (fun ζ ζ=>0) fun ζ ζ=>0
theorem Eo {r:Int}:∀(rs:List Int) (m:Nat),m<=(rs.takeWhile (·==r)).length->(m=(rs.takeWhile (·==r)).length↔(rs[m]?≠some r))
 | [],m,h=>by simp at h;subst h;simp
 | a::l,m,h=>by
  by_cases q:a=r
  ·subst q
   simp only[yC,BEq.rfl,if_true,eY] at h ⊢
   induction m using Nat.casesOn with
   | zero=>simp
   | succ m=>
    have:=Eo (r:=a) l m (by lia)
    simp only[List.getElem?_cons_succ]
    rw[<-this]
    lia
  ·have q':(a==r)=false:=by simpa using q
   simp only[yC,q',EB,if_false,List.length_nil] at h ⊢
   have:m=0:=by lia
   subst this
   simp[q]
theorem Ar (X:FX G) (s:Sg) (rs:List Int) (g:Fg):At G 1 307 [s.t.d,(T.str rs g).d] (.int (taken s rs g)):=by
 refine fnAt X (b:=pF) (by rfl) (by rfl) fun k h=>?_
 induction s using Sg.casesOn with
 | cls g' f=>exact kr (D.int 0)
 | any b f=>induction b using Bool.casesOn<;>exact kr (D.int 0) (by kernel_rfl)
 | lit r f=>
  let R:=D.int (taken (.lit r f) rs g)
  let st (j:Nat):St:=⟨[v_ (T.lit r f).d,v_ (T.str rs g).d,v_ (.int (j:Int))],[]⟩
  let tw:=(rs.takeWhile (·==r)).length
  have hle:tw<=rs.length:=(QG _).length_le
  let I:Nat->St->Prop:=fun m σ=>∃ j:Nat,j<=tw/\m=rs.length-j/\σ=st j
  refine kc (g8 (b:=!(A9 f.i 33==A9 g.i 33)) (P:=D.int 0=R) (fun e=>?_) fun e=>rW (G:=G) (k:=k) (i:=17) (b:=pF) (j:=2) (rest:=pF.drop 3) (vars:=[v_ (T.lit r f).d,v_ (T.str rs g).d,v_ (.int 0)]) (mu:=[]) (Q:=f6 R) [] I (rs.length-0) ⟨0,v7 _,rfl,rfl⟩ ?_)
  ·rw[WK] at e
   show D.int 0=D.int (((bif f.fold==g.fold&&f.E4==g.E4 then tw else 0:Nat)):Int)
   rw[show(f.fold==g.fold&&f.E4==g.E4)=false from V2 e];rfl
  ·rw[WK] at e
   have hR:R=D.int (tw:Nat):=by
    show D.int (((bif f.fold==g.fold&&f.E4==g.E4 then tw else 0:Nat)):Int)=_
    rw[show(f.fold==g.fold&&f.E4==g.E4)=true from aA e];rfl
   rintro m σ₁ ⟨j,hj,rfl,rfl⟩ _
   have hw:=Eo (r:=r) rs j hj
   let J:St->Prop:=Let 0 [] fun σ''=>∃ m',m'<rs.length-j/\I m' σ''
   refine kc (g8 (b:=decide ((j:Int)<(((rs.map D.int).map V.val).length:Nat))) (P:=oe (L6 ((rs.map D.int).map V.val) (j:Int)) fun v=>S8 .Eq v (.val (.int r)) (st j) fun c σ'=>x7 c σ' fun b σ''=>
    br b ((wp G k 17).x (j8 pF 2).l5 σ'' (again (f6 R) J)) ((wp G k 17).x (pF.drop 3) σ'' (f6 R))) (Q:=D.int (j:Int)=R) (fun e1=>?_) fun e1=>?_)
   ·have hlt:j<rs.length:=by simpa using e1
    refine j6 (x:=.val (.int rs[j])) (show((rs.map D.int).map V.val)[j]?=_ by simp[hlt]) ?_
    refine kc (g8 (b:=rs[j]==r) (P:=J (st (j+1))) (Q:=D.int (j:Int)=R) (fun e2=>?_) fun e2=>?_)
    ·have:j≠tw:=fun z=>(hw.1 z) (by rw[P5 hlt,eq_of_beq e2])
     exact Z8 [] (st (j+1)) rfl (by kernel_rfl) ⟨rs.length-(j+1),by lia,j+1,by lia,rfl,rfl⟩
    ·have:j=tw:=hw.2 (by rw[P5 hlt];intro z;have z:=si z;rw[z] at e2;simp at e2)
     rw[hR,this]
   ·have hlt:¬j<rs.length:=by simpa using e1
    rw[hR,show j=tw by lia]
end
section
variable {G:Gd} {k n:Nat}
noncomputable def T.isStr (t:T):Bool:=T.casesOn t (fun ζ ζ=>false) (fun ζ ζ=>false) (fun ζ ζ=>true) (fun ζ ζ=>false) (fun ζ ζ=>false) (fun ζ ζ=>false) (fun ζ ζ ζ=>false) (fun ζ ζ ζ ζ=>false) (fun ζ ζ ζ ζ=>false)
theorem BB (t:T):(t.op==4)=t.isStr:=by
 induction t using T.casesOn with
 | leaf o f=>induction o using Lf.casesOn<;>rfl
 | loop o s f=>induction o using Lk.casesOn<;>rfl
 | _=>rfl
theorem isStr_of {t:T} (h:t.isStr=true):∃ rs g,t=.str rs g:=by induction t using T.casesOn<;>first | exact⟨_,_,rfl⟩ | exact ft h
noncomputable def T.sg (t:T):Option Sg:=T.casesOn t (fun o f=>Lf.casesOn o none none (some (.any false f)) (some (.any true f)) none none none none none none) (fun r f=>some (.lit r f)) (fun ζ ζ=>none) (fun g f=>some (.cls g f)) (fun ζ ζ=>none) (fun ζ ζ=>none) (fun ζ ζ ζ=>none) (fun ζ ζ ζ ζ=>none) (fun ζ ζ ζ ζ=>none)
theorem Sg.sg (s:Sg):s.t.sg=some s:=by
 induction s using Sg.casesOn with
 | any b f=>induction b using Bool.casesOn<;>rfl
 | _=>rfl
noncomputable def T.I4 (t:T):Option Sg:=bif t.isSign then t.sg else bif t.D6 then t.subs.head?.bind T.sg else none
theorem MI (t:T):t.sgn=t.I4.map Sg.t:=by
 unfold T.sgn T.I4
 cases e:t.isSign with
 | true=>obtain⟨s,rfl⟩:=sign_of e;show some s.t=s.t.sg.map Sg.t;rw[Sg.sg];rfl
 | false=>
  cases e':t.D6 with
  | true=>obtain⟨s,h,_⟩:=BW e';rw[h];show some s.t=(s.t.sg).map Sg.t;rw[Sg.sg];rfl
  | false=>rfl
noncomputable def G4 (one other:T):Bool:=bif other.isStr then(bif one.D6 then Option.casesOn one.I4 false fun a=>decide ((taken a other.O2 other.fg:Int)>0) else false)
 else bif !one.D6&&!other.D6 then false else Option.casesOn one.I4 false fun a=>Option.casesOn other.I4 false fun b=>bif V3 a b then one.isSign||(other.isSign||one.fg.lazy==other.fg.lazy) else false
theorem Xk (X:FX G) (one other:T):At G 4 300 [one.d,other.d] (.bool (G4 one other)):=by
 refine fnAt X (b:=GP) (by rfl) (by rfl) fun k h=>?_
 let R:=D.bool (G4 one other)
 let σ0:St:=⟨[v_ one.d,v_ other.d,none,none],[]⟩
 let K1:D->Prop:=fun d=>oe (V.bool? (.val d)) fun b=>br b (oe (L6 (one.sD.map V.val) 0) fun v=>R7 [v,.val other.d] σ0 fun ds σ'=>cal G k 307 ds fun m=>jV (.val m) (.val (.int 0)) fun x y=>D.bool (decide (x>y))=R) (d=R)
 let C:Prop:=cal G k 286 [one.d] fun x=>cal G k 286 [other.d] fun y=>ex G k 17 (GP.drop 3) [v_ one.d,v_ other.d,v_ x,v_ y] [] R
 let K2:D->Prop:=fun d=>oe (V.bool? (.val d)) fun b=>br (!b) (cal G k 279 [other.d] fun d'=>oe (V.bool? (.val d')) fun b'=>br (!b') (D.bool false=R) C) C
 have hC (hs:other.isStr=false) (hr:(!one.D6&&!other.D6)=false):C:=by
  refine e9 _ (LJ X one) h (e9 _ (LJ X other) h ?_)
  have hR:G4 one other=Option.casesOn one.I4 false fun a=>Option.casesOn other.I4 false fun b=>bif V3 a b then one.isSign||(other.isSign||one.fg.lazy==other.fg.lazy) else false:=by unfold G4;rw[hs,hr];rfl
  rw[MI,MI]
  cases e1:one.I4 with
  | none=>rw[e1] at hR;exact kc (show D.bool false=R by show D.bool false=D.bool (G4 one other);rw[hR])
  | some a=>
   cases e2:other.I4 with
   | none=>rw[e1,e2] at hR;exact kc (show D.bool false=R by show D.bool false=D.bool (G4 one other);rw[hR])
   | some b=>
    rw[e1,e2] at hR
    have hR:G4 one other=bif V3 a b then one.isSign||(other.isSign||one.fg.lazy==other.fg.lazy) else false:=hR
    let E:Prop:=br (3==one.op||(20==one.op||(12==one.op||(13==one.op||false)))) (D.bool true=R) (br (3==other.op||(20==other.op||(12==other.op||(13==other.op||false)))) (D.bool true=R) (D.bool (A9 one.fg.i 64==A9 other.fg.i 64)=R))
    let K:D->Prop:=fun d=>oe (V.bool? (.val d)) fun b=>br (!b) (D.bool false=R) E
    refine kc (e9 K (Xc X a b) h (g8 (fun e=>?_) fun e=>?_))
    ·show D.bool false=D.bool (G4 one other);rw[hR,V2 e];rfl
    ·have hR:G4 one other=(one.isSign||(other.isSign||one.fg.lazy==other.fg.lazy)):=by rw[hR,aA e];rfl
     show br _ (D.bool true=D.bool (G4 one other)) (br _ (D.bool true=D.bool (G4 one other)) (_=D.bool (G4 one other)))
     rw[nH,nH,Oq,hR]
     cases one.isSign<;>cases other.isSign<;>rfl
 refine kc (g8 (b:=other.op==4) (P:=cal G k 279 [one.d] K1) (Q:=cal G k 279 [one.d] K2) (fun e=>?_) fun e=>?_)
 ·rw[BB] at e
  refine e9 K1 (vR X one) h (g8 (fun e'=>?_) fun e'=>?_)
  ·obtain⟨s,h1,h2⟩:=BW e'
   obtain⟨rs,g,rfl⟩:=isStr_of e
   refine h2▸?_
   have hS:one.isSign=false:=by induction one using T.casesOn<;>first | rfl | cases e'
   have hg:one.I4=some s:=by unfold T.I4;rw[hS,e',h1];exact Sg.sg s
   have hR:R=D.bool (decide ((taken s rs g:Int)>0)):=by
    show D.bool (bif one.D6 then Option.casesOn one.I4 false fun a=>decide ((taken a rs g:Int)>0) else false)=_
    rw[e',hg];rfl
   exact kc (e9 (fun m=>jV (.val m) (.val (.int 0)) fun x y=>D.bool (decide (x>y))=R) (Ar X s rs g) h hR.symm)
  ·show D.bool one.D6=D.bool (G4 one other)
   unfold G4;rw[e,e'];rfl
 ·rw[BB] at e
  refine e9 K2 (vR X one) h (g8 (fun e1=>e9 _ (vR X other) h (g8 (fun e2=>?_) fun e2=>?_)) fun e1=>?_)
  ·show D.bool false=D.bool (G4 one other)
   unfold G4;rw[e,V2 e1,V2 e2];rfl
  ·exact hC e (by rw[aA e2];exact Y8 _)
  ·exact hC e (by rw[aA e1];rfl)
theorem Dy {a b:Nat} (h:b+1<=a):a-b=a-(b+1)+1:=by lia
noncomputable def dJ (n:Nat) (k:Int):Nat:=Int.casesOn k (fun m=>min m n) fun m=>n-(m+1)
theorem Ly (m n:Nat):max 0 (min (m:Int) n)=((min m n:Nat):Int):=by
 rw[show(min (m:Int) n)=((min m n:Nat):Int) from(xR m n).symm]
 exact EJ (gG _)
theorem Lx (m n:Nat):max 0 (min (Int.negSucc m+n) (n:Int))=((n-(m+1):Nat):Int):=by
 have e:Int.negSucc m+n=(n:Int)-((m+1:Nat):Int):=EE _ _
 rw[e,PK (Int.sub_le_self _ (gG _)),Int.max_comm,<-Int.toNat_eq_max,xQ]
theorem uO (n:Nat) (k:Int):max 0 (min (if k<0 then k+n else k) (n:Int))=((dJ n k:Nat):Int):=by
 induction k using Int.casesOn with
 | ofNat m=>exact Ly m _
 | negSucc m=>rw[if_pos (Int.negSucc_lt_zero m)];exact Lx m _
theorem aB2 (a b:Option Int) (n:Nat):sliceBounds a b none n=(((Option.casesOn a 0 (dJ n):Nat):Int),((Option.casesOn b n (dJ n):Nat):Int),1):=by
 have one (k:Int):=uO n k
 induction a using Option.casesOn with
 | none=>induction b using Option.casesOn with
  | none=>rfl
  | some k=>exact congrArg (fun x=>((0:Int),x,(1:Int))) (uO n k)
 | some j=>induction b using Option.casesOn with
  | none=>exact congrArg (fun x=>(x,(n:Int),(1:Int))) (uO n j)
  | some k=>exact(congrArg (fun x=>(x,_,(1:Int))) (uO n j)).trans (congrArg (fun x=>(((dJ n j:Nat):Int),x,(1:Int))) (uO n k))
theorem pM {α:Type} (l:List α) (a b:Option Int):B3 l a b=(l.drop (Option.casesOn a 0 (dJ l.length))).take (Option.casesOn b l.length (dJ l.length)-Option.casesOn a 0 (dJ l.length)):=by
 unfold B3
 rw[aB2]
 dsimp only
 rw[xQ,Int.toNat_natCast]
theorem Mv {α:Type} (l:List α) (m:Nat):B3 l none (some (m:Int))=l.take m:=(pM l _ _).trans QK.symm
theorem VF {α:Type} (l:List α) (m:Nat):B3 l (some (m:Int)) none=l.drop m:=by
 rw[pM,List.drop_eq_drop_min (i:=m)]
 exact QM (by rw[cW];exact g7 _)
theorem VE {α:Type} (l:List α) (m:Nat) (h:m<=l.length):B3 l (some (m:Int)) none=l.drop m:=VF l m
theorem Ms {α:Type} (l:List α) (x:α):B3 (l++[x]) none (some (-1))=l:=by
 rw[pM]
 show(l++[x]).take ((l++[x]).length-1)=l
 refine o7▸?_
 exact QL
theorem YG (n m:Nat) (h:1<=m):dJ n (-(m:Int))=n-m:=by
 induction m using Nat.casesOn with
 | zero=>exact absurd h (aN 0)
 | succ m=>rfl
theorem Mu {α:Type} (l:List α) (m:Nat) (h:1<=m):B3 l (some (-(m:Int))) none=l.drop (l.length-m):=by
 rw[pM]
 show(l.drop (dJ l.length (-(m:Int)))).take (l.length-dJ l.length (-(m:Int)))=_
 refine(YG _ _ h)▸?_
 exact QM (by rw[cW];exact g7 _)
theorem VD {α:Type} (l:List α) (m:Nat) (h:1<=m):B3 l none (some (-(m:Int)))=l.take (l.length-m):=by
 rw[pM]
 show l.take (dJ l.length (-(m:Int)))=_
 exact(YG _ _ h)▸rfl
theorem VC {α:Type} (l:List α) (p m:Nat) (h:p<=l.length):B3 l (some (p:Int)) (some ((p:Int)+(m:Nat)))=(l.drop p).take m:=by
 rw[pM]
 show(l.drop (min p l.length)).take (min (p+m) l.length-min p l.length)=_
 rw[QW h,QK (i:=m),cW,<-Nat.sub_min_sub_right,cZ]
theorem Ep (s:Sg) (rs:List Int) (g:Fg):taken s rs g<=rs.length:=by
 induction s using Sg.casesOn with
 | lit r f=>
  show(bif f.fold==g.fold&&f.E4==g.E4 then(rs.takeWhile (·==r)).length else 0)<=_
  cases(f.fold==g.fold&&f.E4==g.E4) with
  | true=>exact(QG _).length_le
  | false=>exact v7 _
 | _=>exact v7 _
noncomputable def nA (one other:T):Fg:=bif one.D6 then one.fg else other.fg
noncomputable def bA (s:Sg) (other:T):Int×Int:=bif other.isStr then((taken s other.O2 other.fg:Int),(taken s other.O2 other.fg:Int)) else other.bnd
noncomputable def joinRest (s:Sg) (other:T):List Int:=bif other.isStr then other.O2.drop (taken s other.O2 other.fg) else []
noncomputable def I1 (a b:Int):Int:=bif a==-1||(b==-1||false) then -1 else a+b
noncomputable def uQ (s:Sg) (one other:T):T:=.rep (one.bnd.1+(bA s other).1) (I1 one.bnd.2 (bA s other).2) s.t (nA one other)
noncomputable def joined (s:Sg) (one other:T):List T:=uQ s one other::List.casesOn (joinRest s other) [] fun ζ ζ=>[aB (joinRest s other) other.fg]
theorem Kw {c:Bool} {X:Int->Prop} {a b:Int} (h:X (bif c then a else b)):br c (X a) (X b):=by induction c using Bool.casesOn<;>exact h
theorem Xl (X:FX G) (s:Sg) (one other:T) (hs:one.I4=some s):At G 5 314 [one.d,other.d] (.lst (T.ds (joined s one other))):=by
 refine fnAt X (b:=gK) (by rfl) (by rfl) fun k h=>?_
 let R:=D.lst (T.ds (joined s one other))
 let S1 (x:D) (fl:Int):Prop:=ex G k 19 (gK.drop 1) [v_ one.d,v_ other.d,v_ x,v_ (.int fl),none,none,none,none,none,none,none] [] R
 let K1 (x:D):D->Prop:=fun d=>oe (V.bool? (.val d)) fun b=>br b (S1 x one.fg.i) (S1 x other.fg.i)
 refine kc (e9 (fun x=>cal G k 279 [one.d] (K1 x)) (LJ X one) h (e9 (K1 _) (vR X one) h ?_))
 rw[MI,hs]
 have e0:∀ b:Bool,(S1 s.t.d (bif b then one.fg else other.fg).i)->br b (S1 s.t.d one.fg.i) (S1 s.t.d other.fg.i):=fun b h=>by induction b using Bool.casesOn<;>exact h
 refine e0 one.D6 ?_
 show S1 s.t.d (nA one other).i
 let vs (a b c d e f g:Option V):List (Option V):=[v_ one.d,v_ other.d,v_ s.t.d,v_ (.int (nA one other).i),a,b,c,d,e,f,g]
 let lo:=v_ (.int one.bnd.1)
 let hi:=v_ (.int one.bnd.2)
 let K2:D->Prop:=fun d=>C6 (.tup [4,5]) (.val d) ⟨vs none none none none none none none,[]⟩ fun σ''=>(wp G k 18).x (gK.drop 2) σ'' (f6 R)
 refine kc (e9 K2 (Aq X one) h ?_)
 let S5 (x:Option V) (b:Int×Int) (r:V) (mu:List M):Prop:=ex G k 17 (gK.drop 3) (vs lo hi x (v_ (z8 b)) (some r) none none) mu R
 have behind (x:Option V) (r:V) (mu:List M) (hr:(mu=[]/\r=.val (.lst ((joinRest s other).map .int)))∨(mu=[.list []]/\r=.loc 0/\joinRest s other=[])):S5 x (bA s other) r mu:=by
  let T5 (most:Int):Prop:=cal G k 150 [s.t.d,.int (nA one other).i,.int (one.bnd.1+(bA s other).1),.int most] fun d=>ex G k 15 (gK.drop 5) (vs lo hi x (v_ (z8 (bA s other))) (some r) (v_ (.int most)) (some (.loc mu.length))) (mu++[.list [.val d]]) R
  have h5:T5 (I1 one.bnd.2 (bA s other).2):=by
   refine e9 _ (LH X s.t (nA one other) _ _) h ?_
   rcases hr with⟨rfl,rfl⟩ |⟨rfl,rfl,e⟩
   ·let x80:Prop:=cal G k 80 [n5 (joinRest s other),.int other.fg.i] fun y=>D.lst [(uQ s one other).d,y]=R
    refine kc (g8 (b:=((joinRest s other).map D.int).isEmpty) (P:=D.lst [(uQ s one other).d]=R) (Q:=x80) (fun e=>?_) fun e=>e9 _ (bK X _ other.fg) h ?_)
    ·have e:joinRest s other=[]:=by simpa using e
     show _=D.lst (T.ds (joined s one other))
     unfold joined;rw[e];rfl
    ·show _=D.lst (T.ds (joined s one other))
     unfold joined
     cases e':joinRest s other with
     | nil=>rw[e'] at e;exact tf e
     | cons a l=>rfl
   ·have q:D.lst [(uQ s one other).d]=R:=by
     show _=D.lst (T.ds (joined s one other))
     unfold joined;rw[e];rfl
    exact kc q
  have h4:=Kw (c:=one.bnd.2==-1||((bA s other).2==-1||false)) (X:=T5) (a:=-1) (b:=one.bnd.2+(bA s other).2) h5
  rcases hr with⟨rfl,rfl⟩ |⟨rfl,rfl,e⟩
  ·exact kc h4 (by kernel_rfl)
  ·exact kc h4 (by kernel_rfl)
 let K3:D->Prop:=fun m=>(wp G k 16).x ((j8 gK 2).l5.drop 1) ⟨vs lo hi (v_ m) none none none none,[]⟩ (l8 (wp G k 17) (gK.drop 3) (f6 R))
 let K4:D->Prop:=fun d=>ex G k 17 (gK.drop 3) (vs lo hi none (v_ d) (some (.loc 0)) none none) [.list []] R
 refine kc (g8 (b:=other.op==4) (P:=cal G k 307 [s.t.d,other.d] K3) (Q:=cal G k 293 [other.d] K4) (fun e=>?_) fun e=>?_)
 ·rw[BB] at e
  have hb:bA s other=((taken s other.O2 other.fg:Int),(taken s other.O2 other.fg:Int)):=by unfold bA;rw[e];rfl
  have hr:joinRest s other=other.O2.drop (taken s other.O2 other.fg):=by unfold joinRest;rw[e];rfl
  have q:=behind (v_ (.int (taken s other.O2 other.fg:Nat))) (.val (.lst ((joinRest s other).map .int))) [] (.inl ⟨rfl,rfl⟩)
  rw[hr,sU,<-VE _ _ (by rw[i9];exact Ep _ _ _),hb] at q
  obtain⟨rs,g,rfl⟩:=isStr_of e
  exact e9 K3 (Ar X s rs g) h (kc q)
 ·rw[BB] at e
  have hb:bA s other=other.bnd:=by unfold bA;rw[e];rfl
  have hr:joinRest s other=[]:=by unfold joinRest;rw[e];rfl
  have q:=behind none (.loc 0) [.list []] (.inr ⟨rfl,rfl,hr⟩)
  rw[hb] at q
  exact e9 K4 (Aq X other) h q
end
section
variable {G:Gd} {k n:Nat}
noncomputable def LV (l:List T):List V:=(T.ds l).map V.val
theorem T.HT (a b:List T):T.ds (a++b)=T.ds a++T.ds b:=by rw[T.G5,T.G5,T.G5,o4]
theorem cP (a b:List T):LV (a++b)=LV a++LV b:=by unfold LV;rw[T.HT,o4]
theorem bO (l:List T):(LV l).length=l.length:=by unfold LV;rw[T.G5,i9,i9]
theorem KD {f:V->Option D} (h:∀ d,f (.val d)=some d):∀ ds:List D,M8 f (ds.map .val)=some ds:=by
 intro b7
 induction b7 with
 | nil=>exact rfl
 | cons d ds ih=>
  show(f (.val d)).bind (fun b=>(M8 f (ds.map .val)).map (fun ζ=>b::ζ))=_
  rw[h,ih];rfl
theorem LQ (n:Nat) (mu:List M) (d:D):pk n mu (.val d)=some d:=by induction n using Nat.casesOn<;>rfl
theorem Qf (n:Nat) (mu:List M) (d:D):fz n mu (.val d)=some (d,mu):=by induction n using Nat.casesOn<;>rfl
theorem IG (n:Nat) (mu:List M):∀ ds:List D,G6 (fz n) mu (ds.map .val)=some (ds,mu):=by
 intro b7
 induction b7 with
 | nil=>exact rfl
 | cons d ds ih=>
  show(fz n mu (.val d)).bind (fun x=>(G6 (fz n) x.2 (ds.map .val)).map fun y=>(x.1::y.1,y.2))=_
  rw[Qf]
  show(G6 (fz n) mu (ds.map .val)).map _=_
  rw[ih];rfl
theorem V.Cn (n:Nat) (p:List Nat):∀ ds:List D,V.res n p (ds.map .val)=some (ds.map .val):=by
 intro b7
 induction b7 with
 | nil=>exact rfl
 | cons d ds ih=>
  show((V.val d).re n p).bind (fun v=>(V.res n p (ds.map .val)).map fun vs=>v::vs)=_
  rw[ih];rfl
theorem ne_nil {c m:Nat} {ds:List D} {vs:List (Option V)} {mu:List M} {Q:V->St->Prop} (h1:mu[c]?=some (.list (ds.map .val))) (h2:mu[m]?=some (.list [])) (h:Q (.val (.bool (!ds.isEmpty))) ⟨vs,mu⟩):S8 .NotEq (.loc c) (.loc m) ⟨vs,mu⟩ Q:=by
 have e1:pk 6 mu (.loc c)=some (.lst ds):=by
  show(mu[c]?).bind _=_
  rw[h1]
  show(M8 (pk 5 mu) (ds.map .val)).map D.lst=_
  rw[KD (LQ 5 mu)];rfl
 have e2:pk 6 mu (.loc m)=some (.lst []):=by
  show(mu[m]?).bind _=_
  rw[h2];rfl
 exact j6 e1 (j6 e2 h)
theorem rC {α:Type} (l:List α) (x:α):L6 (l++[x]) (-1)=some x:=by
 show(bif Nat.ble 1 (l++[x]).length then(l++[x])[(l++[x]).length-1]? else none)=_
 rw[o7,show Nat.ble 1 (l.length+[x].length)=true from n6.mpr (bS _ _)]
 show(l++[x])[l.length]?=some x
 exact List.getElem?_concat_length
noncomputable def bB (a b:T):List T:=Option.casesOn a.I4 [] fun s=>joined s a b
noncomputable def V1 (acc:List T×Bool) (t:T):List T×Bool:=Option.casesOn acc.1.getLast? ([t],acc.2) fun l=>bif G4 l t then(acc.1.dropLast++bB l t,true) else(acc.1++[t],acc.2)
theorem Sy (s:Sg) (a b:T):(joined s a b).length<=2:=by
 unfold joined
 cases joinRest s b with
 | nil=>exact J5 _
 | cons _ _=>exact g7 _
theorem JG (l:List T) (x t:T) (jn:Bool):V1 (l++[x],jn) t=bif G4 x t then(l++bB x t,true) else(l++[x]++[t],jn):=by
 have h:∀(o:Option T) (f:T->List T×Bool) (z:List T×Bool),o=some x->Option.casesOn (motive:=fun ζ=>List T×Bool) o z f=f x:=fun o f z e=>by rw[e]
 refine(h _ _ _ oV).trans ?_
 rw[oS]
theorem Lq {a b:T} (h:G4 a b=true):∃ s,a.I4=some s:=by
 cases e:a.I4 with
 | some s=>exact⟨s,rfl⟩
 | none=>
  unfold G4 at h
  rw[e] at h
  refine absurd h ?_
  cases b.isStr<;>cases a.D6<;>cases b.D6<;>exact fun h=>Bool.noConfusion (h:false=true)
noncomputable def T.B4 (t:T):Bool:=T.casesOn t (fun o ζ=>Lf.casesOn o false true false false false false false false false false) (fun ζ ζ=>false) (fun ζ ζ=>false) (fun ζ ζ=>false) (fun ζ ζ=>false) (fun ζ ζ=>false) (fun ζ ζ ζ=>false) (fun ζ ζ ζ ζ=>false) (fun ζ ζ ζ ζ=>false)
theorem dR (t:T):(t.op==2)=t.B4:=by
 induction t using T.casesOn with
 | leaf o f=>induction o using Lf.casesOn<;>rfl
 | loop o s f=>induction o using Lk.casesOn<;>rfl
 | _=>rfl
noncomputable def jN (ts:List T):Option (List T):=bif (ts.foldl V1 ([],false)).2 then some ((ts.foldl V1 ([],false)).1.filter fun t=>!t.B4) else none
noncomputable def BF (o:Option (List T)):D:=Option.casesOn o .none fun l=>.lst (T.ds l)
noncomputable def S.els (s:S):List S:=S.casesOn s (fun ζ ζ=>[]) (fun ζ=>[]) (fun ζ ζ b=>b) (fun ζ ζ=>[]) (fun ζ ζ ζ=>[]) (fun ζ=>[])
theorem Ql {body:D->List D->List M->(List D->List M->Prop)->Prop} {mu:List M} {K:List D->List M->Prop} {α:Type} (f:α->D) (g:α->List D)
  (hb:∀ a acc (K:List D->List M->Prop),K (acc++g a) mu->body (f a) acc mu K):∀(l:List α) (acc:List D),K (acc++(l.map g).flatten) mu->z7 body (l.map f) acc mu K:=by
 intro b7
 induction b7 with
 | nil=>
  intro acc h
  have h:K (acc++[]) mu:=h
  rw[u9] at h
  exact h
 | cons a l ih=>intro acc h;exact hb a acc _ (ih _ (by
   have h:K (acc++(g a++(l.map g).flatten)) mu:=h
   rw[<-D9] at h
   exact h))
theorem qM {α:Type} (l:List α):l=[]∨∃ l' x,l=l'++[x]:=by
 rcases List.eq_nil_or_concat l with h |⟨a,b,h⟩
 ·exact .inl h
 ·exact .inr ⟨a,b,by rw[h,List.concat_eq_append]⟩
theorem bZ {c:Nat} {ds:List D} {mu:List M} (h:mu[c]?=some (.list (ds.map .val))):fz 6 mu (.loc c)=some (.lst ds,mu.set c (.frozen (.lst ds))):=by
 show(mu[c]?).bind _=_
 rw[h]
 show((G6 (fz 5) mu (ds.map .val)).bind fun x=>((x.2[c]?).bind M.list?).map fun ζ=>(D.lst x.1,x.2.set c (.frozen (.lst x.1))))=_
 rw[IG]
 show(((mu[c]?).bind M.list?).map fun ζ=>(D.lst ds,mu.set c (.frozen (.lst ds))))=_
 rw[h];rfl
theorem fV (n:Nat) (p:List Nat) (i q:Nat) (l:List T):M.re n p i q (.list (LV l))=.list (LV l):=by
 show Option.casesOn (motive:=fun ζ=>M) (V.res n p (LV l)) M.dead M.list=_
 unfold LV;rw[V.Cn]
theorem Xm (X:FX G) (ts:List T) (hl:ts.length<d9):At G 6 319 [.lst (T.ds ts)] (BF (jN ts)):=by
 refine fnAt X (b:=pG) (by rfl) (by rfl) fun k h=>?_
 let R:=BF (jN ts)
 let su:=v_ (.lst (T.ds ts))
 let sh (c:Nat) (pre:List M):Prop:=(c=0/\pre=[])∨(c=1/\∃ l0,pre=[.list (LV l0)])
 let st (c:Nat) (pre:List M) (acc:List T×Bool):St:=⟨[su,some (.loc c),v_ (.bool acc.2),none],pre++[.list (LV acc.1)]⟩
 let I:List D->St->Prop:=fun ds σ=>∃ rest acc c pre,ds=T.ds rest/\rest.foldl V1 acc=ts.foldl V1 ([],false)/\acc.1.length+rest.length<=ts.length/\sh c pre/\σ=st c pre acc
 refine kc (gS (G:=G) (k:=k) (i:=18) (t:=(j8 pG 1).tgt) (b:=(j8 pG 1).l5) (rest:=pG.drop 2) (ds:=T.ds ts) (vars:=[su,some (.loc 0),v_ (.bool false),none]) (mu:=[.list []]) (Q:=f6 R) [3] I ⟨ts,([],false),0,[],rfl,rfl,I0 (W4 _),.inl ⟨rfl,rfl⟩,rfl⟩ ?_ ?_)
 ·rintro d rs σ₁ ⟨rest,⟨l,jn⟩,c,pre,e,hf,hn,hs,rfl⟩ _
  induction rest using List.casesOn with
  | nil=>cases e
  | cons t rest=>
  injection e with e1 e2
  subst e1 e2
  have hn:l.length+(rest.length+1)<=ts.length:=hn
  let D5:List (Option V):=[su,some (.loc c),v_ (.bool jn),v_ t.d]
  let J:St->Prop:=Let 1 [3] (I (T.ds rest))
  let Q':Fl->St->Prop:=again (f6 R) J
  let s0:=j8 (j8 pG 1).l5 0
  let r9:List M:=pre++[.list (LV l),.list []]
  have RT (hst:V1 (l,jn) t=(l++[t],jn)):(wp G k 17).x s0.els ⟨D5,r9⟩ (l8 (wp G k 17) [] Q'):=by
   have hb:Nat.blt (LV l).length d9=true:=n6.mpr (by rw[bO];lia)
   have hI:I (T.ds rest) (st c pre (l++[t],jn)):=⟨rest,_,c,pre,rfl,by rw[<-hf];show _=(rest.foldl V1 (V1 (l,jn) t));rw[hst],by show(l++[t]).length+_<=_;rw[o7];show l.length+1+_<=_;lia,hs,rfl⟩
   have q:J ⟨D5,pre++[.list (LV l++[.val t.d]),.list []]⟩:=by
    rw[show LV l++[V.val t.d]=LV (l++[t]) from(cP l [t]).symm]
    rcases hs with⟨rfl,rfl⟩ |⟨rfl,l0,rfl⟩
    ·refine Z8 [] _ rfl ?_ hI
     show(⟨[su,some (.loc 0),v_ (.bool jn),none],[M.re 1 [] 0 0 (.list (LV (l++[t])))]⟩:St)=_
     rw[fV];rfl
    ·refine Z8 [1] _ rfl ?_ hI
     show(⟨[su,some (.loc 1),v_ (.bool jn),none],[M.re 1 [1] 0 0 (.list (LV l0)),M.re 1 [1] 1 1 (.list (LV (l++[t])))]⟩:St)=_
     rw[fV,fV];rfl
   exact kc (s9 (Q:=False) hb q) (by rcases hs with⟨rfl,rfl⟩ |⟨rfl,l0,rfl⟩<;>kernel_rfl)
  let Tb (σ:St):Prop:=(wp G k 17).x s0.l5 σ (l8 (wp G k 17) [] Q')
  let Eb (σ:St):Prop:=(wp G k 17).x s0.els σ (l8 (wp G k 17) [] Q')
  let Gq:E:=.call 300 [.idx (.var 1) (.neg (.const (.int 1))),.var 3]
  refine kc (ne_nil (c:=c) (m:=c+1) (ds:=T.ds l) (vs:=D5) (mu:=r9) (Q:=fun v σ''=>x7 v σ'' fun b σ3=>br b ((wp G k 15).e Gq σ3 fun v σ'=>x7 v σ' fun b σ''=>br b (Tb σ'') (Eb σ'')) (Eb σ3))
   (by rcases hs with⟨rfl,rfl⟩ |⟨rfl,l0,rfl⟩<;>rfl) (by rcases hs with⟨rfl,rfl⟩ |⟨rfl,l0,rfl⟩<;>rfl) ?_) (by rcases hs with⟨rfl,rfl⟩ |⟨rfl,l0,rfl⟩<;>kernel_rfl)
  rcases qM l with rfl |⟨l',x,rfl⟩
  ·exact kc (RT rfl) (by kernel_rfl)
  ·have ne:(!(T.ds (l'++[x])).isEmpty)=true:=by rw[T.HT];cases T.ds l'<;>rfl
   show x7 (.val (.bool (!(T.ds (l'++[x])).isEmpty))) ⟨D5,r9⟩ _
   rw[ne]
   let K3:D->Prop:=fun d=>oe (V.bool? (.val d)) fun b=>br b (Tb ⟨D5,r9⟩) (Eb ⟨D5,r9⟩)
   have hl3:L6 (LV (l'++[x])) (-1)=some (.val x.d):=by rw[cP];exact rC _ _
   refine kc (j6 (o:=L6 (LV (l'++[x])) (-1)) (f:=fun v=>R7 [v,.val t.d] ⟨D5,r9⟩ fun ds σ'=>cal G k 300 ds fun d=>oe (V.bool? (.val d)) fun b=>br b (Tb σ') (Eb σ')) hl3
    (kc (e9 K3 (Xk X x t) h (g8 (fun e=>?_) fun e=>?_)))) (by rcases hs with⟨rfl,rfl⟩ |⟨rfl,l0,rfl⟩<;>kernel_rfl)
   ·-- joined
    obtain⟨s,hsg⟩:=Lq e
    have hst:V1 (l'++[x],jn) t=(l'++joined s x t,true):=by
     rw[JG,e]
     unfold bB;rw[hsg];rfl
    let CL:=B3 (LV (l'++[x])) none (some (-1))
    have aW:CL=LV l':=by show B3 _ _ _=_;rw[cP];exact Ms _ _
    let X0:List M:=pre++[.list (LV (l'++[x])),.list [],.list CL]
    let U:V->St->Prop:=fun v σ'=>C6 (.var 1) v σ' fun σ''=>(wp G k 16).x (s0.l5.drop 1) σ'' (l8 (wp G k 17) [] Q')
    let K4:D->Prop:=fun d=>NP (.loc (c+2)) (.val d) ⟨D5,X0⟩ U
    refine kc (j6 (o:=L6 (LV (l'++[x])) (-1)) (f:=fun v=>R7 [v,.val t.d] ⟨D5,X0⟩ fun ds σ'=>cal G k 314 ds fun d=>NP (.loc (c+2)) (.val d) σ' U) hl3
     (kc (e9 K4 (Xl X s x t hsg) h ?_))) (by rcases hs with⟨rfl,rfl⟩ |⟨rfl,l0,rfl⟩<;>kernel_rfl)
    have hj:=Sy s x t
    have hn':l'.length+1+(rest.length+1)<=ts.length:=by
     have:(l'++[x]).length+(rest.length+1)<=ts.length:=hn
     rw[o7] at this;exact this
    have hb:Nat.ble (CL.length+(LV (joined s x t)).length) d9=true:=n6.mpr (by rw[aW,bO,bO];lia)
    have q:J ⟨[su,some (.loc (c+3)),v_ (.bool true),v_ t.d],pre++[.list (LV (l'++[x])),.list [],.list CL,.list (CL++LV (joined s x t))]⟩:=by
     rw[aW,<-cP]
     have hI (l0:List T):I (T.ds rest) (st 1 [.list (LV l0)] (l'++joined s x t,true)):=⟨rest,_,1,_,rfl,by rw[<-hf];show _=(rest.foldl V1 (V1 (l'++[x],jn) t));rw[hst],
      by show(l'++joined s x t).length+_<=_;rw[o7];lia,.inr ⟨rfl,_,rfl⟩,rfl⟩
     rcases hs with⟨rfl,rfl⟩ |⟨rfl,l0,rfl⟩
     ·refine Z8 [3] _ rfl ?_ (hI (l'++[x]))
      show(⟨[su,some (.loc 1),v_ (.bool true),none],[M.re 1 [3] 0 0 (.list (LV (l'++[x]))),M.re 1 [3] 3 1 (.list (LV (l'++joined s x t)))]⟩:St)=_
      rw[fV,fV];rfl
     ·refine Z8 [4] _ rfl ?_ (hI l0)
      show(⟨[su,some (.loc 1),v_ (.bool true),none],[M.re 1 [4] 0 0 (.list (LV l0)),M.re 1 [4] 4 1 (.list (LV (l'++joined s x t)))]⟩:St)=_
      rw[fV,fV];rfl
    exact kc (s9 (Q:=False) hb q) (by rcases hs with⟨rfl,rfl⟩ |⟨rfl,l0,rfl⟩<;>kernel_rfl)
   ·exact RT (by rw[JG,e];rfl)
 ·rintro σ₁ ⟨rest,acc,c,pre,e,hf,hn,hs,rfl⟩ _
  induction rest using List.casesOn with
  | cons _ _=>cases e
  | nil=>
  have hf:acc=ts.foldl V1 ([],false):=hf
  have hR:R=BF (bif acc.2 then some (acc.1.filter fun t=>!t.B4) else none):=by rw[hf];rfl
  let I2:List M:=pre++[.list (LV acc.1)]
  let d8:List M:=pre++[.frozen (.lst (T.ds acc.1))]
  let body (n0:Nat):=J3 (wp G k 15) [none,none,none,none] n0 (.var 3) (.var 3) [.cmp (.attr (.var 3) 0) [.NotEq] [.const (.int 2)]]
  let P:Prop:=oe (fz 6 I2 (.loc c)) fun x=>oe x.1.seq? fun ds=>z7 (body x.2.length) ds [] x.2 fun acc' ζ=>D.lst acc'=R
  refine kc (g8 (b:=acc.2) (P:=P) (Q:=D.none=R) (fun hj=>?_) fun hj=>by rw[hR,hj];rfl) (by rcases hs with⟨rfl,rfl⟩ |⟨rfl,l0,rfl⟩<;>kernel_rfl)
  have h1:fz 6 I2 (.loc c)=some (.lst (T.ds acc.1),d8):=by
   rw[bZ (ds:=T.ds acc.1) (by rcases hs with⟨rfl,rfl⟩ |⟨rfl,l0,rfl⟩<;>rfl)]
   rcases hs with⟨rfl,rfl⟩ |⟨rfl,l0,rfl⟩<;>rfl
  refine j6 h1 (show z7 (body d8.length) (T.ds acc.1) [] d8 fun acc' ζ=>D.lst acc'=R from ?_)
  have mV:cut d8.length d8=d8:=by
   rcases hs with⟨rfl,rfl⟩ |⟨rfl,l0,rfl⟩
   ·rfl
   ·show [M.re 2 [] 0 0 (.list (LV l0)),_]=_
    rw[fV];rfl
  rw[T.G5]
  refine Ql T.d (fun t=>bif t.B4 then [] else [t.d]) (fun t a K' hk=>?_) acc.1 [] ?_
  ·have q:br (!(t.op==2)) (K' (a++[t.d]) (cut d8.length d8)) (K' a (cut d8.length d8)):=by
    rw[mV,dR]
    cases e:t.B4 with
    | true=>rw[e] at hk;show K' a d8;rw[show a=a++[] from(u9 a).symm];exact hk
    | false=>rw[e] at hk;exact hk
   exact kc q (by rcases hs with⟨rfl,rfl⟩ |⟨rfl,l0,rfl⟩<;>kernel_rfl)
  ·rw[hR,hj]
   show D.lst ([]++_)=D.lst (T.ds _)
   rw[W2]
   congr 1
   generalize acc.1=l
   induction l with
   | nil=>rfl
   | cons t l ih=>
    rw[N5,ET,ih,ES]
    cases t.B4<;>rfl
end
section
variable {G:Gd} {k n:Nat}
theorem Kh:∀ a b c:Bool,(A9 (Fg.i ⟨a,b,c⟩) 32==0)=!b:=by decide +kernel
theorem f32 (f:Fg):(A9 f.i 32==0)=!f.E4:=Kh _ _ _
noncomputable def T.isFull (t:T):Bool:=t.ranges==[(0,bif t.fg.E4 then 255 else 1114111)]
theorem Au (X:FX G) (t:T):At G 1 361 [t.d] (.bool t.isFull):=by
 refine fnAt X (b:=SV) (by rfl) (by rfl) fun k h=>?_
 let Z (x:Int):Prop:=oe (B8 (A7 t.ranges) (A7 [(0,x)])) fun r=>D.bool r=.bool t.isFull
 have z (x:Int) (h:x=bif t.fg.E4 then 255 else 1114111):Z x:=j6 (LO _ _) (by rw[h];rfl)
 refine kc (g8 (b:=!(A9 t.fg.i 32==0)) (P:=Z 255) (Q:=Z 1114111) (fun e=>z _ ?_) fun e=>z _ ?_)
 ·rw[f32,oQ] at e;rw[e];rfl
 ·rw[f32,oQ] at e;rw[e];rfl
noncomputable def M0 (g:List (Int×Int)) (f:Fg):T:=bif g.isEmpty then .leaf .iG f else bif (T.cls g f).isFull then .leaf .mD f else .cls g f
theorem Xo (X:FX G) (g:List (Int×Int)) (f:Fg):At G 4 389 [(T.cls g f).d] (M0 g f).d:=by
 refine fnAt X (b:=SX) (by rfl) (by rfl) fun k h=>?_
 let R:=(M0 g f).d
 let K:D->Prop:=fun d=>oe (V.bool? (.val d)) fun b=>br b (cal G k 66 [.int 12,.int f.i] fun x=>x=R) ((T.cls g f).d=R)
 refine kc (g8 (b:=(g.map z8).isEmpty) (P:=cal G k 66 [.int 1,.int f.i] fun x=>x=R) (Q:=cal G k 361 [(T.cls g f).d] K) (fun e=>e9 _ (cH X .iG f) h ?_) fun e=>e9 K (Au X _) h (g8 (fun e'=>e9 _ (cH X .mD f) h ?_) fun e'=>?_))
 ·have e:g.isEmpty=true:=by induction g using List.casesOn<;>first | rfl | exact ft e
  show _=(M0 g f).d
  unfold M0;rw[e];rfl
 ·have e:g.isEmpty=false:=by induction g using List.casesOn<;>first | rfl | exact tf e
  show _=(M0 g f).d
  unfold M0;rw[e,e'];rfl
 ·have e:g.isEmpty=false:=by induction g using List.casesOn<;>first | rfl | exact tf e
  show _=(M0 g f).d
  unfold M0;rw[e,e'];rfl
noncomputable def O3 (o:Lk) (t:T) (f:Fg):T:=bif t.B4 then t else u7 o t f
theorem Xp (X:FX G) (o:Lk) (s t:T) (f:Fg):At G 6 396 [(T.loop o s f).d,t.d] (O3 o t f).d:=by
 refine fnAt X (b:=SY) (by rfl) (by rfl) fun k h=>?_
 let R:=(O3 o t f).d
 have e1 (e:(t.op==2)=true):t.d=R:=by rw[dR] at e;show _=(O3 o t f).d;unfold O3;rw[e];rfl
 have e2 (e:(t.op==2)=false):(u7 o t f).d=R:=by rw[dR] at e;show _=(O3 o t f).d;unfold O3;rw[e];rfl
 induction o using Lk.casesOn
 ·exact kc (g8 (b:=t.op==2) e1 fun e=>e9 (fun x=>x=R) (LG X t f) h (e2 e)) (by kernel_rfl)
 ·exact kc (g8 (b:=t.op==2) e1 fun e=>e9 (fun x=>x=R) (BG X t f) h (e2 e)) (by kernel_rfl)
 ·exact kc (g8 (b:=t.op==2) e1 fun e=>e9 (fun x=>x=R) (BH X t f) h (e2 e)) (by kernel_rfl)
theorem Zx {α:Type} (m:Nat) (x:α):(List.replicate m [x]).flatten=List.replicate m x:=by
 induction m with
 | zero=>rfl
 | succ m ih=>rw[EZ,ET,ih];rfl
theorem OD (m:Nat) (t:T):(List.replicate m [V.val t.d]).flatten=LV (List.replicate m t):=by
 rw[Zx];unfold LV;rw[T.G5,oW,oW]
theorem Ex {c:Nat} {l:List T} {d:D} {vs:List (Option V)} {mu:List M} {K:List D->St->Prop} (h:mu[c]?=some (.list (LV l))) (p:K [.lst (T.ds l),d] ⟨vs,mu.set c (.frozen (.lst (T.ds l)))⟩):R7 [.loc c,.val d] ⟨vs,mu⟩ K:=by
 refine j6 (x:=([.lst (T.ds l),d],mu.set c (.frozen (.lst (T.ds l))))) ?_ p
 show(fz 6 mu (.loc c)).bind (fun x=>(G6 (fz 6) x.2 [.val d]).map fun y=>(x.1::y.1,y.2))=_
 rw[bZ h];rfl
noncomputable def dY (t:T) (low:Nat) (f:Fg):T:=Nat.casesOn low (u7 .star t f) fun m=>Nat.casesOn m (u7 .plus t f) fun m=>C5 (List.replicate (m+1) t++[u7 .plus t f]) f
theorem Xq (X:FX G) (t:T) (low:Nat) (f:Fg) (hl:low<=1000):At G 6 403 [t.d,.int low,.int f.i] (dY t low f).d:=by
 refine fnAt X (b:=TA) (by rfl) (by rfl) fun k h=>?_
 match low,hl with
 | 0,_=>exact kc (tQ (LG X t f) h)
 | 1,_=>exact kc (tQ (BG X t f) h)
 | m+2,hl=>
  let R:=(dY t (m+2) f).d
  let last:=u7 .plus t f
  let n:Int:=((m+2:Nat):Int)-1
  let L:=(List.replicate n.toNat [V.val t.d]).flatten
  let vs (x:D):List (Option V):=[v_ t.d,v_ (.int ((m+2:Nat):Int)),v_ (.int f.i),v_ x]
  let K:D->Prop:=fun x=>((-1000<=n/\n<=1000)/\1<=1000)/\j7 (Nat.ble (L.length+1) d9) (R7 [.loc 3,.val (.int f.i)] ⟨vs x,[.list [.val t.d],.list L,.list [.val x],.list (L++[.val x])]⟩ fun ds σ'=>cal G k 101 ds fun d=>d=R)
  have hn:n.toNat=m+1:=by lia
  have hL:L=LV (List.replicate (m+1) t):=by show(List.replicate n.toNat [V.val t.d]).flatten=_;rw[hn,OD]
  refine kc (e9 K (BG X t f) h ⟨⟨⟨by lia,by lia⟩,by decide⟩,s9 (n6.mpr (by rw[hL,bO,EV];have:d9=1000000:=rfl;lia)) ?_⟩)
  rw[hL,show LV (List.replicate (m+1) t)++[.val (u7 .plus t f).d]=LV (List.replicate (m+1) t++[last]) from(cP _ [last]).symm]
  exact Ex rfl (e9 _ (vP X _ f) h rfl)
noncomputable def z9 (t:T) (f:Fg):Nat->T
 | 0=>u7 .quest t f
 | m+1=>u7 .quest (.cat [t,z9 t f m] f) f
theorem Xr (X:FX G) (t:T) (m:Nat) (f:Fg) (hm:m<=1000):At G 6 410 [t.d,.int ((m+1:Nat):Int),.int f.i] (z9 t f m).d:=by
 refine fnAt X (b:=tH) (by rfl) (by rfl) fun k h=>?_
 let R:=(z9 t f m).d
 let st (j:Nat):St:=⟨[v_ t.d,v_ (.int ((m+1:Nat):Int)),v_ (.int f.i),v_ (z9 t f j).d,none],[]⟩
 let I:List D->St->Prop:=fun ds σ=>∃ j,ds.length+j=m/\σ=st j
 let n:Int:=((m+1:Nat):Int)-1
 let K:D->Prop:=fun d=>(-1000000<=n/\n<=1000000)/\fo (wp G k 18) (j8 tH 1).tgt (j8 tH 1).l5 (tH.drop 2) (f6 R) ((List.range n.toNat).map fun i=>.int (i:Nat)) ⟨[v_ t.d,v_ (.int ((m+1:Nat):Int)),v_ (.int f.i),v_ d,none],[]⟩
 have hn:n.toNat=m:=by lia
 refine kc (e9 K (BH X t f) h ⟨⟨by lia,by lia⟩,gS (G:=G) (k:=k) (i:=18) [4] I ⟨0,by rw[i9,xW,hn];rfl,rfl⟩ ?_ ?_⟩)
 ·rintro d rs σ₁ ⟨j,hj,rfl⟩ _
  let J:St->Prop:=Let 0 [4] (I rs)
  let K2:D->Prop:=fun y=>J ⟨[v_ t.d,v_ (.int ((m+1:Nat):Int)),v_ (.int f.i),v_ y,v_ d],[.frozen (.lst [t.d,(z9 t f j).d])]⟩
  refine kc (e9 (fun x=>cal G k 143 [x,.int f.i] K2) (vP X [t,z9 t f j] f) h (e9 K2 (BH X (.cat [t,z9 t f j] f) f) h ?_))
  exact Z8 [] (st (j+1)) rfl (by kernel_rfl) ⟨j+1,by have:rs.length+1+j=m:=hj;lia,rfl⟩
 ·rintro σ₁ ⟨j,hj,rfl⟩ _
  have hj:0+j=m:=hj
  have:j=m:=by lia
  subst this
  exact kr R
end
section
variable {G:Gd} {k n:Nat}
noncomputable def T.G1 (t:T):Bool:=T.casesOn t (fun ζ ζ=>false) (fun ζ ζ=>false) (fun ζ ζ=>false) (fun ζ ζ=>false) (fun ζ ζ=>false) (fun ζ ζ=>false) (fun ζ ζ ζ=>true) (fun ζ ζ ζ ζ=>false) (fun ζ ζ ζ ζ=>false)
theorem fT (t:T):(7==t.op||(8==t.op||(9==t.op||false)))=t.G1:=by
 induction t using T.casesOn with
 | leaf o f=>induction o using Lf.casesOn<;>rfl
 | loop o s f=>induction o using Lk.casesOn<;>rfl
 | _=>rfl
noncomputable def T.plain1 (t:T):Bool:=T.casesOn t (fun ζ ζ=>true) (fun ζ ζ=>true) (fun ζ ζ=>true) (fun g f=>bif g.isEmpty then false else !(T.cls g f).isFull) (fun ζ ζ=>true) (fun ζ ζ=>true) (fun ζ s f=>bif s.B4 then false else bif s.G1 then !(s.fg.lazy==f.lazy) else true) (fun ζ ζ ζ ζ=>false) (fun ζ ζ ζ ζ=>true)
theorem YU {t:T} {K:D->Prop} (X:FX G) (h:2<=k) (p:K (.bool t.fg.lazy)):∃ j,j<k/\cal G j 43 [t.d] K:=⟨k-1,by lia,_,Xu X t _ (by lia),p⟩
theorem Xn (X:FX G) (t:T):At G 3 368 [t.d] (.bool t.plain1):=by
 refine fnAt X (b:=SW) (by rfl) (by rfl) fun k h=>?_
 induction t using T.casesOn with
 | leaf o f=>induction o using Lf.casesOn<;>exact kr (D.bool true) (by kernel_rfl)
 | lit r f=>exact kr (D.bool true)
 | str r f=>exact kr (D.bool true)
 | cat r f=>exact kr (D.bool true)
 | alt r f=>exact kr (D.bool true)
 | cap a b r f=>exact kr (D.bool true)
 | rep a b r f=>exact kr (D.bool false)
 | cls g f=>
  let R:=D.bool (T.cls g f).plain1
  let K:D->Prop:=fun d=>oe (V.bool? (.val d)) fun b=>D.bool (!b)=R
  have hg:(g.map z8).isEmpty=g.isEmpty:=by induction g using List.casesOn<;>rfl
  refine kc (g8 (b:=!(g.map z8).isEmpty) (P:=cal G k 361 [(T.cls g f).d] K) (Q:=D.bool (!(g.map z8).isEmpty)=R) (fun e=>e9 K (Au X _) h ?_) fun e=>?_)
  ·rw[hg] at e
   show D.bool _=D.bool (bif g.isEmpty then false else !(T.cls g f).isFull)
   rw[V2 e];rfl
  ·rw[hg] at e
   show D.bool _=D.bool (bif g.isEmpty then false else !(T.cls g f).isFull)
   rw[hg,aA e];rfl
 | loop o s f=>
  let R:=D.bool (bif s.B4 then false else bif s.G1 then !(s.fg.lazy==f.lazy) else true)
  let lp:=7==s.op||(8==s.op||(9==s.op||false))
  let vs:List (Option V):=[v_ (T.loop o s f).d,v_ s.d]
  let K2 (r:D):D->Prop:=fun r'=>S8 .NotEq (.val r) (.val r') ⟨vs,[]⟩ fun v σ'=>f6 R (.ret v) σ'
  let K1:D->Prop:=fun r=>∃ j,j<k/\cal G j 43 [(T.loop o s f).d] (K2 r)
  have q:br (!(s.op==2)) (br (!lp) (D.bool (!lp)=R) (∃ j,j<k/\cal G j 43 [s.d] K1)) (D.bool (!(s.op==2))=R):=by
   refine g8 (fun e=>g8 (fun e'=>?_) fun e'=>YU X h (YU X h ?_)) fun e=>?_
   ·show D.bool (!(7==s.op||(8==s.op||(9==s.op||false))))=_
    rw[dR] at e
    have e':s.G1=false:=by rw[<-fT];exact V2 e'
    rw[fT,e',show R=D.bool (bif s.B4 then false else bif s.G1 then !(s.fg.lazy==f.lazy) else true) from rfl,V2 e,e'];rfl
   ·rw[dR] at e
    have e':s.G1=true:=by rw[<-fT];exact aA e'
    show D.bool (!(s.fg.lazy==f.lazy))=D.bool (bif s.B4 then false else bif s.G1 then !(s.fg.lazy==f.lazy) else true)
    rw[V2 e,e'];rfl
   ·rw[dR] at e ⊢
    show D.bool _=D.bool (bif s.B4 then false else bif s.G1 then !(s.fg.lazy==f.lazy) else true)
    rw[aA e];rfl
  induction o using Lk.casesOn<;>exact kc q (by kernel_rfl)
mutual
noncomputable def T.size:T->Nat
 | .leaf _ _=>1
 | .lit _ _=>1
 | .str _ _=>1
 | .cls _ _=>1
 | .cat l _=>T.sizes l+1
 | .alt l _=>T.sizes l+1
 | .loop _ s _=>s.size+1
 | .rep _ _ s _=>s.size+1
 | .cap _ _ s _=>s.size+1
noncomputable def T.sizes:List T->Nat
 | []=>0
 | t::l=>t.size+T.sizes l
end
theorem T.dW (t:T):t.size=T.sizes t.subs+1:=by induction t using T.casesOn<;>rfl
theorem T.cL:∀ a b:List T,T.sizes (a++b)=T.sizes a+T.sizes b:=by
 intro b7
 induction b7 with
 | nil=>intro b;exact(W4 _).symm
 | cons t a ih=>intro b;show t.size+T.sizes (a++b)=t.size+T.sizes a+T.sizes b;rw[ih b,gI]
theorem T.wB:∀ a:List T,a.length<=T.sizes a:=by
 intro b7
 induction b7 with
 | nil=>exact g7 _
 | cons t a ih=>
  have:=ih
  have h:1<=t.size:=by rw[T.dW];exact bS _ _
  show a.length+1<=t.size+T.sizes a
  lia
mutual
noncomputable def T.simple:T->Bool
 | .leaf _ _=>true
 | .lit _ _=>true
 | .str _ _=>true
 | .cls g f=>(T.cls g f).plain1
 | .cat l _=>T.O4 l
 | .alt l _=>T.O4 l
 | .loop o s f=>(T.loop o s f).plain1&&s.simple
 | .rep _ _ _ _=>false
 | .cap _ _ s _=>s.simple
noncomputable def T.O4:List T->Bool
 | []=>true
 | t::l=>t.simple&&T.O4 l
end
theorem T.aD7 (t:T):t.simple=(t.plain1&&T.O4 t.subs):=by
 induction t using T.casesOn with
 | cls g f=>exact(F7 _).symm
 | loop o s f=>show _=(_&&(s.simple&&true));rw[F7];rfl
 | cap a b s f=>show _=(true&&(s.simple&&true));rw[F7,xN];rfl
 | _=>rfl
theorem T.Dh:∀ a b:List T,T.O4 (a++b)=(T.O4 a&&T.O4 b):=by
 intro b7
 induction b7 with
 | nil=>intro b;exact rfl
 | cons t a ih=>intro b;show(t.simple&&T.O4 (a++b))=(t.simple&&T.O4 a&&T.O4 b);rw[ih b,PD]
theorem OC (l:List T) (x:T):(LV (l++[x])).getLast?=some (.val x.d):=by rw[cP];exact oV
theorem OB (l:List T) (x:T):(LV (l++[x])).dropLast=LV l:=by rw[cP];exact oS
theorem wY (t:T):t.sD.map V.val=LV t.subs:=by unfold LV;rw[T.kQ,T.G5]
theorem Ab (l:List T) (x:T):(!(T.ds (l++[x])).isEmpty)=true:=by rw[T.HT];cases T.ds l<;>rfl
theorem LK (X:FX G) (t:T) (ht:t.size<=d9):At G 4 375 [t.d] (.bool t.simple):=by
 refine fnAt X (b:=pH) (by rfl) (by rfl) fun k h=>?_
 let R:=D.bool t.simple
 let st (W:List T):St:=⟨[v_ t.d,some (.loc 0),none],[.list (LV W)]⟩
 let I:Nat->St->Prop:=fun m σ=>∃ W,m=T.sizes W/\T.sizes W<=d9/\T.O4 W=t.simple/\σ=st W
 let l5:=(j8 pH 1).l5
 refine kc (rW (G:=G) (k:=k) (i:=18) (b:=pH) (j:=1) (rest:=pH.drop 2) (vars:=[v_ t.d,some (.loc 0),none]) (mu:=[.list [.val t.d]]) (Q:=f6 R) [2] I (T.sizes [t]) ⟨[t],rfl,ht,F7 _,rfl⟩ ?_)
 rintro m σ₁ ⟨W,rfl,hW,hs,rfl⟩ _
 let J:St->Prop:=Let 1 [2] fun σ''=>∃ m',m'<T.sizes W/\I m' σ''
 refine kc (ne_nil (c:=0) (m:=1) (ds:=T.ds W) (vs:=[v_ t.d,some (.loc 0),none]) (mu:=[.list (LV W),.list []]) (Q:=fun v σ''=>x7 v σ'' fun b σ'=>br b ((wp G k 18).x l5 σ' (again (f6 R) J)) ((wp G k 18).x (pH.drop 2) σ' (f6 R))) rfl rfl ?_)
 rcases qM W with rfl |⟨W',x,rfl⟩
 ·exact kc (show D.bool true=D.bool t.simple by rw[<-hs];rfl) (by kernel_rfl)
 ·show x7 (.val (.bool (!(T.ds (W'++[x])).isEmpty))) _ _
  rw[Ab]
  rw[T.Dh] at hs
  have hs:(T.O4 W'&&(x.simple&&true))=t.simple:=hs
  rw[F7,T.aD7] at hs
  have hz:T.sizes (W'++[x])=T.sizes W'+T.sizes x.subs+1:=by rw[T.cL];show _+(x.size+0)=_;rw[T.dW];rfl
  have hb:(Nat.ble ((LV W').length+(x.sD.map V.val).length) d9&&true)=true:=by
   rw[F7,wY,bO,bO]
   have:=T.wB W';have:=T.wB x.subs
   exact n6.mpr (by lia)
  let P3:Prop:=j7 (Nat.ble ((LV W').length+(x.sD.map V.val).length) d9&&true) (J ⟨[v_ t.d,some (.loc 0),v_ x.d],[.list (LV W'++x.sD.map V.val),.list []]⟩)
  let K:D->Prop:=fun d=>oe (V.bool? (.val d)) fun b=>br (!b) (D.bool false=R) P3
  refine kc (j6 (f:=fun v=>(wp G k 17).x (l5.drop 1) ⟨[v_ t.d,some (.loc 0),some v],[.list (LV (W'++[x])).dropLast,.list []]⟩ (again (f6 R) J)) (OC W' x) ?_)
  rw[OB]
  refine kc (e9 K (Xn X x) h (g8 (fun e=>?_) fun e=>s9 (Q:=False) hb ?_))
  ·show D.bool false=D.bool t.simple
   rw[<-hs,V2 e,xM,Y8]
  ·rw[wY,<-cP]
   refine Z8 [] (st (W'++x.subs)) rfl ?_ ⟨T.sizes (W'++x.subs),by rw[hz,T.cL];lia,W'++x.subs,rfl,by rw[T.cL];lia,?_,rfl⟩
   ·show(⟨[v_ t.d,some (.loc 0),none],[M.re 1 [] 0 0 (.list (LV (W'++x.subs)))]⟩:St)=_
    rw[fV]
   ·rw[T.Dh,<-hs,aA e,xN]
mutual
noncomputable def T.place:T->Bool
 | .leaf o _=>Lf.casesOn o false false false false true true true true true true
 | .lit _ _=>false
 | .str _ _=>false
 | .cls _ _=>false
 | .cat l _=>T.places l
 | .alt l _=>T.places l
 | .loop _ _ _=>false
 | .rep _ _ _ _=>false
 | .cap _ _ _ _=>false
noncomputable def T.places:List T->Bool
 | []=>true
 | t::l=>t.place&&T.places l
end
theorem T.Bq:∀ a b:List T,T.places (a++b)=(T.places a&&T.places b):=by
 intro b7
 induction b7 with
 | nil=>intro b;exact rfl
 | cons t a ih=>intro b;show(t.place&&T.places (a++b))=(t.place&&T.places a&&T.places b);rw[ih b,PD]
noncomputable def T.uK (t:T):Bool:=T.casesOn t (fun ζ ζ=>false) (fun ζ ζ=>false) (fun ζ ζ=>false) (fun ζ ζ=>false) (fun ζ ζ=>true) (fun ζ ζ=>true) (fun ζ ζ ζ=>false) (fun ζ ζ ζ ζ=>false) (fun ζ ζ ζ ζ=>false)
theorem KY (t:T):(t.op==5||t.op==6)=t.uK:=by
 induction t using T.casesOn with
 | leaf o f=>induction o using Lf.casesOn<;>rfl
 | loop o s f=>induction o using Lk.casesOn<;>rfl
 | _=>rfl
theorem aA6 {t:T} (h:t.uK=true):t.place=T.places t.subs:=by induction t using T.casesOn<;>first | rfl | exact ft h
theorem Ah {t:T} (h:t.uK=false):(14==t.op||(15==t.op||(16==t.op||(17==t.op||(18==t.op||(19==t.op||false))))))=t.place:=by
 induction t using T.casesOn with
 | leaf o f=>induction o using Lf.casesOn<;>rfl
 | loop o s f=>induction o using Lk.casesOn<;>rfl
 | cat _ _=>exact tf h
 | alt _ _=>exact tf h
 | _=>rfl
theorem Av (X:FX G) (t:T) (ht:t.size<=d9):At G 1 382 [t.d] (.bool t.place):=by
 refine fnAt X (b:=pI) (by rfl) (by rfl) fun k h=>?_
 let R:=D.bool t.place
 let st (W:List T):St:=⟨[v_ t.d,some (.loc 0),none],[.list (LV W)]⟩
 let I:Nat->St->Prop:=fun m σ=>∃ W,m=T.sizes W/\T.sizes W<=d9/\T.places W=t.place/\σ=st W
 let l5:=(j8 pI 1).l5
 refine kc (rW (G:=G) (k:=k) (i:=18) (b:=pI) (j:=1) (rest:=pI.drop 2) (vars:=[v_ t.d,some (.loc 0),none]) (mu:=[.list [.val t.d]]) (Q:=f6 R) [2] I (T.sizes [t]) ⟨[t],rfl,ht,F7 _,rfl⟩ ?_)
 rintro m σ₁ ⟨W,rfl,hW,hs,rfl⟩ _
 let J:St->Prop:=Let 1 [2] fun σ''=>∃ m',m'<T.sizes W/\I m' σ''
 refine kc (ne_nil (c:=0) (m:=1) (ds:=T.ds W) (vs:=[v_ t.d,some (.loc 0),none]) (mu:=[.list (LV W),.list []]) (Q:=fun v σ''=>x7 v σ'' fun b σ'=>br b ((wp G k 18).x l5 σ' (again (f6 R) J)) ((wp G k 18).x (pI.drop 2) σ' (f6 R))) rfl rfl ?_)
 rcases qM W with rfl |⟨W',x,rfl⟩
 ·exact kc (show D.bool true=D.bool t.place by rw[<-hs];rfl) (by kernel_rfl)
 ·show x7 (.val (.bool (!(T.ds (W'++[x])).isEmpty))) _ _
  rw[Ab]
  rw[T.Bq] at hs
  have hs:(T.places W'&&(x.place&&true))=t.place:=hs
  rw[F7] at hs
  have hz:T.sizes (W'++[x])=T.sizes W'+T.sizes x.subs+1:=by rw[T.cL];show _+(x.size+0)=_;rw[T.dW];rfl
  have hb:(Nat.ble ((LV W').length+(x.sD.map V.val).length) d9&&true)=true:=by
   rw[F7,wY,bO,bO]
   have:=T.wB W';have:=T.wB x.subs
   exact n6.mpr (by lia)
  let J1:Prop:=J ⟨[v_ t.d,some (.loc 0),v_ x.d],[.list (LV W'++x.sD.map V.val),.list []]⟩
  let J2:Prop:=J ⟨[v_ t.d,some (.loc 0),v_ x.d],[.list (LV W'),.list []]⟩
  let P3:Prop:=j7 (Nat.ble ((LV W').length+(x.sD.map V.val).length) d9&&true) J1
  have out (lN:List T) (hlt:T.sizes lN<T.sizes (W'++[x])) (hp:T.places lN=t.place):J ⟨[v_ t.d,some (.loc 0),v_ x.d],[.list (LV lN),.list []]⟩:=by
   refine Z8 [] (st lN) rfl ?_ ⟨T.sizes lN,hlt,lN,rfl,by lia,hp,rfl⟩
   show(⟨[v_ t.d,some (.loc 0),none],[M.re 1 [] 0 0 (.list (LV lN))]⟩:St)=_
   rw[fV]
  let pl:=14==x.op||(15==x.op||(16==x.op||(17==x.op||(18==x.op||(19==x.op||false)))))
  have q:br (x.op==5) P3 (br (x.op==6) P3 (br (!pl) (D.bool false=R) J2)):=by
   have h3 (hr:x.uK=true):P3:=s9 (Q:=False) hb (by
    show J _
    rw[wY,<-cP]
    exact out _ (by rw[hz,T.cL];lia) (by rw[T.Bq,<-hs,aA6 hr]))
   refine g8 (fun e=>h3 (by rw[<-KY,e];rfl)) fun e=>g8 (fun e'=>h3 (by rw[<-KY,e,e'];rfl)) fun e'=>?_
   have hr:x.uK=false:=by rw[<-KY,e,e'];rfl
   refine g8 (fun e2=>?_) fun e2=>out W' (by rw[hz];lia) ?_
   ·have e2:(!(14==x.op||(15==x.op||(16==x.op||(17==x.op||(18==x.op||(19==x.op||false)))))))=true:=e2
    rw[Ah hr] at e2
    show D.bool false=D.bool t.place
    rw[<-hs,V2 e2,Y8]
   ·have e2:(!(14==x.op||(15==x.op||(16==x.op||(17==x.op||(18==x.op||(19==x.op||false)))))))=false:=e2
    rw[Ah hr] at e2
    rw[<-hs,aA e2,F7]
  refine kc (j6 (f:=fun v=>(wp G k 17).x (l5.drop 1) ⟨[v_ t.d,some (.loc 0),some v],[.list (LV (W'++[x])).dropLast,.list []]⟩ (again (f6 R) J)) (OC W' x) ?_)
  rw[OB]
  exact kc q
noncomputable def O7 (t:T) (lo hi:Nat) (f:Fg):List T:=List.replicate lo t++bif Nat.blt lo hi then [z9 t f (hi-lo-1)] else []
noncomputable def D8 (t:T) (lo:Nat) (hi:Option Nat):Nat×Option Nat:=bif t.place then(min lo 1,some (Option.casesOn hi 1 fun h=>min h 1)) else(lo,hi)
noncomputable def I6 (t:T) (lo:Nat) (hi:Option Nat) (f:Fg):T:=bif t.B4 then t else Option.casesOn (D8 t lo hi).2 (dY t (D8 t lo hi).1 f) fun h=>C5 (O7 t (D8 t lo hi).1 h f) f
noncomputable def q9 (hi:Option Nat):Int:=Option.casesOn hi (-1) fun h=>(h:Int)
theorem Xs (X:FX G) (t:T) (lo:Nat) (hi:Option Nat) (f:Fg) (ht:t.size<=d9) (h1:lo<=1000) (h2:∀ h,hi=some h->lo<=h/\h<=1000):At G 7 417 [t.d,.int lo,.int (q9 hi),.int f.i] (I6 t lo hi f).d:=by
 refine fnAt X (b:=GQ) (by rfl) (by rfl) fun k h=>?_
 let R:=(I6 t lo hi f).d
 let X3 (a b:Int):Prop:=ex G k 17 (GQ.drop 3) [v_ t.d,v_ (.int a),v_ (.int b),v_ (.int f.i),none] [] R
 have x3 (a:Nat) (b:Option Nat) (ha:a<=1000) (hb:∀ h,b=some h->h<=1000) (hR:(I6 t lo hi f)=Option.casesOn b (dY t a f) fun h=>C5 (O7 t a h f) f):X3 a (q9 b):=by
  induction b using Option.casesOn with
  | none=>exact kc (e9 (fun x=>x=R) (Xq X t a f ha) h (congrArg T.d hR.symm))
  | some b=>
   have hb:=hb b rfl
   let L:=(List.replicate (a:Int).toNat [V.val t.d]).flatten
   have hL:L=LV (List.replicate a t):=OD a t
   let vs:List (Option V):=[v_ t.d,v_ (.int a),v_ (.int b),v_ (.int f.i),some (.loc 1)]
   let Y (L':List V):Prop:=R7 [.loc 1,.val (.int f.i)] ⟨vs,[.list [.val t.d],.list L']⟩ fun ds σ'=>cal G k 101 ds fun d=>d=R
   have y (l:List T) (hl:(I6 t lo hi f)=C5 l f):Y (LV l):=Ex rfl (e9 _ (vP X l f) h (congrArg T.d hl.symm))
   let K:D->Prop:=fun d=>j7 (Nat.blt L.length d9) (Y (L++[.val d]))
   have hR:(I6 t lo hi f)=C5 (List.replicate a t++bif Nat.blt a b then [z9 t f (b-a-1)] else []) f:=hR
   have q:((-1000<=(a:Int)/\(a:Int)<=1000)/\1<=1000)/\br (decide ((b:Int)>(a:Int))) (cal G k 410 [t.d,.int ((b:Int)-(a:Int)),.int f.i] K) (Y L):=by
    refine⟨⟨⟨by lia,by lia⟩,by decide⟩,g8 (fun e=>?_) fun e=>?_⟩
    ·have e:(a:Int)<b:=by simpa using e
     rw[show(b:Int)-(a:Int)=((b-a-1+1:Nat):Int) by lia]
     refine e9 K (Xr X t (b-a-1) f (by lia)) h (s9 (Q:=False) (n6.mpr (by rw[hL,bO,EV];have:d9=1000000:=rfl;lia)) ?_)
     rw[hL,show LV (List.replicate a t)++[.val (z9 t f (b-a-1)).d]=LV (List.replicate a t++[z9 t f (b-a-1)]) from(cP _ [_]).symm]
     exact y _ (by rw[hR,show Nat.blt a b=true from n6.mpr (by lia)];rfl)
    ·have e:¬(a:Int)<b:=by simpa using e
     rw[hL]
     have e2:Nat.blt a b=false:=by
      cases e':Nat.blt a b with
      | false=>rfl
      | true=>have:=n6.mp e';lia
     refine y _ ?_
     rw[hR,e2]
     show C5 (List.replicate a t++[]) f=_
     rw[u9]
   exact kc q
 have emp (e:(t.op==2)=true):t.d=R:=by
  rw[dR] at e
  show _=(I6 t lo hi f).d
  unfold I6;rw[e];rfl
 have hT (e:(t.op==2)=false):I6 t lo hi f=Option.casesOn (D8 t lo hi).2 (dY t (D8 t lo hi).1 f) fun h=>C5 (O7 t (D8 t lo hi).1 h f) f:=by
  rw[dR] at e
  unfold I6;rw[e];rfl
 induction hi using Option.casesOn with
 | none=>
  let K:D->Prop:=fun d=>oe (V.bool? (.val d)) fun b=>br b (X3 (min (lo:Int) 1) 1) (X3 lo (-1))
  refine kc (g8 (b:=t.op==2) emp fun e=>e9 K (Av X t ht) h (g8 (fun e'=>?_) fun e'=>?_))
  ·rw[show min (lo:Int) 1=((min lo 1:Nat):Int) from(xR lo 1).symm]
   refine x3 (min lo 1) (some 1) (by lia) (fun ζ z=>by have z:=si z;lia) ?_
   rw[hT e];unfold D8;rw[e'];rfl
  ·refine x3 lo none h1 (fun ζ z=>nomatch z) ?_
   rw[hT e];unfold D8;rw[e'];rfl
 | some b=>
  have h3:=(h2 b rfl).1
  have h4:=(h2 b rfl).2
  let K:D->Prop:=fun d=>oe (V.bool? (.val d)) fun c=>br c (X3 (min (lo:Int) 1) (min (b:Int) 1)) (X3 lo b)
  refine kc (g8 (b:=decide ((b:Int)<(lo:Int))) (P:=cal G k 66 [.int 1,.int f.i] fun x=>x=R) (fun e=>?_) fun ζ=>g8 (b:=t.op==2) emp fun e=>e9 K (Av X t ht) h (g8 (fun e'=>?_) fun e'=>?_))
  ·have e:(b:Int)<lo:=by simpa using e
   lia
  ·rw[show min (lo:Int) 1=((min lo 1:Nat):Int) from(xR lo 1).symm,show min (b:Int) 1=((min b 1:Nat):Int) from(xR b 1).symm]
   refine x3 (min lo 1) (some (min b 1)) (by lia) (fun ζ z=>by have z:=si z;lia) ?_
   rw[hT e];unfold D8;rw[e'];rfl
  ·refine x3 lo (some b) h1 (fun ζ z=>by have z:=si z;lia) ?_
   rw[hT e];unfold D8;rw[e'];rfl
end
section
variable {G:Gd} {k n:Nat}
inductive N where
 | text (rs:List Int) (fold:Bool)
 | set (g:List (Int×Int))
 | place (o:Int)
 | times (lo hi:Int) (lazy:Bool) (s:N)
 | group (n:Int) (nm:Bool) (s:N)
 | row (l:List N)
 | choice (l:List N)
noncomputable def nd (kind:Str) (data:D) (subs:List D):D:=.tup [.str kind,data,.lst subs]
mutual
noncomputable def N.d:N->D
 | .text rs f=>nd (w5 "text") (.tup [n5 rs,.bool f]) []
 | .set g=>nd (w5 "set") (A7 g) []
 | .place o=>nd (w5 "place") (.int o) []
 | .times lo hi z s=>nd (w5 "times") (.tup [.int lo,.int hi,.bool z]) [s.d]
 | .group n nm s=>nd (w5 "group") (.tup [.int n,G9 nm]) [s.d]
 | .row l=>nd (w5 "row") .none (N.ds l)
 | .choice l=>nd (w5 "choice") .none (N.ds l)
noncomputable def N.ds:List N->List D
 | []=>[]
 | x::l=>x.d::N.ds l
end
theorem N.G5:∀ l:List N,N.ds l=l.map N.d:=by
 intro b7
 induction b7 with
 | nil=>exact rfl
 | cons t l ih=>exact congrArg (N.d t::·) ih
mutual
noncomputable def N.h:N->Nat
 | .text _ _=>1
 | .set _=>1
 | .place _=>1
 | .times _ _ _ s=>s.h+1
 | .group _ _ s=>s.h+1
 | .row l=>N.hs l+1
 | .choice l=>N.hs l+1
noncomputable def N.hs:List N->Nat
 | []=>0
 | x::l=>max x.h (N.hs l)
end
theorem N.aX:∀{l:List N} {x:N},x∈l->x.h<=N.hs l:=by
 intro b7
 induction b7 with
 | nil=>intro b8 b9;first | exact nomatch b9 | exact nomatch b8 | cases b9 | cases b8
 | cons y l IH=>
  intro x h
  rcases v5.mp h with rfl | h
  ·exact yG _ _
  ·exact k6 (IH h) (yH _ _)
noncomputable def F6 (lo hi:Int):Int:=bif hi==-1 then max lo 1 else hi
mutual
noncomputable def N.many:N->Int
 | .text rs _=>rs.length
 | .set _=>1
 | .place _=>1
 | .times lo hi _ s=>s.many*F6 lo hi
 | .group _ _ s=>s.many
 | .row l=>(N.y9 l).sum
 | .choice l=>(N.y9 l).sum
noncomputable def N.y9:List N->List Int
 | []=>[]
 | x::l=>x.many::N.y9 l
end
theorem N.ZH:∀ l:List N,N.y9 l=l.map N.many:=by
 intro b7
 induction b7 with
 | nil=>exact rfl
 | cons t l ih=>rw[N.y9,ih];rfl
mutual
noncomputable def N.fits:N->Prop
 | .text _ _=>True
 | .set _=>True
 | .place _=>True
 | .times _ _ _ s=>s.fits/\-4611686018427387904<=s.many/\s.many<=4611686018427387904
 | .group _ _ s=>s.fits
 | .row l=>N.mS l
 | .choice l=>N.mS l
noncomputable def N.mS:List N->Prop
 | []=>True
 | x::l=>x.fits/\N.mS l
end
theorem N.HW:∀{l:List N} {x:N},N.mS l->x∈l->x.fits:=by
 intro b7
 induction b7 with
 | nil=>intro b8 b9 e8;first | exact nomatch e8 | exact nomatch b9 | exact nomatch b8 | cases e8 | cases b9 | cases b8
 | cons y l IH=>
  intro x h hx
  rcases v5.mp hx with rfl | hx
  ·exact h.1
  ·exact IH h.2 hx
theorem Z3 {body:D->List D->List M->(List D->List M->Prop)->Prop} {mu:List M} {K:List D->List M->Prop} {α:Type} (f g:α->D):∀(l:List α)
  (hb:∀ a,a∈l->∀ acc (K:List D->List M->Prop),K (acc++[g a]) mu->body (f a) acc mu K) (acc:List D),K (acc++l.map g) mu->z7 body (l.map f) acc mu K:=by
 intro b7
 induction b7 with
 | nil=>
  intro _ acc h
  have h:K (acc++[]) mu:=h
  rw[u9] at h
  exact h
 | cons a l ih=>intro hb acc h;exact hb a f9 acc _ (ih (fun b hb'=>hb b (l6 _ hb')) _ (by
   have h:K (acc++(g a::l.map g)) mu:=h
   rw[List.append_cons] at h
   exact h))
theorem tT {α:Type} (f:α->Int):∀ l:List α,aS (l.map fun x=>.int (f x))=some (l.map f):=by
 intro b7
 induction b7 with
 | nil=>exact rfl
 | cons x l ih=>
  show(some (f x)).bind (fun b=>(aS (l.map fun x=>.int (f x))).map (fun ζ=>b::ζ))=_
  rw[ih];rfl
theorem mH {P:N->Prop} (h:∀ x,(∀ y,y.h<x.h->P y)->P x):∀ x,P x:=by
 have:∀ n,∀ x:N,x.h<n->P x:=fun n=>by
  induction n with
  | zero=>exact fun x h=>absurd h (aN _)
  | succ n ih=>exact fun x hx=>h x fun y hy=>ih y (by lia)
 exact fun x=>this (x.h+1) x (A1 _)
theorem kE {l:List N} {x:N} (h:x∈l):x.h<N.hs l+1:=lX (N.aX h)
theorem LL (X:FX G):∀ x:N,x.fits->At G x.h 476 [x.d] (.int x.many):=mH fun x ih hx=>by
 obtain⟨m,hm⟩:∃ m,x.h=m+1:=⟨x.h-1,by induction x using N.casesOn<;>rfl⟩
 rw[hm]
 refine fnAt X (b:=GS) (by rfl) (by rfl) fun k h=>?_
 let R:=D.int x.many
 let body:=J3 (wp G k 14) [none,none,none,none,none,none] 0 (.call 476 [.var 5]) (.var 5) []
 have sub (y:N) (hy:y.h<x.h) (hf:y.fits) (acc:List D) (K:List D->List M->Prop) (hk:K (acc++[.int y.many]) []):body y.d acc [] K:=
  kc (e9 (m:=y.h) (n:=m) (fun d=>K (acc++[d]) []) (ih y hy hf) h hk (n6.mpr (by lia)))
 let K (kd:Str) (da:D) (su:List D):List D->List M->Prop:=fun acc mu=>oe (aS acc) fun ns=>ex G k 16 (GS.drop 4) [v_ (nd kd da su),v_ (.str kd),v_ da,v_ (.lst su),v_ (.int ns.sum)] mu R
 induction x using N.casesOn with
 | text rs f=>
  have q:D.int (((rs.map D.int).map V.val).length:Nat)=D.int (rs.length:Nat):=by rw[i9,i9]
  exact kc q
 | set g=>exact kr (D.int 1)
 | place o=>exact kr (D.int 1)
 | times lo hi z s=>
  have hs:s.many+0=s.many:=aI _
  have q:br (hi==-1) ((-4611686018427387904<=s.many+0/\s.many+0<=4611686018427387904)/\D.int ((s.many+0)*max lo 1)=R) ((-4611686018427387904<=s.many+0/\s.many+0<=4611686018427387904)/\D.int ((s.many+0)*hi)=R):=by
   rw[hs]
   refine g8 (fun e=>⟨hx.2,?_⟩) fun e=>⟨hx.2,?_⟩
   ·show D.int (s.many*max lo 1)=D.int (s.many*F6 lo hi);unfold F6;rw[e];rfl
   ·show D.int (s.many*hi)=D.int (s.many*F6 lo hi);unfold F6;rw[e];rfl
  exact kc (sub s (A1 _) hx.1 [] (fun acc mu=>z7 body [] acc mu (K (w5 "times") (.tup [.int lo,.int hi,.bool z]) [s.d])) (kc q))
 | group n nm s=>
  have q:D.int (s.many+0)=R:=show D.int (s.many+0)=D.int s.many by rw[aI]
  exact kc (sub s (A1 _) hx [] (fun acc mu=>z7 body [] acc mu (K (w5 "group") (.tup [.int n,G9 nm]) [s.d])) (kc q))
 | row l=>
  refine kc (show z7 body (N.ds l) [] [] (K (w5 "row") .none (N.ds l)) from ?_)
  have q:D.int (l.map N.many).sum=R:=show D.int _=D.int (N.y9 l).sum by rw[N.ZH]
  have g:=Z3 (K:=K (w5 "row") .none (N.ds l)) N.d (fun y=>.int y.many) l (fun y hy acc K' hk=>sub y (kE hy) (N.HW hx hy) acc K' hk) [] (j6 (tT N.many l) (kc q))
  rwa [<-N.G5] at g
 | choice l=>
  refine kc (show z7 body (N.ds l) [] [] (K (w5 "choice") .none (N.ds l)) from ?_)
  have q:D.int (l.map N.many).sum=R:=show D.int _=D.int (N.y9 l).sum by rw[N.ZH]
  have g:=Z3 (K:=K (w5 "choice") .none (N.ds l)) N.d (fun y=>.int y.many) l (fun y hy acc K' hk=>sub y (kE hy) (N.HW hx hy) acc K' hk) [] (j6 (tT N.many l) (kc q))
  rwa [<-N.G5] at g
end
section
variable {G:Gd} {k n:Nat}
noncomputable def most (l:List Int):Int:=l.foldl max 0
mutual
noncomputable def N.nest:N->Int
 | .text _ _=>0
 | .set _=>0
 | .place _=>0
 | .times _ _ _ s=>most [s.nest]+1
 | .group _ _ s=>most [s.nest]
 | .row l=>most (N.O1 l)
 | .choice l=>most (N.O1 l)
noncomputable def N.O1:List N->List Int
 | []=>[]
 | x::l=>x.nest::N.O1 l
end
theorem N.qK:∀ l:List N,N.O1 l=l.map N.nest:=by
 intro b7
 induction b7 with
 | nil=>exact rfl
 | cons t l ih=>exact congrArg (N.nest t::·) ih
noncomputable def N.subs (x:N):List N:=N.casesOn x (fun ζ ζ=>[]) (fun ζ=>[]) (fun ζ=>[]) (fun ζ ζ ζ s=>[s]) (fun ζ ζ s=>[s]) (fun l=>l) fun l=>l
noncomputable def N.kind (x:N):Str:=N.casesOn x (fun ζ ζ=>w5 "text") (fun ζ=>w5 "set") (fun ζ=>w5 "place") (fun ζ ζ ζ ζ=>w5 "times") (fun ζ ζ ζ=>w5 "group") (fun ζ=>w5 "row") fun ζ=>w5 "choice"
noncomputable def N.data (x:N):D:=N.casesOn x (fun rs f=>.tup [n5 rs,.bool f]) A7 .int (fun lo hi z ζ=>.tup [.int lo,.int hi,.bool z]) (fun n nm ζ=>.tup [.int n,G9 nm]) (fun ζ=>.none) fun ζ=>.none
theorem N.VG (x:N):x.d=nd x.kind x.data (N.ds x.subs):=by induction x using N.casesOn<;>rfl
theorem N.jR (x:N):x.h=N.hs x.subs+1:=by
 induction x using N.casesOn with
 | times lo hi z s=>exact congrArg (fun ζ=>ζ+1) (sW s.h).symm
 | group n nm s=>exact congrArg (fun ζ=>ζ+1) (sW s.h).symm
 | _=>rfl
noncomputable def N.JE (x:N):Bool:=N.casesOn x (fun ζ ζ=>false) (fun ζ=>false) (fun ζ=>false) (fun ζ ζ ζ ζ=>true) (fun ζ ζ ζ=>false) (fun ζ=>false) fun ζ=>false
theorem YR (x:N):(x.kind==w5 "times")=x.JE:=by induction x using N.casesOn<;>kernel_rfl
theorem N.Vd (x:N):x.nest=bif x.JE then most (x.subs.map N.nest)+1 else most (x.subs.map N.nest):=by
 induction x using N.casesOn with
 | row l=>show most (N.O1 l)=most (l.map N.nest);rw[N.qK]
 | choice l=>show most (N.O1 l)=most (l.map N.nest);rw[N.qK]
 | _=>rfl
mutual
noncomputable def N.short:N->Prop
 | .text _ _=>True
 | .set _=>True
 | .place _=>True
 | .times _ _ _ s=>s.short
 | .group _ _ s=>s.short
 | .row l=>l.length<100000/\N.nP l
 | .choice l=>l.length<100000/\N.nP l
noncomputable def N.nP:List N->Prop
 | []=>True
 | x::l=>x.short/\N.nP l
end
theorem N.De {x:N} (h:x.short):x.subs.length<100000/\N.nP x.subs:=by
 induction x using N.casesOn with
 | times lo hi z s=>exact⟨by show 1<_;lia,h,trivial⟩
 | group n nm s=>exact⟨by show 1<_;lia,h,trivial⟩
 | row l=>exact h
 | choice l=>exact h
 | _=>exact⟨by show 0<_;lia,trivial⟩
theorem N.aC9:∀{l:List N} {x:N},N.nP l->x∈l->x.short:=by
 intro b7
 induction b7 with
 | nil=>intro b8 b9 e8;first | exact nomatch e8 | exact nomatch b9 | exact nomatch b8 | cases e8 | cases b9 | cases b8
 | cons y l IH=>
  intro x h hx
  rcases v5.mp hx with rfl | hx
  ·exact h.1
  ·exact IH h.2 hx
theorem N.sub_lt {x y:N} (h:y∈x.subs):y.h<x.h:=by rw[N.jR x];exact lX (N.aX h)
theorem BS {P:N->Nat->Prop} (h:∀ x m,(∀ y,y∈x.subs->∃ j,j<=m/\P y j)->P x (m+1)):∀ x:N,P x x.h:=mH fun x ih=>by
 rw[N.jR x]
 refine h x _ fun y hy=>⟨y.h,N.aX hy,ih y (N.sub_lt hy)⟩
theorem Xz (X:FX G):∀ x:N,x.short->At G x.h 481 [x.d] (.int x.nest):=BS (P:=fun x m=>x.short->At G m 481 [x.d] (.int x.nest)) fun x m ih hx=>by
 rw[N.VG x]
 refine fnAt X (b:=yS) (by rfl) (by rfl) fun k h=>?_
 let R:=D.int x.nest
 have hl:=(N.De hx).1
 have hsub:=(N.De hx).2
 let vx:=v_ (nd x.kind x.data (N.ds x.subs))
 let I2:List M:=[.list [.val (.int 0)]]
 let body:=J3 (wp G k 16) [none,none,none] 1 (.call 481 [.var 2]) (.var 2) []
 let K:List D->List M->Prop:=fun acc mu=>rX (.loc 0) (.val (.lst acc)) ⟨[vx,none],mu⟩ fun v σ'=>NT [v] σ' fun v σ''=>C6 (.var 1) v σ'' fun σ3=>(wp G k 19).x (yS.drop 1) σ3 (f6 R)
 refine kc (show z7 body (N.ds x.subs) [] I2 K from ?_)
 have g:=Z3 (body:=body) (mu:=I2) (K:=K) N.d (fun y=>.int y.nest) x.subs (fun y hy acc K' hk=>by
  obtain⟨j,hj,hp⟩:=ih y hy
  exact kc (e9 (m:=j) (n:=m) (fun d=>K' (acc++[d]) I2) (hp (N.aC9 hsub hy)) h hk (n6.mpr hj))) [] ?_
 ·rwa [<-N.G5] at g
 ·let ds:=x.subs.map fun y=>D.int y.nest
  let r9:List M:=[.list [.val (.int 0)],.list ((D.int 0::ds).map V.val)]
  refine kc (s9 (b:=Nat.ble (1+(ds.map V.val).length) d9) (Q:=False) ?_ (j6 (o:=fz 6 r9 (.loc 1)) (f:=fun y=>oe y.1.E5 fun ds=>oe (aS ds) fun ns=>List.casesOn (motive:=fun ζ=>Prop) ns False fun n ns=>ex G k 19 (yS.drop 1) [vx,v_ (.int (ns.foldl max n))] y.2 R) (bZ rfl) (j6 (o:=aS (D.int 0::ds)) (x:=0::x.subs.map N.nest) ?_ ?_)))
  ·rw[i9,i9];exact n6.mpr (by have:d9=1000000:=rfl;lia)
  ·show(some (0:Int)).bind (fun b=>(aS ds).map (fun ζ=>b::ζ))=_
   rw[tT];rfl
  ·have e:=N.Vd x
   rw[<-YR] at e
   refine kc (g8 (b:=x.kind==w5 "times") (P:=D.int (most (x.subs.map N.nest)+1)=R) (Q:=D.int (most (x.subs.map N.nest))=R) (fun c=>?_) fun c=>?_)
   ·rw[c] at e;exact congrArg D.int e.symm
   ·rw[c] at e;exact congrArg D.int e.symm
end
section
variable {G:Gd} {k n:Nat}
mutual
noncomputable def N.loops:N->Int
 | .text _ _=>0
 | .set _=>0
 | .place _=>0
 | .times _ _ _ s=>s.loops+1
 | .group _ _ s=>s.loops
 | .row l=>(N.qE l).sum
 | .choice l=>(N.qE l).sum
noncomputable def N.qE:List N->List Int
 | []=>[]
 | x::l=>x.loops::N.qE l
end
theorem N.ZF:∀ l:List N,N.qE l=l.map N.loops:=by
 intro b7
 induction b7 with
 | nil=>exact rfl
 | cons t l ih=>exact congrArg (N.loops t::·) ih
theorem Ea (a:Int):[a].sum=a:=aI a
theorem N.Uk (x:N):x.loops=bif x.JE then(x.subs.map N.loops).sum+1 else(x.subs.map N.loops).sum:=by
 induction x using N.casesOn with
 | row l=>show(N.qE l).sum=(l.map N.loops).sum;rw[N.ZF]
 | choice l=>show(N.qE l).sum=(l.map N.loops).sum;rw[N.ZF]
 | times lo hi z s=>show s.loops+1=[s.loops].sum+1;rw[Ea]
 | group _ _ s=>exact(Ea s.loops).symm
 | _=>rfl
theorem Yc (X:FX G):∀ x:N,At G x.h 491 [x.d] (.int x.loops):=BS (P:=fun x m=>At G m 491 [x.d] (.int x.loops)) fun x m ih=>by
 refine(N.VG x)▸?_
 refine fnAt X (b:=GU) (by rfl) (by rfl) fun k h=>?_
 let R:=D.int x.loops
 let vx:=v_ (nd x.kind x.data (N.ds x.subs))
 let body:=J3 (wp G k 17) [none,none,none] 0 (.call 491 [.var 2]) (.var 2) []
 let K:List D->List M->Prop:=fun acc mu=>oe (aS acc) fun ns=>ex G k 19 (GU.drop 1) [vx,v_ (.int ns.sum)] mu R
 refine kc (show z7 body (N.ds x.subs) [] [] K from ?_)
 have g:=Z3 (body:=body) (mu:=[]) (K:=K) N.d (fun y=>.int y.loops) x.subs (fun y hy acc K' hk=>by
  obtain⟨j,hj,hp⟩:=ih y hy
  exact kc (e9 (m:=j) (n:=m) (fun d=>K' (acc++[d]) []) hp h hk (n6.mpr hj))) [] ?_
 ·rwa [<-N.G5] at g
 ·refine j6 (tT N.loops x.subs) ?_
  have e:=N.Uk x
  rw[<-YR] at e
  refine kc (g8 (b:=x.kind==w5 "times") (P:=D.int ((x.subs.map N.loops).sum+1)=R) (Q:=D.int (x.subs.map N.loops).sum=R) (fun c=>?_) fun c=>?_)
  ·rw[c] at e;exact congrArg D.int e.symm
  ·rw[c] at e;exact congrArg D.int e.symm
mutual
noncomputable def N.load:N->Int
 | .text rs _=>max 1 rs.length
 | .set _=>max 1 1
 | .place _=>max 1 1
 | .times lo hi _ s=>s.load*max (max lo hi) 1
 | .group _ _ s=>max 1 [s.load].sum
 | .row l=>max 1 (N.n8 l).sum
 | .choice l=>max 1 (N.n8 l).sum
noncomputable def N.n8:List N->List Int
 | []=>[]
 | x::l=>x.load::N.n8 l
end
theorem N.ZD:∀ l:List N,N.n8 l=l.map N.load:=by
 intro b7
 induction b7 with
 | nil=>exact rfl
 | cons t l ih=>rw[N.n8,ih];rfl
mutual
noncomputable def N.dH:N->Prop
 | .text _ _=>True
 | .set _=>True
 | .place _=>True
 | .times _ _ _ s=>s.dH/\-4611686018427387904<=s.load/\s.load<=4611686018427387904
 | .group _ _ s=>s.dH
 | .row l=>N.pT l
 | .choice l=>N.pT l
noncomputable def N.pT:List N->Prop
 | []=>True
 | x::l=>x.dH/\N.pT l
end
theorem N.Ox:∀{l:List N} {x:N},N.pT l->x∈l->x.dH:=by
 intro b7
 induction b7 with
 | nil=>intro b8 b9 e8;first | exact nomatch e8 | exact nomatch b9 | exact nomatch b8 | cases e8 | cases b9 | cases b8
 | cons y l IH=>
  intro x h hx
  rcases v5.mp hx with rfl | hx
  ·exact h.1
  ·exact IH h.2 hx
theorem Ax (X:FX G):∀ x:N,x.fits->x.dH->At G (x.h+1) 486 [x.d] (.int x.load):=BS (P:=fun x m=>x.fits->x.dH->At G (m+1) 486 [x.d] (.int x.load)) fun x m ih hf hx=>by
 refine fnAt X (b:=TJ) (by rfl) (by rfl) fun k h=>?_
 let R:=D.int x.load
 have hm:x.h=x.h:=rfl
 let body:=J3 (wp G k 14) [none,none] 1 (.call 486 [.var 1]) (.var 1) []
 let K:List D->List M->Prop:=fun acc mu=>oe (aS acc) fun ns=>D.int (max 1 ns.sum)=R
 let K0:D->Prop:=fun d=>oe (V.int? (.val d)) fun y=>D.int (max 1 y)=R
 have TR (y:N) (hy:y∈x.subs) (h1:y.fits) (h2:y.dH) (K':D->Prop) (hk:K' (.int y.load)):cal G k 486 [y.d] K':=by
  obtain⟨j,hj,hp⟩:=ih y hy
  exact e9 (m:=j+1) (n:=m+1) K' (hp h1 h2) h hk (n6.mpr (by lia))
 have row (l:List N) (hs:x.subs=l) (h1:N.mS l) (h2:N.pT l) (hR:l≠[]->x.load=max 1 (l.map N.load).sum) (h0:l=[]->cal G k 476 [x.d] K0):br (N.ds l).isEmpty (cal G k 476 [x.d] K0) (z7 body (N.ds l) [] [.list []] K):=by
  induction l using List.casesOn with
  | nil=>exact h0 rfl
  | cons a l=>
   show z7 body (N.ds (a::l)) [] [.list []] K
   have g:=Z3 (body:=body) (mu:=[.list []]) (K:=K) N.d (fun y=>.int y.load) (a::l) (fun y hy acc K' hk=>
    kc (TR y (by rw[hs];exact hy) (N.HW h1 hy) (N.Ox h2 hy) (fun d=>K' (acc++[d]) [.list []]) hk)) [] (j6 (tT N.load (a::l)) (congrArg D.int (hR (by intro z;cases z)).symm))
   rwa [<-N.G5] at g
 have uC (hh:x.h<=m+1) (hR:x.load=max 1 x.many):cal G k 476 [x.d] K0:=e9 (m:=x.h) (n:=m+1) K0 (LL X x hf) h (congrArg D.int hR.symm) (n6.mpr hh)
 induction x using N.casesOn with
 | text rs f=>exact kc (row [] rfl trivial trivial (fun z=>absurd rfl z) fun ζ=>uC (bS _ _) rfl)
 | set g=>exact kc (row [] rfl trivial trivial (fun z=>absurd rfl z) fun ζ=>uC (bS _ _) rfl)
 | place o=>exact kc (row [] rfl trivial trivial (fun z=>absurd rfl z) fun ζ=>uC (bS _ _) rfl)
 | times lo hi z s=>
  let K2:D->Prop:=fun d=>rY .Mult (.val d) (.val (.int (max (max lo hi) 1))) ⟨[v_ (N.times lo hi z s).d],[]⟩ fun v σ'=>f6 R (.ret v) σ'
  exact kc (TR s f9 hf.1 hx.1 K2 ⟨hx.2,rfl⟩)
 | group n nm s=>exact kc (row [s] rfl ⟨hf,trivial⟩ ⟨hx,trivial⟩ (fun ζ=>rfl) fun z=>nomatch z)
 | row l=>
  refine kc (row l rfl hf hx (fun ζ=>by show max 1 (N.n8 l).sum=_;rw[N.ZD]) fun z=>?_)
  subst z
  exact uC (bS _ _) rfl
 | choice l=>
  refine kc (row l rfl hf hx (fun ζ=>by show max 1 (N.n8 l).sum=_;rw[N.ZD]) fun z=>?_)
  subst z
  exact uC (bS _ _) rfl
mutual
noncomputable def N.empty:N->Bool
 | .text rs _=>rs.isEmpty
 | .set _=>false
 | .place _=>true
 | .times lo _ _ s=>s.empty||lo==0
 | .group _ _ s=>s.empty
 | .row l=>N.pC l
 | .choice l=>N.jI l
noncomputable def N.pC:List N->Bool
 | []=>true
 | x::l=>x.empty&&N.pC l
noncomputable def N.jI:List N->Bool
 | []=>false
 | x::l=>x.empty||N.jI l
end
noncomputable def U9 (l:List N):List D:=(l.map fun y=>bif y.empty then [] else [y.d]).flatten
theorem WT:∀ l:List N,(U9 l).isEmpty=N.pC l:=by
 intro b7
 induction b7 with
 | nil=>exact rfl
 | cons x l ih=>
  show((bif x.empty then [] else [x.d])++U9 l).isEmpty=(x.empty&&N.pC l)
  cases x.empty with
  | true=>exact ih
  | false=>rfl
theorem Qa:∀ l:List N,(U9 l).length<=l.length:=by
 intro b7
 induction b7 with
 | nil=>exact g7 _
 | cons x l ih=>
  have:=ih
  show((bif x.empty then [] else [x.d])++U9 l).length<=l.length+1
  refine o7▸?_
  cases x.empty with
  | true=>show 0+_<=_;lia
  | false=>show 1+_<=_;lia
theorem Pz:∀ l:List N,decide (((U9 l).length:Int)<(l.length:Nat))=N.jI l:=by
 intro b7
 induction b7 with
 | nil=>exact rfl
 | cons x l ih=>
  have h1:=Qa l
  have h2:=ih
  show decide ((((bif x.empty then [] else [x.d])++U9 l).length:Int)<((l.length+1:Nat):Int))=(x.empty||N.jI l)
  refine o7▸?_
  cases x.empty with
  | true=>show decide (((0+(U9 l).length:Nat):Int)<_)=true;rw[decide_eq_true_eq];lia
  | false=>
   show decide (((1+(U9 l).length:Nat):Int)<_)=N.jI l
   rw[<-h2,decide_eq_decide];lia
theorem II {body:D->List D->List M->(List D->List M->Prop)->Prop} {mu:List M} {K:List D->List M->Prop} {α:Type} (f:α->D) (g:α->List D):∀(l:List α)
  (hb:∀ a,a∈l->∀ acc (K:List D->List M->Prop),K (acc++g a) mu->body (f a) acc mu K) (acc:List D),K (acc++(l.map g).flatten) mu->z7 body (l.map f) acc mu K:=by
 intro b7
 induction b7 with
 | nil=>
  intro _ acc h
  have h:K (acc++[]) mu:=h
  rw[u9] at h
  exact h
 | cons a l ih=>intro hb acc h;exact hb a f9 acc _ (ih (fun b hb'=>hb b (l6 _ hb')) _ (by
   have h:K (acc++(g a++(l.map g).flatten)) mu:=h
   rw[<-D9] at h
   exact h))
theorem Yj (X:FX G):∀ x:N,At G x.h 558 [x.d] (.bool x.empty):=BS (P:=fun x m=>At G m 558 [x.d] (.bool x.empty)) fun x m ih=>by
 refine fnAt X (b:=GZ) (by rfl) (by rfl) fun k h=>?_
 let R:=D.bool x.empty
 let body:=J3 (wp G k 15) [none,none,none,none,none,none] 0 (.var 5) (.var 5) [.not (.call 558 [.var 5])]
 let K (kd:Str) (da:D) (su:List D):List D->List M->Prop:=fun acc mu=>ex G k 16 (GZ.drop 4) [v_ (nd kd da su),v_ (.str kd),v_ da,v_ (.lst su),v_ (.lst acc)] mu R
 have below (l:List N) (hl:l=x.subs) (kd:Str) (da:D) (q:K kd da (N.ds l) (U9 l) []):z7 body (N.ds l) [] [] (K kd da (N.ds l)):=by
  have g:=II (body:=body) (mu:=[]) (K:=K kd da (N.ds l)) N.d (fun y=>bif y.empty then [] else [y.d]) l (fun y hy a K' hk=>by
   obtain⟨j,hj,hp⟩:=ih y (hl▸hy)
   refine kc (e9 (m:=j) (n:=m) (fun d=>oe (V.bool? (.val d)) fun b=>br (!b) (K' (a++[y.d]) []) (K' a [])) hp h ?_ (n6.mpr hj))
   show br (!y.empty) (K' (a++[y.d]) []) (K' a [])
   cases e:y.empty with
   | true=>rw[e] at hk;have hk:K' (a++[]) []:=hk;rw[u9] at hk;exact hk
   | false=>rw[e] at hk;exact hk) [] q
  rwa [<-N.G5] at g
 have one (s:N):(U9 [s]).isEmpty=s.empty:=by rw[WT];exact F7 _
 have row (l:List N) (hR:x.empty=(U9 l).isEmpty):br (U9 l).isEmpty (D.bool (U9 l).isEmpty=R) (D.bool false=R):=
  g8 (fun e=>congrArg D.bool hR.symm) fun e=>by show _=D.bool x.empty;rw[hR,e]
 induction x using N.casesOn with
 | text rs f=>exact kc (show D.bool (rs.map D.int).isEmpty=D.bool rs.isEmpty by induction rs using List.casesOn<;>rfl)
 | set g=>exact kr (D.bool false)
 | place o=>exact kr (D.bool true)
 | times lo hi z s=>
  have q:br (U9 [s]).isEmpty (D.bool (U9 [s]).isEmpty=R) (D.bool (lo==0)=R):=
   g8 (fun e=>by show _=D.bool (s.empty||lo==0);rw[one] at e ⊢;rw[e];rfl) fun e=>by show _=D.bool (s.empty||lo==0);rw[one] at e;rw[e];rfl
  exact kc (below [s] rfl (w5 "times") (.tup [.int lo,.int hi,.bool z]) (kc q))
 | group n nm s=>
  exact kc (below [s] rfl (w5 "group") (.tup [.int n,G9 nm]) (kc (row [s] (one s).symm)))
 | row l=>exact kc (below l rfl (w5 "row") .none (kc (row l (WT l).symm)))
 | choice l=>
  have q:D.bool (decide ((((U9 l).map V.val).length:Int)<(((N.ds l).map V.val).length:Nat)))=D.bool (N.jI l):=by
   rw[i9,i9,N.G5,i9,Pz]
  exact kc (below l rfl (w5 "choice") .none (kc q))
mutual
noncomputable def N.sure:N->Bool
 | .text _ _=>true
 | .set _=>true
 | .place _=>true
 | .times _ hi _ s=>!(hi==-1&&s.empty)&&s.sure
 | .group _ _ s=>s.sure
 | .row l=>N.nS l
 | .choice l=>N.nS l
noncomputable def N.nS:List N->Bool
 | []=>true
 | x::l=>x.sure&&N.nS l
end
noncomputable def unsure (l:List N):List D:=(l.map fun y=>bif y.sure then [] else [y.d]).flatten
theorem NI:∀ l:List N,(unsure l).isEmpty=N.nS l:=by
 intro b7
 induction b7 with
 | nil=>exact rfl
 | cons x l ih=>
  show((bif x.sure then [] else [x.d])++unsure l).isEmpty=(x.sure&&N.nS l)
  cases x.sure with
  | true=>exact ih
  | false=>rfl
theorem Zw {P:N->Nat->Prop} (h:∀ x m,(∀ y,y∈x.subs->y.h<=m/\P y y.h)->P x (m+1)):∀ x:N,P x x.h:=mH fun x ih=>by
 refine(N.jR x)▸?_
 exact h x _ fun y hy=>⟨N.aX hy,ih y (N.sub_lt hy)⟩
theorem Yk (X:FX G):∀ x:N,At G (x.h+1) 563 [x.d] (.bool x.sure):=Zw (P:=fun x m=>At G (m+1) 563 [x.d] (.bool x.sure)) fun x m ih=>by
 refine fnAt X (b:=TN) (by rfl) (by rfl) fun k h=>?_
 let R:=D.bool x.sure
 let body:=J3 (wp G k 15) [none,none,none,none,none] 0 (.var 4) (.var 4) [.not (.call 563 [.var 4])]
 let K (kd:Str) (da:D) (su:List D):List D->List M->Prop:=fun acc mu=>(wp G k 16).e (.lst []) ⟨[v_ (nd kd da su),v_ (.str kd),v_ da,v_ (.lst su),none],mu⟩ fun b σ'=>S8 .Eq (.val (.lst acc)) b σ' fun v σ''=>f6 R (.ret v) σ''
 have below (l:List N) (hl:l=x.subs) (kd:Str) (da:D) (q:D.bool (unsure l).isEmpty=R):z7 body (N.ds l) [] [] (K kd da (N.ds l)):=by
  have g:=II (body:=body) (mu:=[]) (K:=K kd da (N.ds l)) N.d (fun y=>bif y.sure then [] else [y.d]) l (fun y hy a K' hk=>by
   obtain⟨hj,hp⟩:=ih y (hl▸hy)
   refine kc (e9 (m:=y.h+1) (n:=m+1) (fun d=>oe (V.bool? (.val d)) fun b=>br (!b) (K' (a++[y.d]) []) (K' a [])) hp h ?_ (n6.mpr (by lia)))
   show br (!y.sure) (K' (a++[y.d]) []) (K' a [])
   cases e:y.sure with
   | true=>rw[e] at hk;have hk:K' (a++[]) []:=hk;rw[u9] at hk;exact hk
   | false=>rw[e] at hk;exact hk) [] (kc q)
  rwa [<-N.G5] at g
 have one (s:N):(unsure [s]).isEmpty=s.sure:=by rw[NI];exact F7 _
 induction x using N.casesOn with
 | text rs f=>exact kr (D.bool true)
 | set g=>exact kr (D.bool true)
 | place o=>exact kr (D.bool true)
 | times lo hi z s=>
  let da:D:=.tup [.int lo,.int hi,.bool z]
  let Z:Prop:=z7 body (N.ds [s]) [] [] (K (w5 "times") da (N.ds [s]))
  let C (b:Bool):Prop:=br b (D.bool false=R) Z
  have hR (b:Bool) (e:(hi==-1&&s.empty)=b):C b:=by
   refine g8 (fun e'=>?_) fun e'=>below [s] rfl (w5 "times") da ?_
   ·show _=D.bool (!(hi==-1&&s.empty)&&s.sure);rw[e,e'];rfl
   ·show _=D.bool (!(hi==-1&&s.empty)&&s.sure);rw[one,e,e'];rfl
  have q:br (hi==-1) (cal G k 558 [s.d] fun d=>oe (V.bool? (.val d)) C) Z:=by
   refine g8 (fun e=>?_) fun e=>hR false (by rw[e];rfl)
   exact e9 (m:=s.h) (n:=m+1) _ (Yj X s) h (hR s.empty (by rw[e];rfl)) (n6.mpr (by have:=(ih s f9).1;lia))
  exact kc q
 | group n nm s=>exact kc (below [s] rfl (w5 "group") (.tup [.int n,G9 nm]) (congrArg D.bool (one s)))
 | row l=>exact kc (below l rfl (w5 "row") .none (congrArg D.bool (NI l)))
 | choice l=>exact kc (below l rfl (w5 "choice") .none (congrArg D.bool (NI l)))
end
section
variable {G:Gd} {k n:Nat}
mutual
noncomputable def T.h:T->Nat
 | .leaf _ _=>1
 | .lit _ _=>1
 | .str _ _=>1
 | .cls _ _=>1
 | .cat l _=>T.hs l+1
 | .alt l _=>T.hs l+1
 | .loop _ s _=>s.h+1
 | .rep _ _ s _=>s.h+1
 | .cap _ _ s _=>s.h+1
noncomputable def T.hs:List T->Nat
 | []=>0
 | x::l=>max x.h (T.hs l)
end
theorem T.aX:∀{l:List T} {x:T},x∈l->x.h<=T.hs l:=by
 intro b7
 induction b7 with
 | nil=>intro b8 b9;first | exact nomatch b9 | exact nomatch b8 | cases b9 | cases b8
 | cons y l IH=>
  intro x h
  rcases v5.mp h with rfl | h
  ·exact yG _ _
  ·exact k6 (IH h) (yH _ _)
theorem T.jR (x:T):x.h=T.hs x.subs+1:=by
 induction x using T.casesOn with
 | loop o s f=>exact congrArg (fun ζ=>ζ+1) (sW s.h).symm
 | rep lo hi s f=>exact congrArg (fun ζ=>ζ+1) (sW s.h).symm
 | cap n nm s f=>exact congrArg (fun ζ=>ζ+1) (sW s.h).symm
 | _=>rfl
theorem T.UH {P:T->Nat->Prop} (h:∀ x m,(∀ y,y∈x.subs->y.h<=m/\P y y.h)->P x (m+1)):∀ x:T,P x x.h:=by
 have:∀ n,∀ x:T,x.h<n->P x x.h:=fun n=>by
  induction n with
  | zero=>exact fun x h=>absurd h (aN _)
  | succ n ih=>
   intro x hx
   rw[T.jR x]
   exact h x _ fun y hy=>⟨T.aX hy,ih y (by have:=T.aX hy;rw[T.jR x] at hx;lia)⟩
 exact fun x=>this (x.h+1) x (A1 _)
noncomputable def Lk.lo (o:Lk):Int:=Lk.casesOn o 0 1 0
noncomputable def Lk.hi (o:Lk):Int:=Lk.casesOn o (-1) (-1) 1
noncomputable def Zu (o:Lf):N:=Lf.casesOn o (.set []) (.text [] false) (.set [(0,1114111)]) (.set [(0,1114111)]) (.place 14) (.place 15) (.place 16) (.place 17) (.place 18) (.place 19)
mutual
noncomputable def T.read:T->N
 | .leaf o _=>Zu o
 | .lit r f=>.text [r] f.fold
 | .str rs f=>.text rs f.fold
 | .cls g _=>.set g
 | .cat l _=>.row (T.reads l)
 | .alt l _=>.choice (T.reads l)
 | .loop o s f=>.times o.lo o.hi f.lazy s.read
 | .rep lo hi s f=>.times lo hi f.lazy s.read
 | .cap n nm s _=>.group n nm s.read
noncomputable def T.reads:List T->List N
 | []=>[]
 | t::l=>t.read::T.reads l
end
theorem T.bL:∀ l:List T,T.reads l=l.map T.read:=by
 intro b7
 induction b7 with
 | nil=>exact rfl
 | cons t l ih=>rw[T.reads,ih];rfl
theorem Kg:∀ a b c:Bool,(A9 (Fg.i ⟨a,b,c⟩) 1==0)=!a:=by decide +kernel
theorem f1 (f:Fg):(A9 f.i 1==0)=!f.fold:=Kg _ _ _
theorem BK (X:FX G):∀ t:T,At G t.h 515 [t.d] t.read.d:=T.UH (P:=fun t m=>At G m 515 [t.d] t.read.d) fun t m ih=>by
 refine fnAt X (b:=GY) (by rfl) (by rfl) fun k h=>?_
 let R:=t.read.d
 let body:=J3 (wp G k 18) [none,none,none,none,none,none] 0 (.call 515 [.var 5]) (.var 5) []
 let K:List D->List M->Prop:=fun acc mu=>(wp G k 19).x (GY.drop 1) ⟨[v_ t.d,v_ (.lst acc),none,none,none],mu⟩ (f6 R)
 suffices q:K (t.subs.map fun y=>y.read.d) [] by
  refine kc (show z7 body t.sD [] [] K from ?_)
  rw[T.kQ]
  exact Z3 (body:=body) (mu:=[]) (K:=K) T.d (fun y=>y.read.d) t.subs (fun y hy acc K' hk=>by
   obtain⟨hj,hp⟩:=ih y hy
   exact kc (e9 (m:=y.h) (n:=m) (fun d=>K' (acc++[d]) []) hp h hk (n6.mpr hj))) [] q
 have iH:([7,8,9,10]:List Int).Nodup:=by decide
 have lz (f:Fg) (lo hi:Int) (x:List D):nd (w5 "times") (.tup [.int lo,.int hi,.bool (!(A9 f.i 64==0))]) x=nd (w5 "times") (.tup [.int lo,.int hi,.bool f.lazy]) x:=by rw[f64,oQ]
 have fo (f:Fg) (x:D):nd (w5 "text") (.tup [x,.bool (!(A9 f.i 1==0))]) []=nd (w5 "text") (.tup [x,.bool f.fold]) []:=by rw[f1,oQ]
 induction t using T.casesOn with
 | leaf o f=>induction o using Lf.casesOn<;>exact kc (⟨iH,rfl⟩:([7,8,9,10]:List Int).Nodup/\R=R) (by kernel_rfl)
 | lit r f=>exact kc (⟨iH,fo f (.lst [.int r])⟩:([7,8,9,10]:List Int).Nodup/\_=R)
 | str rs f=>exact kc (⟨iH,fo f (n5 rs)⟩:([7,8,9,10]:List Int).Nodup/\_=R)
 | cls g f=>exact kc (⟨iH,rfl⟩:([7,8,9,10]:List Int).Nodup/\R=R)
 | cat l f=>exact kc (⟨iH,by show nd _ .none (l.map fun y=>y.read.d)=nd _ .none (N.ds (T.reads l));rw[N.G5,T.bL,A6];rfl⟩:([7,8,9,10]:List Int).Nodup/\nd (w5 "row") .none (l.map fun y=>y.read.d)=R)
 | alt l f=>exact kc (⟨iH,by show nd _ .none (l.map fun y=>y.read.d)=nd _ .none (N.ds (T.reads l));rw[N.G5,T.bL,A6];rfl⟩:([7,8,9,10]:List Int).Nodup/\nd (w5 "choice") .none (l.map fun y=>y.read.d)=R)
 | loop o s f=>
  have q:=(⟨iH,lz f o.lo o.hi [s.read.d]⟩:([7,8,9,10]:List Int).Nodup/\_=R)
  induction o using Lk.casesOn<;>exact kc q (by kernel_rfl)
 | rep lo hi s f=>exact kc (⟨iH,lz f lo hi [s.read.d]⟩:([7,8,9,10]:List Int).Nodup/\_=R)
 | cap c nm s f=>exact kc (⟨iH,rfl⟩:([7,8,9,10]:List Int).Nodup/\R=R)
end
section
variable {G:Gd} {k n:Nat}
noncomputable def dQ (t s:T):Bool:=bif t.G1 then(bif s.B4 then false else bif s.G1 then !(s.fg.lazy==t.fg.lazy) else true) else true
mutual
noncomputable def T.G8 (x:Int):T->Bool
 | .leaf _ _=>true
 | .lit _ _=>true
 | .str _ _=>true
 | .cls g _=>!(g.isEmpty||[(0,x)]==g)
 | .cat l _=>T.nD x l
 | .alt l _=>T.nD x l
 | .loop o s f=>dQ (.loop o s f) s&&s.G8 x
 | .rep _ _ _ _=>false
 | .cap _ _ s _=>s.G8 x
noncomputable def T.nD (x:Int):List T->Bool
 | []=>true
 | t::l=>t.G8 x&&T.nD x l
end
noncomputable def qQ (x:Int) (t:T):List T->Bool
 | []=>true
 | s::l=>(dQ t s&&s.G8 x)&&qQ x t l
theorem KW {x:Int} {t:T} (h:t.G1=false):∀ l,qQ x t l=T.nD x l:=by
 intro b7
 induction b7 with
 | nil=>exact rfl
 | cons s l ih=>show((dQ t s&&s.G8 x)&&qQ x t l)=(s.G8 x&&T.nD x l);unfold dQ;rw[h,ih];rfl
theorem Yy (x:Int) (g:List (Int×Int)):pin (A7 g) [.lst [],A7 [(0,x)]]=some (g.isEmpty||([(0,x)]==g||false)):=by
 show(B8 (.lst []) (A7 g)).bind (fun a=>((B8 (A7 [(0,x)]) (A7 g)).bind fun b=>some (b||false)).map fun y=>a||y)=_
 rw[LO]
 induction g using List.casesOn<;>rfl
theorem Bb (X:FX G) (x:Int):∀ t:T,At G t.h 570 [t.d,A7 [(0,x)]] (.bool (t.G8 x)):=T.UH (P:=fun t m=>At G m 570 [t.d,A7 [(0,x)]] (.bool (t.G8 x))) fun t m ih=>by
 refine fnAt X (b:=jK) (by rfl) (by rfl) fun k h=>?_
 let R:=D.bool (t.G8 x)
 let F:Prop:=D.bool false=R
 let full:=v_ (A7 [(0,x)])
 let JU:=v_ (.tup [.int 7,.int 8,.int 9])
 let st:St:=⟨[v_ t.d,full,JU,none,none],[]⟩
 let I:List D->St->Prop:=fun ds σ=>∃ l,ds=T.ds l/\(∀ s,s∈l->s∈t.subs)/\qQ x t l=t.G8 x/\σ=st
 have loop (h0:qQ x t t.subs=t.G8 x):fo (wp G k 17) (j8 jK 2).tgt (j8 jK 2).l5 (jK.drop 3) (f6 R) t.sD st:=by
  rw[T.kQ,<-T.G5]
  refine gS (G:=G) (k:=k) (i:=17) [3,4] I ⟨t.subs,rfl,fun ζ h=>h,h0,rfl⟩ ?_ ?_
  ·rintro d rs σ₁ ⟨l,e,hm,hs,rfl⟩ _
   induction l using List.casesOn with
   | nil=>cases e
   | cons s l=>
   injection e with e1 e2
   subst e1 e2
   let J:St->Prop:=Let 0 [3,4] (I (T.ds l))
   let tl:=7==t.op||(8==t.op||(9==t.op||false))
   let sl:=7==s.op||(8==s.op||(9==s.op||false))
   let c2:=A9 (bP s.fg.i t.fg.i) 64==0
   let C (v:Bool):Prop:=cal G k 570 [s.d,A7 [(0,x)]] fun d=>oe (V.bool? (.val d)) fun b=>br (!b) F (J ⟨[v_ t.d,full,JU,v_ s.d,v_ (.bool v)],[]⟩)
   let W (v:Bool):Prop:=br tl (br (s.op==2) F (br v F (C v))) (C v)
   have hs:((dQ t s&&s.G8 x)&&qQ x t l)=t.G8 x:=hs
   have c (v:Bool) (ho:dQ t s=true):C v:=by
    obtain⟨hj,hp⟩:=ih s (hm s f9)
    refine e9 (m:=s.h) (n:=m) _ hp h (g8 (fun e=>?_) fun e=>?_) (n6.mpr hj)
    ·show D.bool false=D.bool (t.G8 x);rw[<-hs,V2 e,Y8,xM]
    ·refine Z8 [] st rfl (by kernel_rfl) ⟨l,rfl,fun s' h'=>hm s' (l6 _ h'),?_,rfl⟩
     rw[<-hs,ho,aA e];rfl
   have f (ho:dQ t s=false):F:=by show D.bool false=D.bool (t.G8 x);rw[<-hs,ho];rfl
   have w (v:Bool) (hv:v=(s.G1&&s.fg.lazy==t.fg.lazy)):W v:=by
    refine g8 (fun e=>g8 (fun e'=>f ?_) fun e'=>g8 (fun e2=>f ?_) fun e2=>c v ?_) fun e=>c v ?_
    ·have e:t.G1=true:=by rw[<-fT];exact e
     rw[dR] at e'
     unfold dQ;rw[e,e'];rfl
    ·have e:t.G1=true:=by rw[<-fT];exact e
     rw[dR] at e'
     rw[e2] at hv
     unfold dQ;rw[e,e']
     cases hl:s.G1 with
     | false=>rw[hl] at hv;exact tf hv
     | true=>rw[hl] at hv;have hv:true=(s.fg.lazy==t.fg.lazy):=hv;rw[<-hv];rfl
    ·have e:t.G1=true:=by rw[<-fT];exact e
     rw[dR] at e'
     rw[e2] at hv
     unfold dQ;rw[e,e']
     cases hl:s.G1 with
     | false=>rfl
     | true=>rw[hl] at hv;have hv:false=(s.fg.lazy==t.fg.lazy):=hv;rw[<-hv];rfl
    ·have e:t.G1=false:=by rw[<-fT];exact e
     unfold dQ;rw[e];rfl
   refine kc (g8 (b:=sl) (P:=W c2) (Q:=W sl) (fun e=>w _ ?_) fun e=>w _ ?_)
   ·have e:s.G1=true:=by rw[<-fT];exact e
    show(A9 (bP s.fg.i t.fg.i) 64==0)=_
    rw[IF,e];rfl
   ·have e':s.G1=false:=by rw[<-fT];exact e
    rw[e,e'];rfl
  ·rintro σ₁ ⟨l,e,hm,hs,rfl⟩ _
   induction l using List.casesOn with
   | cons _ _=>cases e
   | nil=>
   have q:D.bool true=R:=by show _=D.bool (t.G8 x);rw[<-hs];rfl
   exact kc q
 induction t using T.casesOn with
 | leaf o f=>induction o using Lf.casesOn<;>exact kc (loop rfl) (by kernel_rfl)
 | lit r f=>exact kc (loop rfl)
 | str rs f=>exact kc (loop rfl)
 | cat l f=>exact kc (loop (KW rfl l))
 | alt l f=>exact kc (loop (KW rfl l))
 | rep lo hi s f=>exact kr (D.bool false)
 | cap c nm s f=>exact kc (loop (by rw[KW rfl];show(s.G8 x&&true)=s.G8 x;rw[F7]))
 | loop o s f=>
  have q:=loop (F7 _)
  induction o using Lk.casesOn<;>exact kc q (by kernel_rfl)
 | cls g f=>
  have q:oe (pin (A7 g) [.lst [],A7 [(0,x)]]) fun r=>j7 (Nat.ble (dep (A7 g)) 90) (br r F (fo (wp G k 17) (j8 jK 2).tgt (j8 jK 2).l5 (jK.drop 3) (f6 R) [] ⟨[v_ (T.cls g f).d,full,JU,none,none],[.list []]⟩)):=by
   refine j6 (Yy x g) (s9 (Q:=False) (VL g) (g8 (fun e=>?_) fun e=>WO ?_))
   ·show D.bool false=D.bool (!(g.isEmpty||[(0,x)]==g));rw[PE] at e;rw[e];rfl
   ·have q:D.bool true=R:=by show _=D.bool (!(g.isEmpty||[(0,x)]==g));rw[PE] at e;rw[e];rfl
    exact kc q
  exact kc q
end
section
variable {G:Gd} {k n:Nat}
noncomputable def small (r:Int):Int:=bif decide (65<=r) then(bif decide (r<=90) then r+32 else r) else r
theorem Az (X:FX G) (rs:List Int):At G 1 520 [n5 rs] (n5 (rs.map small)):=by
 refine fnAt X (b:=TL) (by rfl) (by rfl) fun k h=>?_
 let R:=n5 (rs.map small)
 let body:=J3 (wp G k 18) [none,none] 0 (.ite (.cmp (.const (.int 65)) [.LtE,.LtE] [(.var 1),(.const (.int 90))]) (.bin .Add (.var 1) (.const (.int 32))) (.var 1)) (.var 1) []
 let K:List D->List M->Prop:=fun acc mu=>D.lst acc=R
 refine kc (show z7 body (rs.map D.int) [] [] K from ?_)
 refine Z3 (body:=body) (mu:=[]) (K:=K) D.int (fun r=>D.int (small r)) rs (fun r hr acc K' hk=>?_) [] ?_
 ·let A:Prop:=K' (acc++[.int (r+32)]) []
  let B:Prop:=K' (acc++[.int r]) []
  have q:br (decide (65<=r)) (br (decide (r<=90)) A B) (br (decide (65<=r)) A B):=by
   unfold small at hk
   refine g8 (fun e=>g8 (fun e2=>?_) fun e2=>?_) fun e=>U8 e ?_
   ·rw[e,e2] at hk;exact hk
   ·rw[e,e2] at hk;exact hk
   ·rw[e] at hk;exact hk
  exact kc q
 ·show D.lst _=n5 _
  unfold n5
  rw[A6];rfl
noncomputable def qD (text:List Int) (i:Nat):Bool:=Option.casesOn text[i]? false fun c=>c==10
noncomputable def dB (text:List Int) (a:Nat):Bool:=Nat.casesOn a true fun m=>qD text m
noncomputable def fF (text:List Int) (a:Nat):Bool:=(a:Int)==(text.length:Nat)||qD text a
noncomputable def stands (op:Int) (text:List Int) (a:Nat):Bool:=bif op==18 then(a:Int)==0 else bif op==19 then(a:Int)==(text.length:Nat) else
 bif op==14 then dB text a else bif op==15 then fF text a else((!(dB text a==fF text a))==(op==16))
theorem nB (text:List Int):((text.map D.int).map V.val).length=text.length:=by rw[i9,i9]
theorem Cw (text:List Int) (a:Nat) (c:Int) (h:text[a]?=some c):L6 ((text.map D.int).map V.val) (a:Int)=some (.val (.int c)):=by
 show((text.map D.int).map V.val)[a]?=_
 rw[bR,bR,h];rfl
theorem GD {text:List Int} {a:Nat} (h:a<text.length):∃ c,text[a]?=some c:=⟨text[a],P5 h⟩
theorem Cz {text:List Int} {a:Int} {m:Nat} {c:Int} {K:Bool->Prop} (h:text[m]?=some c) (e:a=(m:Int)) (p:K (c==10)):oe (L6 ((text.map D.int).map V.val) a) fun v=>oe (pk 6 [] v) fun d=>oe (B8 d (.int 10)) K:=by
 subst e;exact j6 (Cw text m c h) p
theorem Ye (X:FX G) (op:Int) (text:List Int) (a:Nat) (ha:a<=text.length):At G 1 527 [.int op,n5 text,.int (a:Int)] (.bool (stands op text a)):=by
 refine fnAt X (b:=tL) (by rfl) (by rfl) fun k h=>?_
 let R:=D.bool (stands op text a)
 let vs (x y:Option V):List (Option V):=[v_ (.int op),v_ (n5 text),v_ (.int (a:Int)),x,y]
 let E1:Prop:=ex G k 19 (tL.drop 1) (vs none none) [] R
 let E2 (x:Bool):Prop:=ex G k 18 (tL.drop 2) (vs (v_ (.bool x)) none) [] R
 let E3 (x y:Bool):Prop:=ex G k 17 (tL.drop 3) (vs (v_ (.bool x)) (v_ (.bool y))) [] R
 have e3 (h1:(op==18)=false) (h2:(op==19)=false):E3 (dB text a) (fF text a):=by
  have hs:stands op text a=bif op==14 then dB text a else bif op==15 then fF text a else((!(dB text a==fF text a))==(op==16)):=by
   unfold stands;rw[h1,h2];rfl
  have q:br (op==14) (D.bool (dB text a)=R) (br (op==15) (D.bool (fF text a)=R) (D.bool ((!(dB text a==fF text a))==(op==16))=R)):=by
   show br _ (_=D.bool (stands op text a)) (br _ (_=D.bool (stands op text a)) (_=D.bool (stands op text a)))
   rw[hs]
   exact g8 (fun e=>by rw[e];rfl) fun e=>g8 (fun e2=>by rw[e,e2];rfl) fun e2=>by rw[e,e2];rfl
  exact kc q
 let e:Bool:=(a:Int)==(((text.map D.int).map V.val).length:Nat)
 have he:e=((a:Int)==(text.length:Nat)):=by show((a:Int)==(((text.map D.int).map V.val).length:Nat))=_;rw[nB]
 have hb:fF text a=(e||qD text a):=by rw[he];rfl
 let Q2 (x:Bool):Prop:=br e (E3 x e) (oe (L6 ((text.map D.int).map V.val) (a:Int)) fun v=>oe (pk 6 [] v) fun d=>oe (B8 d (.int 10)) fun r=>E3 x r)
 have q2 (h1:(op==18)=false) (h2:(op==19)=false):Q2 (dB text a):=by
  refine g8 (fun x=>?_) fun x=>?_
  ·have e':fF text a=e:=by rw[hb,x];rfl
   have:=e3 h1 h2
   rw[e'] at this
   exact this
  ·obtain⟨c,hc⟩:=GD (text:=text) (a:=a) (by
    rw[he,beq_eq_false_iff_ne] at x
    lia)
   refine Cz (K:=fun r=>E3 (dB text a) r) hc rfl ?_
   have e':fF text a=(c==10):=by rw[hb,x];unfold qD;rw[hc];rfl
   have:=e3 h1 h2
   rw[e'] at this
   exact this
 have e1 (h1:(op==18)=false) (h2:(op==19)=false):E1:=by
  have p:=q2 h1 h2
  induction a using Nat.casesOn with
  | zero=>exact kc p
  | succ m=>
   have p2:E2 (dB text (m+1)):=kc p
   obtain⟨c,hc⟩:=GD (text:=text) (a:=m) ha
   have q:oe (L6 ((text.map D.int).map V.val) (((m+1:Nat):Int)-1)) fun v=>oe (pk 6 [] v) fun d=>oe (B8 d (.int 10)) fun r=>j7 true (E2 r):=by
    refine Cz (K:=fun r=>j7 true (E2 r)) hc (by lia) ?_
    have e:dB text (m+1)=(c==10):=by show qD text m=_;unfold qD;rw[hc]
    rw[e] at p2
    exact p2
   exact kc q
 let L:Nat:=((text.map D.int).map V.val).length
 have q:br (op==18) (br (op==18) (D.bool ((a:Int)==0)=R) (D.bool ((a:Int)==(L:Nat))=R)) (br (op==19) (br (op==18) (D.bool ((a:Int)==0)=R) (D.bool ((a:Int)==(L:Nat))=R)) E1):=by
  refine g8 (fun e=>s9 e ?_) fun e=>g8 (fun e2=>U8 e ?_) fun e2=>e1 e e2
  ·show _=D.bool (stands op text a);unfold stands;rw[e];rfl
  ·show _=D.bool (stands op text a);unfold stands;rw[e,e2];show D.bool ((a:Int)==((((text.map D.int).map V.val).length:Nat):Int))=_;rw[nB];rfl
 exact kc q
end
section
variable {G:Gd} {k n:Nat}
noncomputable abbrev Gr:=List (Int×Nat×Nat×Bool)
noncomputable def Z4 (p:Int×Nat×Nat×Bool):D:=.tup [.int p.2.1,.int p.2.2.1,G9 p.2.2.2]
noncomputable def w9 (g:Gr):D:=.D7 (g.map (fun ζ=>ζ.1)) (g.map Z4)
noncomputable abbrev Way:=Nat×Gr
noncomputable def q7 (w:Way):D:=.tup [.int (w.1:Nat),w9 w.2]
noncomputable def dd {α:Type}:List Nat->List (Nat×α)->List (Nat×α)
 | _,[]=>[]
 | s,w::l=>bif decide (w.1∈s) then dd s l else w::dd (s++[w.1]) l
theorem Yz (x:Nat):∀ s:List Nat,pin (.int (x:Nat)) (s.map fun n=>.int (n:Nat))=some (decide (x∈s)):=by
 intro b7
 induction b7 with
 | nil=>simp[pin]
 | cons n s ih=>
  show(some (((n:Nat):Int)==(x:Nat))).bind (fun a=>(pin (.int (x:Nat)) (s.map fun n=>.int (n:Nat))).map fun y=>a||y)=_
  refine ih▸?_
  show some (((n:Nat):Int)==(x:Nat)||decide (x∈s))=_
  congr 1
  by_cases e:x=n
  ·subst e;simp
  ·have:(((n:Nat):Int)==(x:Nat))=false:=by rw[beq_eq_false_iff_ne];lia
   refine this▸?_
   simp[e]
noncomputable def X5 (s:List Nat):List V:=(s.map fun n=>D.int (n:Nat)).map V.val
noncomputable def S7 (l:List Way):List V:=(l.map q7).map V.val
theorem Vc (s:List Nat):(X5 s).length=s.length:=by unfold X5;rw[i9,i9]
theorem Fj (s:List Way):(S7 s).length=s.length:=by unfold S7;rw[i9,i9]
theorem Vb (s:List Nat) (x:Nat):X5 s++[.val (.int (x:Nat))]=X5 (s++[x]):=by unfold X5;rw[o4,o4];rfl
theorem aK5 (s:List Way) (x:Way):S7 s++[.val (q7 x)]=S7 (s++[x]):=by unfold S7;rw[o4,o4];rfl
theorem qW (n:Nat) (p:List Nat) (i q:Nat) (ds:List D):M.re n p i q (.list (ds.map V.val))=.list (ds.map V.val):=by
 show Option.casesOn (motive:=fun ζ=>M) (V.res n p (ds.map V.val)) M.dead M.list=_
 rw[V.Cn]
theorem LN (X:FX G) (ws:List Way) (hl:ws.length<d9):At G 1 534 [.lst (ws.map q7)] (.lst ((dd [] ws).map q7)):=by
 refine fnAt X (b:=tM) (by rfl) (by rfl) fun k h=>?_
 let R:=D.lst ((dd [] ws).map q7)
 let W:=v_ (.lst (ws.map q7))
 let st (acc:List Way) (s:List Nat):St:=⟨[W,some (.loc 0),some (.loc 1),none],[.list (S7 acc),.list (X5 s)]⟩
 let I:List D->St->Prop:=fun ds σ=>∃ l acc s,ds=l.map q7/\acc++dd s l=dd [] ws/\acc.length+l.length<=ws.length/\s.length=acc.length/\σ=st acc s
 refine kc (gS (G:=G) (k:=k) (i:=18) (t:=(j8 tM 1).tgt) (b:=(j8 tM 1).l5) (rest:=tM.drop 2) (ds:=ws.map q7) (vars:=[W,some (.loc 0),some (.loc 1),none]) (mu:=[.list [],.list []]) (Q:=f6 R) [3] I
  ⟨ws,[],[],rfl,rfl,I0 (W4 _),rfl,rfl⟩ ?_ ?_)
 ·rintro d rs σ₁ ⟨l,acc,s,e,hd,hn,hs,rfl⟩ _
  induction l using List.casesOn with
  | nil=>cases e
  | cons w l=>
  injection e with e1 e2
  subst e1 e2
  have hn:acc.length+(l.length+1)<=ws.length:=hn
  let J:St->Prop:=Let 2 [3] (I (l.map q7))
  let mu:List M:=[.list (S7 acc),.list (X5 s)]
  let J2 (acc:List V) (s:List V):Prop:=J ⟨[W,some (.loc 0),some (.loc 1),v_ (q7 w)],[.list acc,.list s]⟩
  have j (acc':List Way) (s':List Nat) (h1:acc'++dd s' l=dd [] ws) (h2:acc'.length+l.length<=ws.length) (h3:s'.length=acc'.length):J2 (S7 acc') (X5 s'):=by
   refine Z8 [] (st acc' s') rfl ?_ ⟨l,acc',s',rfl,h1,h2,h3,rfl⟩
   show(⟨[W,some (.loc 0),some (.loc 1),none],[M.re 2 [] 0 0 (.list (S7 acc')),M.re 2 [] 1 1 (.list (X5 s'))]⟩:St)=_
   unfold S7 X5
   rw[qW,qW];rfl
  have q:oe (M8 (pk 6 mu) (X5 s)) fun ds=>oe (pin (.int (w.1:Nat)) ds) fun r=>br (!r)
    (j7 (Nat.blt (X5 s).length d9) (j7 (Nat.blt (S7 acc).length d9) (J2 (S7 acc++[.val (q7 w)]) (X5 s++[.val (.int (w.1:Nat))])))) (J2 (S7 acc) (X5 s)):=by
   refine j6 (KD (LQ 6 mu) _) (j6 (Yz w.1 s) (g8 (fun e=>?_) fun e=>?_))
   ·have hd':acc++(bif decide (w.1∈s) then dd s l else w::dd (s++[w.1]) l)=dd [] ws:=hd
    rw[V2 e] at hd'
    refine s9 (n6.mpr (by rw[Vc];lia)) (s9 (n6.mpr (by rw[Fj];lia)) ?_)
    rw[Vb,aK5]
    refine j _ _ ?_ ?_ ?_
    ·rw[D9];exact hd'
    ·rw[o7];show acc.length+1+_<=_;lia
    ·rw[o7,o7,hs];rfl
   ·have hd':acc++(bif decide (w.1∈s) then dd s l else w::dd (s++[w.1]) l)=dd [] ws:=hd
    rw[aA e] at hd'
    exact j _ _ hd' (by lia) hs
  exact kc q
 ·rintro σ₁ ⟨l,acc,s,e,hd,hn,hs,rfl⟩ _
  induction l using List.casesOn with
  | cons _ _=>cases e
  | nil=>
  have hd:acc++[]=dd [] ws:=hd
  rw[u9] at hd
  refine kc (j6 (f:=fun x=>x.1=R) (bZ (c:=0) (ds:=acc.map q7) (mu:=[.list (S7 acc),.list (X5 s)]) rfl) ?_)
  show D.lst (acc.map q7)=D.lst _
  exact hd▸rfl
noncomputable def setG:Gr->Int×Nat×Nat×Bool->Gr
 | [],p=>[p]
 | q::g,p=>bif q.1==p.1 then p::g else q::setG g p
theorem aC2 (p:Int×Nat×Nat×Bool):∀ g:Gr,setG g p=Option.casesOn ((g.map (fun ζ=>ζ.1)).idxOf? p.1) (g++[p]) fun j=>g.set j p:=by
 intro b7
 induction b7 with
 | nil=>exact rfl
 | cons q g ih=>
  show(bif q.1==p.1 then p::g else q::setG g p)=_
  refine ih▸?_
  have:((q::g).map (fun ζ=>ζ.1)).idxOf? p.1=bif q.1==p.1 then some 0 else(((g.map (fun ζ=>ζ.1)).idxOf? p.1).map (fun ζ=>ζ+1)):=by
   simp only[N5,sS]
   cases q.1==p.1<;>rfl
  refine this▸?_
  cases e:q.1==p.1 with
  | true=>
   show p::g=(q::g).set 0 p
   rfl
  | false=>
   show q::_=_
   cases(g.map (fun ζ=>ζ.1)).idxOf? p.1<;>rfl
end
end Rx.Lake
end
section
namespace Rx.Lake
section
section
variable {σ:Type}
noncomputable def pre (u:List σ) (w:Nat×List σ):Nat×List σ:=(w.1,u++w.2)
structure Itm (σ:Type) where
 h:Nat
 u:List σ
 d:Nat
 out:Bool
structure Rd (σ:Type) where
 lo:Nat
 hi:Option Nat
 lazy:Bool
 f:Nat->List (Nat×List σ)
 n:Nat
noncomputable def Rd.B (c:Rd σ):Nat:=Option.casesOn c.hi c.lo id
noncomputable def Rd.O9 (c:Rd σ) (d:Nat):Bool:=c.hi.isNone&&decide (c.lo<=d)
noncomputable def Rd.top (c:Rd σ) (d:Nat):Bool:=Option.casesOn c.hi false fun h=>decide (d=h)
noncomputable def Rd.kid (c:Rd σ) (p:Nat) (u:List σ) (d:Nat) (w:Nat×List σ):Itm σ:=⟨w.1,u++w.2,bif c.O9 d then d else d+1,c.O9 d&&decide (w.1=p)⟩
noncomputable def Rd.kids (c:Rd σ) (p:Nat) (u:List σ) (d:Nat):List (Itm σ):=bif c.top d then [] else(c.f p).map (c.kid p u d)
noncomputable def Rd.fst (c:Rd σ) (p:Nat) (u:List σ) (d:Nat):List (Itm σ):=bif decide (c.lo<=d)&&c.lazy then [⟨p,u,d,true⟩] else []
noncomputable def Rd.lst (c:Rd σ) (p:Nat) (u:List σ) (d:Nat):List (Itm σ):=bif decide (c.lo<=d)&&!c.lazy then [⟨p,u,d,true⟩] else []
noncomputable def Rd.rows (c:Rd σ) (p:Nat) (u:List σ) (d:Nat):List (Itm σ):=c.fst p u d++c.kids p u d++c.lst p u d
noncomputable def Itm.kW (g:Nat->Nat->List (Nat×List σ)) (i:Itm σ):List (Nat×List σ):=bif i.out then [(i.h,i.u)] else(g i.d i.h).map (pre i.u)
noncomputable def Rd.Rr (c:Rd σ):Nat->Nat->Nat->List (Nat×List σ)
 | 0,_,_=>[]
 | m+1,d,p=>(c.rows p [] d).flatMap (Itm.kW (c.Rr m))
noncomputable def Rd.mu (c:Rd σ) (p d:Nat):Nat:=(c.n-p)*(c.B+1)+(c.B-d)
noncomputable def Rd.R (c:Rd σ) (d p:Nat):List (Nat×List σ):=c.Rr (c.mu p d+1) d p
noncomputable def Rd.ok (c:Rd σ):Prop:=∀ p,p<=c.n->∀ w,w∈c.f p->p<=w.1/\w.1<=c.n
theorem Rd.qZ {c:Rd σ} (hc:c.ok) {p d:Nat} (hp:p<=c.n) (hd:d<=c.B) (u:List σ) (i:Itm σ) (hi:i∈c.rows p u d):(i.out=true∨c.mu i.h i.d<c.mu p d)/\i.h<=c.n/\i.d<=c.B:=by
 unfold Rd.rows at hi
 rcases n7.mp hi with hi | hi
 ·rcases n7.mp hi with hi | hi
  ·unfold Rd.fst at hi
   cases e:decide (c.lo<=d)&&c.lazy<;>rw[e] at hi
   ·cases hi
   ·cases j5.mp hi;exact⟨.inl rfl,hp,hd⟩
  ·unfold Rd.kids at hi
   cases e:c.top d<;>rw[e] at hi
   ·obtain⟨w,hw,rfl⟩:=j4.mp hi
    have h1:=(hc p hp w hw).1
    have h2:=(hc p hp w hw).2
    unfold Rd.kid
    cases eu:c.O9 d with
    | true=>
     refine⟨?_,h2,hd⟩
     by_cases ep:w.1=p
     ·exact .inl (by simp[ep])
     ·refine .inr ?_
      show(c.n-w.1)*(c.B+1)+(c.B-d)<(c.n-p)*(c.B+1)+(c.B-d)
      have:(c.n-w.1)*(c.B+1)<(c.n-p)*(c.B+1):=Nat.mul_lt_mul_of_pos_right (by lia) (oY _)
      lia
    | false=>
     have hd':d+1<=c.B:=by
      unfold Rd.B at hd ⊢
      unfold Rd.O9 at eu
      unfold Rd.top at e
      cases hh:c.hi with
      | none=>
       rw[hh] at hd eu
       have:¬c.lo<=d:=of_decide_eq_false eu
       show d+1<=c.lo;lia
      | some h=>
       rw[hh] at hd e
       have hd:d<=h:=hd
       have:¬d=h:=of_decide_eq_false e
       show d+1<=h;lia
     refine⟨.inr ?_,h2,hd'⟩
     show(c.n-w.1)*(c.B+1)+(c.B-(d+1))<(c.n-p)*(c.B+1)+(c.B-d)
     have:(c.n-w.1)*(c.B+1)<=(c.n-p)*(c.B+1):=bT _ (by lia)
     omega
   ·cases hi
 ·unfold Rd.lst at hi
  cases e:decide (c.lo<=d)&&!c.lazy<;>rw[e] at hi
  ·cases hi
  ·cases j5.mp hi;exact⟨.inl rfl,hp,hd⟩
theorem pV {α β:Type} {f g:α->List β}:∀{l:List α},(∀ a,a∈l->f a=g a)->l.flatMap f=l.flatMap g:=by
 intro b7
 induction b7 with
 | nil=>intro _;exact rfl
 | cons a l ih=>intro h;rw[cU,cU,h a f9,ih fun b hb=>h b (l6 _ hb)]
theorem Rd.OL {c:Rd σ} (hc:c.ok):∀(m m' d p:Nat),p<=c.n->d<=c.B->c.mu p d<m->c.mu p d<m'->c.Rr m d p=c.Rr m' d p
 | m+1,m'+1,d,p,hp,hd,h1,h2=>pV fun i hi=>by
  obtain⟨ho,a,b⟩:=c.qZ hc hp hd [] i hi
  unfold Itm.kW
  cases e:i.out with
  | true=>rfl
  | false=>
   have ho:c.mu i.h i.d<c.mu p d:=ho.elim (fun ho=>by rw[e] at ho;exact ft ho) id
   rw[OL hc m m' i.d i.h a b (by lia) (by lia)]
noncomputable def Rd.C (c:Rd σ) (i:Itm σ):List (Nat×List σ):=i.kW c.R
theorem Rd.OH {c:Rd σ} (hc:c.ok) {p d:Nat} (hp:p<=c.n) (hd:d<=c.B):c.R d p=(c.rows p [] d).flatMap c.C:=by
 show(c.rows p [] d).flatMap _=_
 refine pV fun i hi=>?_
 obtain⟨ho,a,b⟩:=c.qZ hc hp hd [] i hi
 unfold Rd.C Itm.kW
 cases e:i.out with
 | true=>rfl
 | false=>
  have ho:c.mu i.h i.d<c.mu p d:=ho.elim (fun ho=>by rw[e] at ho;exact ft ho) id
  show List.map _ (c.Rr _ i.d i.h)=List.map _ (c.R i.d i.h)
  unfold Rd.R
  rw[OL hc _ (c.mu i.h i.d+1) i.d i.h a b (by omega) (by lia)]
theorem Cb (u v:List σ) (w:Nat×List σ):pre u (pre v w)=pre (u++v) w:=by unfold pre;rw[D9]
noncomputable def Itm.shift (u:List σ) (i:Itm σ):Itm σ:=⟨i.h,u++i.u,i.d,i.out⟩
theorem Rd.Cr (c:Rd σ) (p:Nat) (u:List σ) (d:Nat):c.rows p u d=(c.rows p [] d).map (Itm.shift u):=by
 unfold Rd.rows
 rw[o4,o4]
 congr 1
 ·congr 1
  ·unfold Rd.fst
   cases decide (c.lo<=d)&&c.lazy
   ·rfl
   ·show [_]=[Itm.mk p (u++[]) d true];rw[u9]
  ·unfold Rd.kids
   cases c.top d
   ·show List.map _ _=List.map _ (List.map _ _);rw[A6];rfl
   ·rfl
 ·unfold Rd.lst
  cases decide (c.lo<=d)&&!c.lazy
  ·rfl
  ·show [_]=[Itm.mk p (u++[]) d true];rw[u9]
theorem Rd.Gk (c:Rd σ) (u:List σ) (i:Itm σ):c.C (i.shift u)=(c.C i).map (pre u):=by
 unfold Rd.C Itm.kW Itm.shift
 cases i.out with
 | true=>rfl
 | false=>
  show List.map _ _=List.map _ (List.map _ _)
  rw[A6]
  congr 1
  funext w
  exact(Cb u i.u w).symm
theorem Rd.Gj {c:Rd σ} (hc:c.ok) {p d:Nat} (hp:p<=c.n) (hd:d<=c.B) (u:List σ):c.C ⟨p,u,d,false⟩=(c.rows p u d).flatMap c.C:=by
 show(c.R d p).map (pre u)=_
 rw[c.OH hc hp hd,c.Cr p u,xU,EW]
 exact pV fun i ζ=>(c.Gk u i).symm
end
end
end Rx.Lake
end
section
open PySem PySem.W PySem.Calls PyProof.Rows
namespace Rx.Lake
section
variable {G:Gd} {k n:Nat}
theorem Sf {l:List Int} {x:Int} {j:Nat} (h:l.idxOf? x=some j):l[j]?=some x:=by
 rw[List.idxOf?,List.findIdx?_eq_some_iff_getElem] at h
 obtain⟨h1,h2,_⟩:=h
 rw[P5 h1,eq_of_beq h2]
theorem set_same {l:List Int} {x:Int} {j:Nat} (h:l[j]?=some x):l.set j x=l:=by
 obtain⟨h1,h2⟩:=aK.mp h
 rw[<-h2,List.set_getElem_self]
theorem aC0 (g:Gr) (p:Int×Nat×Nat×Bool):fz 6 [setItem (g.map (fun ζ=>ζ.1)) ((g.map Z4).map V.val) p.1 (.val (Z4 p))] (.loc 0)=some (w9 (setG g p),[.frozen (w9 (setG g p))]):=by
 have f (ks:List Int) (ds:List D):fz 6 [.dict ks (ds.map V.val)] (.loc 0)=some (.D7 ks ds,[.frozen (.D7 ks ds)]):=by
  show(G6 (fz 5) [.dict ks (ds.map V.val)] (ds.map V.val)).bind _=_
  rw[IG];rfl
 rw[aC2]
 unfold setItem
 cases e:(g.map (fun ζ=>ζ.1)).idxOf? p.1 with
 | none=>
  have:=f ((g++[p]).map (fun ζ=>ζ.1)) ((g++[p]).map Z4)
  rw[o4,o4,o4] at this
  show fz 6 [.dict (g.map (fun ζ=>ζ.1)++[p.1]) ((g.map Z4).map V.val++[V.val (Z4 p)])] (.loc 0)=some (w9 (g++[p]),[.frozen (w9 (g++[p]))])
  unfold w9
  rw[o4,o4]
  exact this
 | some j=>
  have:=f ((g.set j p).map (fun ζ=>ζ.1)) ((g.set j p).map Z4)
  have e2:(g.set j p).map (fun ζ=>ζ.1)=g.map (fun ζ=>ζ.1):=by rw[EX,set_same (Sf e)]
  show fz 6 [.dict (g.map (fun ζ=>ζ.1)) (((g.map Z4).map V.val).set j (V.val (Z4 p)))] (.loc 0)=some (w9 (g.set j p),[.frozen (w9 (g.set j p))])
  have e3:((g.map Z4).map V.val).set j (V.val (Z4 p))=((g.set j p).map Z4).map V.val:=by rw[EX,EX]
  rw[e3]
  unfold w9
  rw[e2]
  rw[e2] at this
  exact this
theorem Yi (X:FX G) (g:Gr) (c:Int) (nm:Bool) (b e:Nat) (hg:g.length<d9):At G 1 553 [w9 g,.tup [.int c,G9 nm],.int (b:Nat),.int (e:Nat)] (w9 (setG g (c,b,e,nm))):=by
 refine fnAt X (b:=TM) (by rfl) (by rfl) fun k h=>?_
 let R:=w9 (setG g (c,b,e,nm))
 have q:j7 (Nat.blt (g.map (fun ζ=>ζ.1)).length d9) (oe (fz 6 [setItem (g.map (fun ζ=>ζ.1)) ((g.map Z4).map V.val) c (.val (Z4 (c,b,e,nm)))] (.loc 0)) fun x=>x.1=R):=
  s9 (n6.mpr (by rw[i9];exact hg)) (j6 (aC0 g (c,b,e,nm)) rfl)
 exact kc q
end
end Rx.Lake
end
section
namespace Rx.Lake
section
section
variable {α σ:Type}
theorem tW:∀(l:List (Nat×α)) {s s':List Nat},(∀ x,x∈s↔x∈s')->dd s l=dd s' l:=by
 intro b7
 induction b7 with
 | nil=>intro _ _ _;exact rfl
 | cons w l ih=>
  intro s s' h
  show(bif decide (w.1∈s) then dd s l else w::dd (s++[w.1]) l)=bif decide (w.1∈s') then dd s' l else w::dd (s'++[w.1]) l
  rw[ih h,ih (s:=s++[w.1]) (s':=s'++[w.1]) (fun x=>by rw[n7,n7,h x])]
  rw[show decide (w.1∈s)=decide (w.1∈s') from by simp[h w.1]]
theorem gM:∀(a b:List (Nat×α)) (s:List Nat),dd s (a++b)=dd s a++dd (s++a.map (fun ζ=>ζ.1)) b:=by
 intro b7
 induction b7 with
 | nil=>intro b s;show dd s b=[]++dd (s++[]) b;rw[u9];rfl
 | cons w a ih=>
  intro b s
  show(bif decide (w.1∈s) then dd s (a++b) else w::dd (s++[w.1]) (a++b))=(bif decide (w.1∈s) then dd s a else w::dd (s++[w.1]) a)++dd (s++w.1::a.map (fun ζ=>ζ.1)) b
  rw[ih b s,ih b (s++[w.1])]
  cases e:decide (w.1∈s) with
  | true=>
   have e:=of_decide_eq_true e
   show dd s a++_=dd s a++_
   congr 1
   refine tW b fun x=>?_
   rw[n7,n7,v5]
   exact⟨fun h=>h.elim .inl fun h=>.inr (.inr h),fun h=>h.elim .inl fun h=>h.elim (fun h=>.inl (h▸e)) .inr⟩
  | false=>
   show(w::dd (s++[w.1]) a)++dd (s++[w.1]++a.map (fun ζ=>ζ.1)) b=(w::dd (s++[w.1]) a)++_
   rw[D9];rfl
theorem HQ:∀(l:List (Nat×α)) {s:List Nat},(∀ w,w∈l->w.1∈s)->dd s l=[]:=by
 intro b7
 induction b7 with
 | nil=>intro _ _;exact rfl
 | cons w l ih=>
  intro s h
  show(bif decide (w.1∈s) then dd s l else w::dd (s++[w.1]) l)=[]
  refine(decide_eq_true (h w f9))▸?_
  exact ih fun v hv=>h v (l6 _ hv)
theorem Nc (a b c:List (Nat×α)) (h:∀ w,w∈b->w.1∈a.map (fun ζ=>ζ.1)):dd [] (a++(b++c))=dd [] (a++c):=by
 rw[gM,gM,gM,HQ b (fun w hw=>n7.mpr (.inr (h w hw)))]
 congr 1
 refine tW c fun x=>?_
 simp only[n7]
 refine⟨fun h'=>h'.elim id fun h'=>?_,.inl⟩
 obtain⟨w,hw,rfl⟩:=j4.mp h'
 exact .inr (h w hw)
theorem AW:∀(n:Nat) (l:List Nat),l.Nodup->(∀ x,x∈l->x<n)->l.length<=n
 | 0,[],_,_=>g7 _
 | 0,x::_,_,h=>absurd (h x f9) (aN _)
 | n+1,l,hn,h=>by
  have h1:=AW n (l.erase n) (hn.erase n) fun x hx=>by
   have:=h x (List.mem_of_mem_erase hx)
   have:x≠n:=fun e=>by subst e;exact absurd hx (by rw[Ip hn];exact fun h=>h.1 rfl)
   lia
  by_cases hm:n∈l
  ·rw[List.length_erase_of_mem hm] at h1;lia
  ·rw[List.erase_of_not_mem hm] at h1;lia
structure L3 (c:Rd σ) (D0 found:List (Nat×List σ)) (seen:List (Nat×Nat)) (todo:List (Itm σ)):Prop where
 A:dd [] (found++todo.flatMap c.C)=D0
 V:∀ s,s∈seen->∃ a b,todo=a++b/\(∀ i,i∈a->i.out=true∨c.mu i.h i.d<c.mu s.1 s.2)/\∀ w,w∈c.R s.2 s.1->w.1∈(found++a.flatMap c.C).map (fun ζ=>ζ.1)
 O:∀ i,i∈todo->i.h<=c.n/\i.d<=c.B
 N:seen.Nodup/\∀ s,s∈seen->s.1<=c.n/\s.2<=c.B
 E:found.length+todo.length<=1+(c.n+3)*seen.length
variable {c:Rd σ} {D0 found:List (Nat×List σ)} {seen:List (Nat×Nat)} {todo:List (Itm σ)} {h d:Nat} {u:List σ}
theorem L3.start (hp:h<=c.n) (u:List σ):L3 c (dd [] ((c.R 0 h).map (pre u))) [] [] [⟨h,u,0,false⟩]:=
 ⟨(by show dd [] ([]++(_++[]))=_;rw[u9];rfl),fun ζ h=>absurd h A8,fun i hi=>(by cases j5.mp hi;exact⟨hp,v7 _⟩),⟨.nil,fun ζ h=>absurd h A8⟩,by show 0+1<=1+_;lia⟩
theorem L3.done (i:L3 c D0 found seen []):dd [] found=D0:=by
 have:=i.A
 have e:found++List.flatMap c.C []=found:=u9 _
 rwa [e] at this
theorem L3.outs (i:L3 c D0 found seen (⟨h,u,d,true⟩::todo)):L3 c D0 (found++[(h,u)]) seen todo:=by
 have e (l:List (Nat×List σ)):found++[(h,u)]++l=found++(c.C ⟨h,u,d,true⟩++l):=by rw[D9];rfl
 refine⟨by rw[e];exact i.A,fun s hs=>?_,fun j hj=>i.O j (l6 _ hj),i.N,?_⟩
 ·obtain⟨a,b,h1,h2,h3⟩:=i.V s hs
  induction a using List.casesOn with
  | nil=>
   refine⟨[],todo,rfl,fun ζ h=>absurd h A8,fun w hw=>?_⟩
   have:=h3 w hw
   rw[o4,n7] at this
   rw[o4,n7]
   rcases this with this | this
   ·exact .inl (by rw[o4,n7];exact .inl this)
   ·cases this
  | cons x a=>
   injection h1 with h1 h4
   subst h1
   exact⟨a,b,h4,fun j hj=>h2 j (l6 _ hj),fun w hw=>by rw[e];exact h3 w hw⟩
 ·have:=i.E
  refine o7▸?_
  have e1:(Itm.mk h u d true::todo).length=todo.length+1:=rfl
  rw[e1] at this
  show found.length+1+todo.length<=_;lia
theorem L3.skip (i:L3 c D0 found seen (⟨h,u,d,false⟩::todo)) (hs:(h,d)∈seen):L3 c D0 found seen todo:=by
 have UZ (w:Nat×List σ) (hw:w∈c.C ⟨h,u,d,false⟩):w.1∈found.map (fun ζ=>ζ.1):=by
  obtain⟨a,b,h1,h2,h3⟩:=i.V _ hs
  have ha:a=[]:=by
   induction a using List.casesOn with
   | nil=>rfl
   | cons x a=>
    injection h1 with h1 h4
    subst h1
    rcases h2 _ f9 with h | h
    ·exact ft h
    ·exact absurd h (aM _)
  subst ha
  have hw:w∈(c.R d h).map (pre u):=hw
  obtain⟨w',mX,rfl⟩:=j4.mp hw
  have:=h3 w' mX
  rwa [show found++List.flatMap c.C []=found from u9 _] at this
 refine⟨?_,fun s hs=>?_,fun j hj=>i.O j (l6 _ hj),i.N,?_⟩
 ·have:=i.A
  rw[cU,Nc _ _ _ UZ] at this
  exact this
 ·obtain⟨a,b,h1,h2,h3⟩:=i.V s hs
  induction a using List.casesOn with
  | nil=>exact⟨[],todo,rfl,fun ζ h=>absurd h A8,h3⟩
  | cons x a=>
   injection h1 with h1 h4
   subst h1
   refine⟨a,b,h4,fun j hj=>h2 j (l6 _ hj),fun w hw=>?_⟩
   have:=h3 w hw
   rw[cU,o4,o4,n7,n7] at this
   rw[o4,n7]
   rcases this with this | this | this
   ·exact .inl this
   ·obtain⟨v,hv,e⟩:=j4.mp this
    exact .inl (e▸UZ v hv)
   ·exact .inr this
 ·have:=i.E
  have e1:(Itm.mk h u d false::todo).length=todo.length+1:=rfl
  rw[e1] at this
  lia
theorem Rd.Cq (hn:∀ p,p<=c.n->(c.f p).length<=c.n+1) (hh:h<=c.n):(c.rows h u d).length<=c.n+3:=by
 have h0:=hn h hh
 have h1:(c.fst h u d).length<=1:=by unfold Rd.fst;cases decide (c.lo<=d)&&c.lazy<;>show _<=1<;>simp
 have h2:(c.lst h u d).length<=1:=by unfold Rd.lst;cases decide (c.lo<=d)&&!c.lazy<;>show _<=1<;>simp
 have h3:(c.kids h u d).length<=c.n+1:=by
  unfold Rd.kids
  cases c.top d
  ·show((c.f h).map _).length<=_;rw[i9];exact h0
  ·exact v7 _
 unfold Rd.rows
 rw[o7,o7]
 lia
theorem L3.news (hc:c.ok) (hn:∀ p,p<=c.n->(c.f p).length<=c.n+1) (i:L3 c D0 found seen (⟨h,u,d,false⟩::todo)) (hs:(h,d)∉seen):L3 c D0 found (seen++[(h,d)]) (c.rows h u d++todo):=by
 obtain⟨hh,hd⟩:=i.O _ f9
 have hh:h<=c.n:=hh
 have hd:d<=c.B:=hd
 have e:=Rd.Gj hc hh hd u
 refine⟨?_,fun s hs=>?_,fun j hj=>?_,⟨?_,fun s hs=>?_⟩,?_⟩
 ·have:=i.A
  rw[cU,e,<-sR] at this
  exact this
 ·rcases n7.mp hs with hs | hs
  ·obtain⟨a,b,h1,h2,h3⟩:=i.V s hs
   induction a using List.casesOn with
   | nil=>exact⟨[],_,rfl,fun ζ h=>absurd h A8,h3⟩
   | cons x a=>
    injection h1 with h1 h4
    subst h1
    have ht:c.mu h d<c.mu s.1 s.2:=by
     rcases h2 _ f9 with h | h
     ·exact ft h
     ·exact h
    refine⟨c.rows h u d++a,b,(by rw[h4,D9];rfl),fun j hj=>?_,fun w hw=>?_⟩
    ·rcases n7.mp hj with hj | hj
     ·rcases(Rd.qZ hc hh hd u j hj).1 with h | h
      ·exact .inl h
      ·exact .inr (Nat.lt_trans h ht)
     ·exact h2 j (l6 _ hj)
    ·have:=h3 w hw
     rw[cU,e,<-sR] at this
     exact this
  ·cases j5.mp hs
   refine⟨c.rows h u d,todo,rfl,fun j hj=>(Rd.qZ hc hh hd u j hj).1,fun w hw=>?_⟩
   rw[o4,n7,<-e]
   refine .inr ?_
   have:pre u w∈c.C ⟨h,u,d,false⟩:=j4.mpr ⟨w,hw,rfl⟩
   exact j4.mpr ⟨_,this,rfl⟩
 ·rcases n7.mp hj with hj | hj
  ·exact(Rd.qZ hc hh hd u j hj).2
  ·exact i.O j (l6 _ hj)
 ·rw[QE]
  refine⟨i.N.1,by simp,fun a ha b hb=>?_⟩
  cases j5.mp hb
  exact fun e=>hs (e▸ha)
 ·rcases n7.mp hs with hs | hs
  ·exact i.N.2 s hs
  ·cases j5.mp hs;exact⟨hh,hd⟩
 ·have h1:=i.E
  have e1:(Itm.mk h u d false::todo).length=todo.length+1:=rfl
  rw[e1] at h1
  have h2:=Rd.Cq (u:=u) (d:=d) hn hh
  rw[o7,o7]
  show found.length+_<=1+(c.n+3)*(seen.length+1)
  rw[Nat.mul_succ]
  lia
theorem L3.Cu (i:L3 c D0 found seen todo):seen.length<=(c.n+1)*(c.B+1):=by
 have h:=AW ((c.n+1)*(c.B+1)) (seen.map fun s=>s.1*(c.B+1)+s.2) ?_ fun x hx=>?_
 ·rwa [i9] at h
 ·have:∀ l:List (Nat×Nat),l.Nodup->(∀ s,s∈l->s.2<=c.B)->(l.map fun s=>s.1*(c.B+1)+s.2).Nodup:=by
   intro l
   induction l with
   | nil=>exact fun ζ ζ=>.nil
   | cons s l ih=>
    intro h1 h2
    rw[H8] at h1
    rw[N5,H8]
    refine⟨fun h=>?_,ih h1.2 fun s hs=>h2 s (l6 _ hs)⟩
    obtain⟨t,ht,e⟩:=j4.mp h
    have b1:=h2 s f9
    have b2:=h2 t (l6 _ ht)
    have e:t.1*(c.B+1)+t.2=s.1*(c.B+1)+s.2:=e
    have q1:t.1=s.1:=by
     have h1:(t.1*(c.B+1)+t.2) / (c.B+1)=t.1:=by rw[sX,QX (oY _),QT (by lia),yD]
     have h2:(s.1*(c.B+1)+s.2) / (c.B+1)=s.1:=by rw[sX,QX (oY _),QT (by lia),yD]
     rw[<-h1,<-h2,e]
    have q2:t.2=s.2:=by rw[q1] at e;lia
    exact h1.1 (by rw[show s=t from fB q1.symm q2.symm];exact ht)
  exact this seen i.N.1 fun s hs=>(i.N.2 s hs).2
 ·obtain⟨s,hs,rfl⟩:=j4.mp hx
  obtain⟨h1,h2⟩:=i.N.2 s hs
  have:s.1*(c.B+1)<=c.n*(c.B+1):=bT _ h1
  rw[FE]
  show s.1*(c.B+1)+s.2<_
  lia
end
end
end Rx.Lake
end
section
open PySem PySem.W PySem.Calls PyProof.Rows
namespace Rx.Lake
section
variable {G:Gd} {k n:Nat}
noncomputable abbrev Gs:=Int×Nat×Nat×Bool
noncomputable def sets (g:Gr) (u:List Gs):Gr:=u.foldl setG g
theorem MG (g:Gr) (u v:List Gs):sets g (u++v)=sets (sets g u) v:=List.foldl_append
noncomputable def out (g:Gr) (w:Nat×List Gs):Way:=(w.1,sets g w.2)
theorem Wf (g:Gr) (u:List Gs) (w:Nat×List Gs):out g (pre u w)=out (sets g u) w:=by unfold out pre;rw[MG]
noncomputable def Gr.ok (g:Gr):Prop:=(g.map (fun ζ=>ζ.1)).Nodup/\∀ q,q∈g->0<=q.1/\q.1<10
noncomputable def L0 (u:List Gs):Prop:=∀ q,q∈u->0<=q.1/\q.1<10
theorem Dd (p:Gs):∀(g:Gr) (q:Gs),q∈setG g p->q=p∨q∈g:=by
 intro b7
 induction b7 with
 | nil=>intro q h;exact .inl (j5.mp h)
 | cons r g ih=>
  intro q h
  have h:q∈(bif r.1==p.1 then p::g else r::setG g p):=h
  cases e:r.1==p.1<;>rw[e] at h
  ·rcases v5.mp h with h | h
   ·exact .inr (h▸f9)
   ·exact(ih q h).imp id (l6 _)
  ·rcases v5.mp h with h | h
   ·exact .inl h
   ·exact .inr (l6 _ h)
theorem aC4 (p:Gs):∀ g:Gr,(g.map (fun ζ=>ζ.1)).Nodup->((setG g p).map (fun ζ=>ζ.1)).Nodup:=by
 intro b7
 induction b7 with
 | nil=>intro _;show [p.1].Nodup;simp
 | cons r g ih=>
  intro h
  have h:(r.1::g.map (fun ζ=>ζ.1)).Nodup:=h
  rw[H8] at h
  show((bif r.1==p.1 then p::g else r::setG g p).map (fun ζ=>ζ.1)).Nodup
  cases e:r.1==p.1 with
  | true=>
   show(p.1::g.map (fun ζ=>ζ.1)).Nodup
   rw[<-eq_of_beq e,H8];exact h
  | false=>
   show(r.1::(setG g p).map (fun ζ=>ζ.1)).Nodup
   rw[H8]
   refine⟨fun hm=>?_,ih h.2⟩
   obtain⟨q,hq,e2⟩:=j4.mp hm
   rcases Dd p g q hq with rfl | hq
   ·exact absurd e2.symm (beq_eq_false_iff_ne.mp e)
   ·exact h.1 (j4.mpr ⟨q,hq,e2⟩)
theorem Gr.Vt {g:Gr} {p:Gs} (h:Gr.ok g) (hp:0<=p.1/\p.1<10):Gr.ok (setG g p):=⟨aC4 p g h.1,fun q hq=>(Dd p g q hq).elim (fun e=>e▸hp) (h.2 q)⟩
theorem Gr.KX {u:List Gs}:∀{g:Gr},Gr.ok g->L0 u->Gr.ok (sets g u):=by
 induction u with
 | nil=>exact fun h ζ=>h
 | cons p u ih=>exact fun h hu=>ih (Gr.Vt h (hu p f9)) fun q hq=>hu q (l6 _ hq)
theorem Gr.Vr {g:Gr} (h:Gr.ok g):g.length<=10:=by
 have:=AW 10 (g.map fun q=>q.1.toNat) ?_ fun x hx=>?_
 ·rwa [i9] at this
 ·have:∀ l:Gr,(l.map (fun ζ=>ζ.1)).Nodup->(∀ q,q∈l->0<=q.1)->(l.map fun q=>q.1.toNat).Nodup:=by
   intro l
   induction l with
   | nil=>exact fun ζ ζ=>.nil
   | cons s l ih=>
    intro h1 h2
    have h1:(s.1::l.map (fun ζ=>ζ.1)).Nodup:=h1
    rw[H8] at h1
    rw[N5,H8]
    refine⟨fun h=>?_,ih h1.2 fun s hs=>h2 s (l6 _ hs)⟩
    obtain⟨t,ht,e⟩:=j4.mp h
    have b1:=h2 s f9
    have b2:=h2 t (l6 _ ht)
    exact h1.1 (j4.mpr ⟨t,ht,by have e:t.1.toNat=s.1.toNat:=e;lia⟩)
  exact this g h.1 fun q hq=>(h.2 q hq).1
 ·obtain⟨q,hq,rfl⟩:=j4.mp hx
  have:=h.2 q hq
  lia
theorem HP {α β:Type} (f:Nat->α->β):∀(l:List (Nat×α)) (s:List Nat),dd s (l.map fun w=>(w.1,f w.1 w.2))=(dd s l).map fun w=>(w.1,f w.1 w.2):=by
 intro b7
 induction b7 with
 | nil=>intro _;exact rfl
 | cons w l ih=>
  intro s
  show(bif decide (w.1∈s) then dd s (l.map fun w=>(w.1,f w.1 w.2)) else(w.1,f w.1 w.2)::dd (s++[w.1]) (l.map fun w=>(w.1,f w.1 w.2)))=(bif decide (w.1∈s) then dd s l else w::dd (s++[w.1]) l).map _
  rw[ih s,ih (s++[w.1])]
  cases decide (w.1∈s)<;>rfl
theorem HR (g:Gr) (l:List (Nat×List Gs)):dd [] (l.map (out g))=(dd [] l).map (out g):=HP (fun ζ u=>sets g u) l []
noncomputable def E9 (hi:Int):Option Nat:=bif hi==-1 then none else some hi.toNat
section
variable (text:List Int)
mutual
noncomputable def N.W:N->Nat->List (Nat×List Gs)
 | .text rs fold,p=>bif (bif fold then((text.drop p).take rs.length).map small==rs.map small else(text.drop p).take rs.length==rs) then [(p+rs.length,[])] else []
 | .set g,p=>Option.casesOn text[p]? [] fun c=>bif g.any (fun q=>decide (q.1<=c)&&decide (c<=q.2)) then [(p+1,[])] else []
 | .place o,p=>bif stands o text p then [(p,[])] else []
 | .times lo hi z s,p=>dd [] (Rd.R ⟨lo.toNat,E9 hi,z,s.W,text.length⟩ 0 p)
 | .group c nm s,p=>(dd [] (s.W p)).map fun w=>(w.1,w.2++[(c,p,w.1,nm)])
 | .row l,p=>N.Wr l [(p,[])]
 | .choice l,p=>dd [] (N.Wc l p)
noncomputable def N.Wr:List N->List (Nat×List Gs)->List (Nat×List Gs)
 | [],ws=>ws
 | x::l,ws=>N.Wr l (dd [] (ws.flatMap fun w=>(x.W w.1).map (pre w.2)))
noncomputable def N.Wc:List N->Nat->List (Nat×List Gs)
 | [],_=>[]
 | x::l,p=>x.W p++N.Wc l p
end
end
mutual
noncomputable def N.good:N->Prop
 | .text _ _=>True
 | .set _=>True
 | .place _=>True
 | .times lo hi _ s=>0<=lo/\lo<=1000/\-1<=hi/\hi<=1000/\s.good
 | .group c _ s=>0<=c/\c<10/\s.good
 | .row l=>N.A3 l
 | .choice l=>l.length<=10000/\N.A3 l
noncomputable def N.A3:List N->Prop
 | []=>True
 | x::l=>x.good/\N.A3 l
end
theorem N.fH:∀{l:List N} {x:N},N.A3 l->x∈l->x.good:=by
 intro b7
 induction b7 with
 | nil=>intro b8 b9 e8;first | exact nomatch e8 | exact nomatch b9 | exact nomatch b8 | cases e8 | cases b9 | cases b8
 | cons y l IH=>
  intro x h hx
  rcases v5.mp hx with rfl | hx
  ·exact h.1
  ·exact IH h.2 hx
structure T9 (n:Nat) (f:Nat->List (Nat×List Gs)):Prop where
 r:∀ p,p<=n->∀ w,w∈f p->p<=w.1/\w.1<=n
 u:∀ p,p<=n->∀ w,w∈f p->L0 w.2
 l:∀ p,p<=n->(f p).length<=n+1
theorem jP {α:Type}:∀(l:List (Nat×α)) (s:List Nat) (w:Nat×α),w∈dd s l->w∈l/\w.1∉s:=by
 intro b7
 induction b7 with
 | nil=>intro b8 b9 e8;first | exact nomatch e8 | exact nomatch b9 | exact nomatch b8 | cases e8 | cases b9 | cases b8
 | cons v l IH=>
  intro s w h
  have h:w∈(bif decide (v.1∈s) then dd s l else v::dd (s++[v.1]) l):=h
  cases e:decide (v.1∈s)<;>rw[e] at h
  ·rcases v5.mp h with rfl | h
   ·exact⟨f9,of_decide_eq_false e⟩
   ·have:=IH _ w h
    exact⟨l6 _ this.1,fun hs=>this.2 (n7.mpr (.inl hs))⟩
  ·have:=IH _ w h
   exact⟨l6 _ this.1,this.2⟩
theorem pN {α:Type}:∀(l:List (Nat×α)) (s:List Nat),((dd s l).map (fun ζ=>ζ.1)).Nodup:=by
 intro b7
 induction b7 with
 | nil=>intro s;exact .nil
 | cons v l ih=>
  intro s
  show((bif decide (v.1∈s) then dd s l else v::dd (s++[v.1]) l).map (fun ζ=>ζ.1)).Nodup
  cases e:decide (v.1∈s)
  ·show(v.1::(dd (s++[v.1]) l).map (fun ζ=>ζ.1)).Nodup
   rw[H8]
   refine⟨fun h=>?_,ih _⟩
   obtain⟨w,hw,e⟩:=j4.mp h
   exact(jP l _ w hw).2 (n7.mpr (.inr (e▸j5.mpr rfl)))
  ·exact ih _
theorem HO {α:Type} {l:List (Nat×α)} {m:Nat} (h:∀ w,w∈l->w.1<=m):(dd [] l).length<=m+1:=by
 have:=AW (m+1) ((dd [] l).map (fun ζ=>ζ.1)) (pN l []) fun x hx=>by
  obtain⟨w,hw,rfl⟩:=j4.mp hx
  exact lX (h w (jP l _ w hw).1)
 rwa [i9] at this
theorem T9.dd {m:Nat} {f:Nat->List (Nat×List Gs)} (hr:∀ p,p<=m->∀ w,w∈f p->(p<=w.1/\w.1<=m)/\L0 w.2):T9 m fun p=>Lake.dd [] (f p):=
 ⟨fun p hp w hw=>(hr p hp w (jP _ _ w hw).1).1,fun p hp w hw=>(hr p hp w (jP _ _ w hw).1).2,fun p hp=>HO fun w hw=>(hr p hp w hw).1.2⟩
theorem rQ {u v:List Gs} (h1:L0 u) (h2:L0 v):L0 (u++v):=fun q hq=>(n7.mp hq).elim (h1 q) (h2 q)
theorem Rd.OM {c:Rd Gs} (hc:T9 c.n c.f):∀(m d p:Nat),p<=c.n->d<=c.B->∀ w,w∈c.Rr m d p->(p<=w.1/\w.1<=c.n)/\L0 w.2
 | m+1,d,p,hp,hd,w,hw=>by
  obtain⟨i,hi,hw⟩:=cY.mp hw
  obtain⟨_,a,b⟩:=c.qZ hc.r hp hd [] i hi
  have hk:p<=i.h/\L0 i.u:=by
   unfold Rd.rows at hi
   rcases n7.mp hi with hi | hi
   ·rcases n7.mp hi with hi | hi
    ·unfold Rd.fst at hi
     cases e:decide (c.lo<=d)&&c.lazy<;>rw[e] at hi
     ·cases hi
     ·cases j5.mp hi;exact⟨g7 _,fun ζ h=>absurd h A8⟩
    ·unfold Rd.kids at hi
     cases e:c.top d<;>rw[e] at hi
     ·obtain⟨v,hv,rfl⟩:=j4.mp hi
      exact⟨(hc.r p hp v hv).1,hc.u p hp v hv⟩
     ·cases hi
   ·unfold Rd.lst at hi
    cases e:decide (c.lo<=d)&&!c.lazy<;>rw[e] at hi
    ·cases hi
    ·cases j5.mp hi;exact⟨g7 _,fun ζ h=>absurd h A8⟩
  unfold Itm.kW at hw
  cases e:i.out<;>rw[e] at hw
  ·obtain⟨v,hv,rfl⟩:=j4.mp hw
   have:=OM hc m i.d i.h a b v hv
   exact⟨⟨k6 hk.1 this.1.1,this.1.2⟩,rQ hk.2 this.2⟩
  ·cases j5.mp hw
   exact⟨⟨hk.1,a⟩,hk.2⟩
theorem Yx {text rs:List Int} {p:Nat} (hp:p<=text.length) (h:((text.drop p).take rs.length).length=rs.length):p+rs.length<=text.length:=by
 rw[eZ,cW] at h;lia
theorem DO {text:List Int} {p:Nat}:∀(l:List N) (hl:∀ x,x∈l->T9 text.length (x.W text)) (ws:List (Nat×List Gs)),(∀ w,w∈ws->(p<=w.1/\w.1<=text.length)/\L0 w.2)->(∀ w,w∈N.Wr text l ws->(p<=w.1/\w.1<=text.length)/\L0 w.2)
 | [],_,_,h=>h
 | x::l,hl,ws,h=>DO l (fun y hy=>hl y (l6 _ hy)) _ fun w hw=>by
  obtain⟨v,hv,hw⟩:=cY.mp (jP _ _ w hw).1
  obtain⟨z,hz,rfl⟩:=j4.mp hw
  have h1:=h v hv
  have hx:=hl x f9
  have h2:=hx.r v.1 h1.1.2 z hz
  exact⟨⟨k6 h1.1.1 h2.1,h2.2⟩,rQ h1.2 (hx.u v.1 h1.1.2 z hz)⟩
theorem Ht {text:List Int} {p:Nat}:∀(l:List N) (hl:∀ x,x∈l->T9 text.length (x.W text)) (ws:List (Nat×List Gs)),(∀ w,w∈ws->(p<=w.1/\w.1<=text.length)/\L0 w.2)->ws.length<=text.length+1->(N.Wr text l ws).length<=text.length+1:=by
 intro b7
 induction b7 with
 | nil=>intro _ _ _ h;exact h
 | cons x l ih=>
  intro hl ws h _
  have h' (w) (hw:w∈ws.flatMap fun w=>(x.W text w.1).map (pre w.2)):(p<=w.1/\w.1<=text.length)/\L0 w.2:=by
   obtain⟨v,hv,hw⟩:=cY.mp hw
   obtain⟨z,hz,rfl⟩:=j4.mp hw
   have h1:=h v hv
   have hx:=hl x f9
   have h2:=hx.r v.1 h1.1.2 z hz
   exact⟨⟨k6 h1.1.1 h2.1,h2.2⟩,rQ h1.2 (hx.u v.1 h1.1.2 z hz)⟩
  exact ih (fun y hy=>hl y (l6 _ hy)) _ (fun w hw=>h' w (jP _ _ w hw).1) (HO fun w hw=>(h' w hw).1.2)
theorem Hp {text:List Int} {p:Nat} (hp:p<=text.length):∀(l:List N) (hl:∀ x,x∈l->T9 text.length (x.W text)) (w:Nat×List Gs),w∈N.Wc text l p->(p<=w.1/\w.1<=text.length)/\L0 w.2:=by
 intro b7
 induction b7 with
 | nil=>intro b8 b9 e8;first | exact nomatch e8 | exact nomatch b9 | exact nomatch b8 | cases e8 | cases b9 | cases b8
 | cons x l IH=>
  intro hl w h
  rcases n7.mp h with h | h
  ·have hx:=hl x f9
   exact⟨hx.r p hp w h,hx.u p hp w h⟩
  ·exact IH (fun y hy=>hl y (l6 _ hy)) w h
theorem rR:L0 []:=fun ζ h=>absurd h A8
theorem LR {n:Nat} {f:Nat->List (Nat×List Gs)} (h:∀ p,p<=n->f p=[]∨∃ e,f p=[(e,[])]/\p<=e/\e<=n):T9 n f:=by
 refine⟨fun p hp w hw=>?_,fun p hp w hw=>?_,fun p hp=>?_⟩
 ·rcases h p hp with e |⟨x,e,h1,h2⟩<;>rw[e] at hw
  ·cases hw
  ·cases j5.mp hw;exact⟨h1,h2⟩
 ·rcases h p hp with e |⟨x,e,h1,h2⟩<;>rw[e] at hw
  ·cases hw
  ·cases j5.mp hw;exact rR
 ·rcases h p hp with e |⟨x,e,h1,h2⟩<;>rw[e]
  ·exact v7 _
  ·exact u6 (v7 _)
theorem xF (text:List Int) (g:List (Int×Int)) (p:Nat):N.W text (.set g) p=Option.casesOn (motive:=fun ζ=>List (Nat×List Gs)) text[p]? [] fun c=>bif g.any (fun q=>decide (q.1<=c)&&decide (c<=q.2)) then [(p+1,[])] else []:=rfl
theorem N.nJ (text:List Int):∀ x:N,x.good->T9 text.length (x.W text):=mH fun x ih hx=>by
 induction x using N.casesOn with
 | text rs f=>
  refine LR fun p hp=>?_
  show(bif _ then _ else _)=[]∨_
  cases e:(bif f then((text.drop p).take rs.length).map small==rs.map small else(text.drop p).take rs.length==rs) with
  | false=>exact .inl rfl
  | true=>
   refine .inr ⟨_,(by show(bif _ then _ else _)=_;rw[e];rfl),H9 _ _,Yx hp ?_⟩
   induction f using Bool.casesOn with
   | true=>have:=congrArg List.length (eq_of_beq e);rwa [i9,i9] at this
   | false=>exact congrArg List.length (eq_of_beq e)
 | set g=>
  refine LR fun p hp=>?_
  show Option.casesOn (motive:=fun ζ=>List (Nat×List Gs)) text[p]? [] _=[]∨∃ x,Option.casesOn (motive:=fun ζ=>List (Nat×List Gs)) text[p]? [] _=_/\_
  cases e:text[p]? with
  | none=>exact .inl rfl
  | some c=>
   show(bif _ then _ else _)=[]∨∃ x,(bif _ then _ else _)=_/\_
   cases g.any (fun q=>decide (q.1<=c)&&decide (c<=q.2)) with
   | false=>exact .inl rfl
   | true=>exact .inr ⟨_,rfl,J5 _,(aK.mp e).1⟩
 | place o=>
  refine LR fun p hp=>?_
  show(bif stands o text p then _ else _)=[]∨∃ x,(bif stands o text p then _ else _)=_/\_
  cases stands o text p with
  | false=>exact .inl rfl
  | true=>exact .inr ⟨_,rfl,g7 _,hp⟩
 | times lo hi z s=>
  have hs:=ih s (A1 _) hx.2.2.2.2
  exact T9.dd fun p hp w hw=>Rd.OM (c:=⟨lo.toNat,E9 hi,z,s.W text,text.length⟩) hs _ _ p hp (v7 _) w hw
 | group c nm s=>
  have hs:=ih s (A1 _) hx.2.2
  have hs:=T9.dd fun p hp w hw=>⟨hs.r p hp w hw,hs.u p hp w hw⟩
  refine⟨fun p hp w hw=>?_,fun p hp w hw=>?_,fun p hp=>?_⟩
  ·obtain⟨v,hv,rfl⟩:=j4.mp hw
   exact hs.r p hp v hv
  ·obtain⟨v,hv,rfl⟩:=j4.mp hw
   exact rQ (hs.u p hp v hv) fun q hq=>by cases j5.mp hq;exact⟨hx.1,hx.2.1⟩
  ·show(List.map _ _).length<=_
   rw[i9];exact hs.l p hp
 | row l=>
  have hl (y) (hy:y∈l):=ih y (kE hy) (N.fH hx hy)
  have h0 (p) (hp:p<=text.length) (w:Nat×List Gs) (hw:w∈[(p,([]:List Gs))]):(p<=w.1/\w.1<=text.length)/\L0 w.2:=by cases j5.mp hw;exact⟨⟨g7 _,hp⟩,rR⟩
  exact⟨fun p hp w hw=>(DO l hl _ (h0 p hp) w hw).1,fun p hp w hw=>(DO l hl _ (h0 p hp) w hw).2,fun p hp=>Ht l hl _ (h0 p hp) (u6 (v7 _))⟩
 | choice l=>
  have hl (y) (hy:y∈l):=ih y (kE hy) (N.fH hx.2 hy)
  exact T9.dd fun p hp w hw=>Hp hp l hl w hw
end
section
variable {G:Gd} {k n:Nat}
noncomputable def mZ (g:Gr) (i:Itm Gs):D:=.tup [.int (i.h:Nat),w9 (sets g i.u),.int (i.d:Nat),.bool i.out]
noncomputable def pairD (s:Nat×Nat):D:=.tup [.int (s.1:Nat),.int (s.2:Nat)]
noncomputable def N9 (g:Gr) (l:List (Nat×List Gs)):List V:=S7 (l.map (out g))
noncomputable def K7 (s:List (Nat×Nat)):List V:=(s.map pairD).map V.val
noncomputable def w7 (g:Gr) (l:List (Itm Gs)):List V:=(l.map (mZ g)).map V.val
theorem zW (g:Gr) (l:List (Itm Gs)):(w7 g l).length=l.length:=by unfold w7;rw[i9,i9]
theorem uM (g:Gr) (a b:List (Itm Gs)):w7 g (a++b)=w7 g a++w7 g b:=by unfold w7;rw[o4,o4]
theorem Ss (g:Gr) (a:List (Itm Gs)):w7 g a.reverse=(w7 g a).reverse:=by unfold w7;rw[QC,QC]
theorem aB4 (l:List (Nat×Nat)):(K7 l).length=l.length:=by unfold K7;rw[i9,i9]
theorem Pw (g:Gr) (l:List (Nat×List Gs)):(N9 g l).length=l.length:=by unfold N9;rw[Fj,i9]
theorem Pu (g:Gr) (l:List (Nat×List Gs)) (h:Nat) (u:List Gs):N9 g l++[.val (.tup [.int (h:Nat),w9 (sets g u)])]=N9 g (l++[(h,u)]):=by
 unfold N9 S7;rw[o4,o4,o4];rfl
theorem aB3 (l:List (Nat×Nat)) (h d:Nat):K7 l++[.val (.tup [.int (h:Nat),.int (d:Nat)])]=K7 (l++[(h,d)]):=by
 unfold K7;rw[o4,o4];rfl
theorem Zb (h d:Nat):∀ s:List (Nat×Nat),pin (.tup [.int (h:Nat),.int (d:Nat)]) (s.map pairD)=some (decide ((h,d)∈s)):=by
 intro b7
 induction b7 with
 | nil=>simp[pin]
 | cons n s ih=>
  show(some (((((n.1:Nat):Int)==(h:Nat))&&((((n.2:Nat):Int)==(d:Nat))&&true))&&true)).bind (fun a=>(pin (.tup [.int (h:Nat),.int (d:Nat)]) (s.map pairD)).map fun y=>a||y)=_
  rw[ih,F7,F7]
  show some (((((n.1:Nat):Int)==(h:Nat))&&(((n.2:Nat):Int)==(d:Nat)))||decide ((h,d)∈s))=_
  congr 1
  by_cases e:(h,d)=n
  ·subst e;simp
  ·have:((((n.1:Nat):Int)==(h:Nat))&&(((n.2:Nat):Int)==(d:Nat)))=false:=by
    cases e1:(((n.1:Nat):Int)==(h:Nat)) with
    | false=>rfl
    | true=>
     cases e2:(((n.2:Nat):Int)==(d:Nat)) with
     | false=>rfl
     | true=>
      have e1:=eq_of_beq e1
      have e2:=eq_of_beq e2
      exact absurd (fB (by lia) (by lia)) e
   refine this▸?_
   simp[e]
theorem zI {m:Nat} {mu d8:List M} {v:V} {d:D} (h:fz m mu v=some (d,d8)):G6 (fz m) mu [v]=some ([d],d8):=by
 show(fz m mu v).bind _=_
 rw[h];rfl
noncomputable def Kc:S:=j8 mF 2
noncomputable def tN:List S:=(j8 (j8 Kc.l5 1).els 0).l5
noncomputable def pJ:S:=j8 (j8 tN 2).l5 0
noncomputable def rv (DT SB TX AT GR:D) (lo:Nat) (hi:Option Nat) (lz:Bool) (r:List (Option V)):List (Option V):=
 v_ DT::v_ SB::v_ TX::v_ AT::v_ GR::v_ (.int (lo:Nat))::v_ (.int (q9 hi))::v_ (.bool lz)::some (.loc 0)::some (.loc 1)::some (.loc 2)::r
noncomputable def qB (DT SB TX AT GR HD BD:D) (lo:Nat) (hi:Option Nat) (lz:Bool) (h d:Nat) (mT se nU rows:List V):St:=
 ⟨rv DT SB TX AT GR lo hi lz [v_ (.int (h:Nat)),v_ HD,v_ (.int (d:Nat)),v_ BD,some (.loc 4),none,none,none],[.list mT,.list se,.list nU,.list [],.list rows]⟩
theorem Td (DT SB TX AT GR HD BD:D) (lo:Nat) (hi:Option Nat) (lz:Bool) (c:Rd Gs) (g:Gr) (hc1:c.lo=lo) (hc2:c.hi=hi) (h d:Nat) (u:List Gs) (mT se nU:List V) (Q:Fl->St->Prop)
  (ws:List (Nat×List Gs)) (rows:List (Itm Gs)) (hb:rows.length+ws.length<=d9)
  (fin:(wp G k 10).x [] (qB DT SB TX AT GR HD BD lo hi lz h d mT se nU (w7 g (rows++ws.map (c.kid h u d)))) Q) :
  fo (wp G k 10) pJ.tgt pJ.l5 [] Q (ws.map fun w=>q7 (out (sets g u) w)) (qB DT SB TX AT GR HD BD lo hi lz h d mT se nU (w7 g rows)):=by
 let st (r:List (Itm Gs)):St:=qB DT SB TX AT GR HD BD lo hi lz h d mT se nU (w7 g r)
 let wd:Nat×List Gs->D:=fun w=>q7 (out (sets g u) w)
 let I:List D->St->Prop:=fun ds σ=>∃(eF:List (Nat×List Gs)) (rows':List (Itm Gs)),ds=eF.map wd/\rows'++eF.map (c.kid h u d)=rows++ws.map (c.kid h u d)/\rows'.length+eF.length<=d9/\σ=st rows'
 refine gS (G:=G) (k:=k) (i:=10) (t:=pJ.tgt) (b:=pJ.l5) (rest:=[]) (ds:=ws.map wd) (Q:=Q) [16,17,18] I ⟨ws,rows,rfl,rfl,hb,rfl⟩ ?_ ?_
 ·rintro dd rs σ₁ ⟨eF,rows',e,hd,hn,rfl⟩ _
  cases eF with
  | nil=>cases e
  | cons w eF=>
  injection e with e1 e2
  subst e1 e2
  let J:St->Prop:=Let 5 [16,17,18] (I (eF.map wd))
  let g':=sets (sets g u) w.2
  let A (nd:Int) (v:Bool):Prop:=j7 (Nat.blt (w7 g rows').length d9) (J ⟨rv DT SB TX AT GR lo hi lz [v_ (.int (h:Nat)),v_ HD,v_ (.int (d:Nat)),v_ BD,some (.loc 4),v_ (.int (w.1:Nat)),v_ (w9 g'),v_ (.bool v)],
   [.list mT,.list se,.list nU,.list [],.list (w7 g rows'++[.val (.tup [.int (w.1:Nat),w9 g',.int nd,.bool v])])]⟩)
  let c1:Bool:=q9 hi==-1
  let c2:Bool:=decide ((d:Int)≥(lo:Int))
  let c3:Bool:=((w.1:Nat):Int)==(h:Int)
  have hk1:c1=c.hi.isNone:=by
   refine hc2▸?_
   induction hi using Option.casesOn with
   | none=>rfl
   | some x=>show(((x:Nat):Int)==-1)=false;rw[beq_eq_false_iff_ne];lia
  have hk2:c2=decide (c.lo<=d):=by rw[hc1];simp[c2]
  have Rl:c3=decide (w.1=h):=by
   show(((w.1:Nat):Int)==(h:Int))=_
   by_cases e:w.1=h
   ·rw[decide_eq_true e,e,beq_self_eq_true]
   ·rw[decide_eq_false e,beq_eq_false_iff_ne];lia
  have hn:rows'.length+(eF.length+1)<=d9:=hn
  have a (nd:Nat) (v:Bool) (hnd:nd=bif c.O9 d then d else d+1) (hv:v=(c.O9 d&&decide (w.1=h))):A (nd:Nat) v:=by
   refine s9 (n6.mpr (by rw[zW];lia)) ⟨none,eF,rows'++[c.kid h u d w],rfl,?_,?_,?_⟩
   ·rw[D9];exact hd
   ·rw[o7];show rows'.length+1+_<=_;lia
   ·have e:w7 g (rows'++[c.kid h u d w])=w7 g rows'++[.val (.tup [.int (w.1:Nat),w9 g',.int (nd:Nat),.bool v])]:=by
     rw[uM,hnd,hv]
     show w7 g rows'++[V.val (.tup [.int (w.1:Nat),w9 (sets g (u++w.2)),_,_])]=_
     rw[MG];rfl
    show _=qB DT SB TX AT GR HD BD lo hi lz h d mT se nU _
    rw[e];rfl
  let Y (v:Bool):Prop:=br c1 (br c2 (A (d:Int) v) (A ((d:Int)+1) v)) (A ((d:Int)+1) v)
  have hu:c.O9 d=(c1&&c2):=by rw[hk1,hk2];rfl
  have y (v:Bool) (hv:v=(c.O9 d&&decide (w.1=h))):Y v:=by
   refine g8 (fun e1=>g8 (fun e2=>a d v ?_ hv) fun e2=>a (d+1) v ?_ hv) fun e1=>a (d+1) v ?_ hv
   ·rw[hu,e1,e2];rfl
   ·rw[hu,e1,e2];rfl
   ·rw[hu,e1];rfl
  have q:br c1 (br c2 (Y c3) (Y c2)) (Y c1):=by
   refine g8 (fun e1=>g8 (fun e2=>y _ ?_) fun e2=>y _ ?_) fun e1=>y _ ?_
   ·rw[hu,e1,e2,Rl];rfl
   ·rw[hu,e1,e2];rfl
   ·rw[hu,e1];rfl
  exact kc q
 ·rintro σ₁ ⟨eF,rows',e,hd,hn,rfl⟩ _
  cases eF with
  | cons _ _=>cases e
  | nil=>
  have hd:rows'++[]=rows++ws.map (c.kid h u d):=hd
  rw[u9] at hd
  refine hd▸?_
  exact fin
end
section
variable {G:Gd} {k n:Nat}
theorem Sz (a b c:M) (r:List M):cI 3 [] (a::b::c::r)=[M.re 3 [] 0 0 a,M.re 3 [] 1 1 b,M.re 3 [] 2 2 c]:=by induction r using List.casesOn<;>rfl
theorem AL {σ:Type} (l:List (Nat×List σ)):l.map (pre [])=l:=by
 have:(pre ([]:List σ))=id:=by funext w;rfl
 rw[this,QA]
noncomputable def rd (text:List Int) (s:N) (lo:Nat) (hi:Option Nat) (lz:Bool):Rd Gs:=⟨lo,hi,lz,s.W text,text.length⟩
theorem Yg (X:FX G) (text:List Int) (s:N) (m:Nat) (hm:1<=m) (hs:T9 text.length (s.W text)) (ht:text.length<=3)
  (hW:∀ p,p<=text.length->∀ g:Gr,Gr.ok g->At G m 546 [s.d,n5 text,.int (p:Nat),w9 g] (.lst ((s.W text p).map fun w=>q7 (out g w))))
  (lo:Nat) (hi:Option Nat) (lz:Bool) (hB:(rd text s lo hi lz).B<=1000) (p:Nat) (hp:p<=text.length) (g:Gr) (hg:Gr.ok g) :
  At G (m+1) 541 [.tup [.int (lo:Nat),.int (q9 hi),.bool lz],s.d,n5 text,.int (p:Nat),w9 g] (.lst ((dd [] ((rd text s lo hi lz).R 0 p)).map fun w=>q7 (out g w))):=by
 refine fnAt X (b:=mF) (by rfl) (by rfl) fun k h=>?_
 let c:=rd text s lo hi lz
 let R:=D.lst ((dd [] (c.R 0 p)).map fun w=>q7 (out g w))
 let D0:=dd [] ((c.R 0 p).map (pre []))
 let DT:D:=.tup [.int (lo:Nat),.int (q9 hi),.bool lz]
 let SB:=s.d
 let TX:=n5 text
 let AT:D:=.int (p:Nat)
 let GR:=w9 g
 let st (found:List (Nat×List Gs)) (seen:List (Nat×Nat)) (todo:List (Itm Gs)):St:=
  ⟨rv DT SB TX AT GR lo hi lz [none,none,none,none,none,none,none,none],[.list (N9 g found),.list (K7 seen),.list (w7 g todo.reverse)]⟩
 let ms (seen:List (Nat×Nat)) (todo:List (Itm Gs)):Nat:=((text.length+1)*(c.B+1)-seen.length)*(text.length+4)+todo.length
 let I:Nat->St->Prop:=fun m σ=>∃(found:List (Nat×List Gs)) (seen:List (Nat×Nat)) (todo:List (Itm Gs)),m=ms seen todo/\L3 c D0 found seen todo/\(∀ i,i∈todo->L0 i.u)/\σ=st found seen todo
 let l5:=(j8 mF 2).l5
 have cap (found:List (Nat×List Gs)) (seen:List (Nat×Nat)) (todo:List (Itm Gs)) (i:L3 c D0 found seen todo):found.length+todo.length<=30000/\seen.length<=30000:=by
  have h1:=i.E
  have h2:=i.Cu
  have h3:(c.n+1)*(c.B+1)<=4*1001:=jG (by show text.length+1<=4;lia) (u6 hB)
  have h4:(c.n+3)*seen.length<=6*(4*1001):=jG (by show text.length+3<=6;lia) (by lia)
  lia
 have lim (x:Nat) (h:x<=60000):Nat.ble x d9=true:=n6.mpr (k6 h (by decide))
 have JP (x:Nat) (h:x<=60000):Nat.blt x d9=true:=n6.mpr (k6 (u6 h) (by decide))
 refine kc (rW (G:=G) (k:=k) (i:=17) (b:=mF) (j:=2) (rest:=mF.drop 3) (vars:=rv DT SB TX AT GR lo hi lz [none,none,none,none,none,none,none,none]) (mu:=[.list [],.list [],.list [.val (mZ g ⟨p,[],0,false⟩)]]) (Q:=f6 R) [11,12,13,14,15,16,17,18] I
  (ms [] [⟨p,[],0,false⟩]) ⟨[],[],[⟨p,[],0,false⟩],rfl,L3.start hp [],fun i hi=>(by cases j5.mp hi;exact rR),rfl⟩ ?_)
 rintro m' σ₁ ⟨found,seen,todo,rfl,hS,hu,rfl⟩ _
 let J:St->Prop:=Let 3 [11,12,13,14,15,16,17,18] fun σ''=>∃ m',m'<ms seen todo/\I m' σ''
 have jj (found':List (Nat×List Gs)) (seen':List (Nat×Nat)) (todo':List (Itm Gs)) (h1:L3 c D0 found' seen' todo') (h2:∀ i,i∈todo'->L0 i.u) (h3:ms seen' todo'<ms seen todo) (r1 r2 r3 r4 r5 r6 r7 r8:Option V) (r:List M) :
   J ⟨rv DT SB TX AT GR lo hi lz [r1,r2,r3,r4,r5,r6,r7,r8],.list (N9 g found')::.list (K7 seen')::.list (w7 g todo'.reverse)::r⟩:=by
  refine Z8 [] (st found' seen' todo') rfl ?_ ⟨_,h3,found',seen',todo',rfl,h1,h2,rfl⟩
  unfold St.pick
  rw[Sz]
  unfold N9 S7 K7 w7
  rw[qW,qW,qW];rfl
 refine kc (ne_nil (c:=2) (m:=3) (ds:=todo.reverse.map (mZ g)) (vs:=rv DT SB TX AT GR lo hi lz [none,none,none,none,none,none,none,none]) (mu:=[.list (N9 g found),.list (K7 seen),.list (w7 g todo.reverse),.list []])
  (Q:=fun v σ''=>x7 v σ'' fun b σ'=>br b ((wp G k 17).x l5 σ' (again (f6 R) J)) ((wp G k 17).x (mF.drop 3) σ' (f6 R))) rfl rfl ?_)
 obtain⟨hc1,hc2⟩:=cap found seen todo hS
 induction todo using List.casesOn with
 | nil=>
  have e:D.lst ((dd [] (found.map (out g))).map q7)=R:=by
   rw[HR,hS.done]
   show D.lst (List.map q7 (List.map (out g) (dd [] ((c.R 0 p).map (pre [])))))=_
   rw[AL,A6];rfl
  refine kc (j6 (f:=fun x=>cal G k 534 x.1 fun d=>d=R) (zI (bZ (c:=0) (ds:=(found.map (out g)).map q7) (mu:=[.list (N9 g found),.list (K7 seen),.list [],.list []]) rfl))
   (J0 (LN X (found.map (out g)) (by rw[i9];have:d9=1000000:=rfl;lia)) (k6 hm h) e))
 | cons it todo=>
  rw[show(it::todo).reverse=todo.reverse++[it] from jF]
  have ne:(!((todo.reverse++[it]).map (mZ g)).isEmpty)=true:=by rw[o4];cases todo.reverse.map (mZ g)<;>rfl
  show x7 (.val (.bool (!((todo.reverse++[it]).map (mZ g)).isEmpty))) _ _
  refine ne▸?_
  have hl:(w7 g (todo.reverse++[it])).getLast?=some (.val (mZ g it)):=by rw[uM];exact oV
  have hd:(w7 g (todo.reverse++[it])).dropLast=w7 g todo.reverse:=by rw[uM];exact oS
  refine kc (j6 (f:=fun v=>C6 (.tup [11,12,13,14]) v ⟨rv DT SB TX AT GR lo hi lz [none,none,none,none,none,none,none,none],[.list (N9 g found),.list (K7 seen),.list (w7 g (todo.reverse++[it])).dropLast,.list []]⟩
   fun σ''=>(wp G k 16).x (l5.drop 1) σ'' (again (f6 R) J)) hl ?_)
  refine hd▸?_
  have hc1:found.length+(todo.length+1)<=30000:=hc1
  have hu1:=hu it f9
  have IX:∀ i,i∈todo->L0 i.u:=fun i hi=>hu i (l6 _ hi)
  obtain⟨h_,u,d,o⟩:=it
  have hu1:L0 u:=hu1
  let gu:=sets g u
  induction o using Bool.casesOn with
  | true=>
   have q:j7 (Nat.blt (N9 g found).length d9) (J ⟨rv DT SB TX AT GR lo hi lz [v_ (.int (h_:Nat)),v_ (w9 gu),v_ (.int (d:Nat)),v_ (.bool true),none,none,none,none],
     [.list (N9 g found++[.val (.tup [.int (h_:Nat),w9 gu])]),.list (K7 seen),.list (w7 g todo.reverse),.list []]⟩):=by
    refine s9 (JP _ (by rw[Pw];lia)) ?_
    rw[Pu]
    exact jj _ _ _ hS.outs IX (A1 _) _ _ _ _ _ _ _ _ _
   exact kc q
  | false=>
   let D5:List (Option V):=rv DT SB TX AT GR lo hi lz [v_ (.int (h_:Nat)),v_ (w9 gu),v_ (.int (d:Nat)),v_ (.bool false),none,none,none,none]
   let Qb:Fl->St->Prop:=l8 (wp G k 14) [] (l8 (wp G k 15) [] (again (f6 R) J))
   let I2 (se:List V):List M:=[.list (N9 g found),.list se,.list (w7 g todo.reverse),.list []]
   let Gi:Prop:=(wp G k 14).x tN ⟨D5,I2 (K7 seen)⟩ Qb
   have q:oe (M8 (pk 6 (I2 (K7 seen))) (K7 seen)) fun ds=>oe (pin (.tup [.int (h_:Nat),.int (d:Nat)]) ds) fun r=>br (!r) Gi (J ⟨D5,I2 (K7 seen)⟩):=by
    refine j6 (KD (LQ 6 _) _) (j6 (Zb h_ d seen) (g8 (fun e=>?_) fun e=>?_))
    ·have hns:(h_,d)∉seen:=of_decide_eq_false (V2 e)
     have hN:=L3.news (c:=c) hs.r hs.l hS hns
     obtain⟨hh,hd'⟩:=hS.O _ f9
     have hh:h_<=text.length:=hh
     obtain⟨hr1,hr2⟩:=cap _ _ _ hN
     rw[o7] at hr1
     let rows:=c.rows h_ u d
     have hr1:found.length+(rows.length+todo.length)<=30000:=hr1
     let MD:=K7 (seen++[(h_,d)])
     let zY:V:=.val (.tup [.int (h_:Nat),w9 gu,.int (d:Nat),.bool true])
     let c2:Bool:=decide ((d:Int)≥(lo:Int))
     have hk2:c2=decide (c.lo<=d):=by show decide ((d:Int)≥(lo:Int))=decide (lo<=d);simp
     let ks (r:List V):St:=qB DT SB TX AT GR (w9 gu) (.bool false) lo hi lz h_ d (N9 g found) MD (w7 g todo.reverse) r
     let Z (r:List V):Prop:=((none:Option Int)=none/\(none:Option Int)=none/\(-1:Int)=-1)/\j7 (Nat.ble ((w7 g todo.reverse).length+r.reverse.length) d9&&true)
      (J ⟨(ks r).vars,[.list (N9 g found),.list MD,.list (w7 g todo.reverse++r.reverse),.list [],.list r,.list r.reverse]⟩)
     have z:Z (w7 g rows):=by
      refine⟨⟨rfl,rfl,rfl⟩,s9 (Q:=False) ?_ ?_⟩
      ·rw[F7,jE,zW,zW,jE]
       exact lim _ (by lia)
      ·have e1:w7 g todo.reverse++(w7 g rows).reverse=w7 g (rows++todo).reverse:=by rw[List.reverse_append,uM,Ss g rows]
       refine e1▸?_
       refine jj found _ _ hN (fun i hi=>?_) ?_ _ _ _ _ _ _ _ _ _
       ·rcases n7.mp hi with hi | hi
        ·have hi:i∈c.rows h_ u d:=hi
         rw[c.Cr h_ u d] at hi
         obtain⟨j,hj,rfl⟩:=j4.mp hi
         refine rQ hu1 ?_
         unfold Rd.rows at hj
         rcases n7.mp hj with hj | hj
         ·rcases n7.mp hj with hj | hj
          ·unfold Rd.fst at hj
           cases e:decide (c.lo<=d)&&c.lazy<;>rw[e] at hj
           ·cases hj
           ·cases j5.mp hj;exact rR
          ·unfold Rd.kids at hj
           cases e:c.top d<;>rw[e] at hj
           ·obtain⟨v,hv,rfl⟩:=j4.mp hj
            exact hs.u h_ hh v hv
           ·cases hj
         ·unfold Rd.lst at hj
          cases e:decide (c.lo<=d)&&!c.lazy<;>rw[e] at hj
          ·cases hj
          ·cases j5.mp hj;exact rR
        ·exact IX i hi
       ·have h1:=hN.Cu
        rw[o7] at h1
        have h1:seen.length+1<=(text.length+1)*(c.B+1):=h1
        have h2:rows.length<=text.length+3:=Rd.Cq hs.l hh
        show((text.length+1)*(c.B+1)-(seen++[(h_,d)]).length)*(text.length+4)+(rows++todo).length<((text.length+1)*(c.B+1)-seen.length)*(text.length+4)+(todo.length+1)
        rw[o7,o7]
        show((text.length+1)*(c.B+1)-(seen.length+1))*(text.length+4)+(rows.length+todo.length)<_
        have h3:(text.length+1)*(c.B+1)-seen.length=((text.length+1)*(c.B+1)-(seen.length+1))+1:=Dy (by assumption)
        refine h3▸?_
        generalize (text.length+1)*(c.B+1)-(seen.length+1)=A
        rw[jH]
        lia
     let kL:=c.fst h_ u d++c.kids h_ u d
     have Ru:kL.length<=rows.length:=k6 (H9 _ _) (I0 (o7 (as:=kL) (bs:=c.lst h_ u d)).symm)
     let Fin (r:List V):Prop:=br c2 (br (!lz) (j7 (Nat.blt r.length d9) (Z (r++[zY]))) (Z r)) (Z r)
     have fin:Fin (w7 g kL):=by
      have e1 (b:Bool) (hb:(decide (c.lo<=d)&&!c.lazy)=b):w7 g rows=bif b then w7 g kL++[zY] else w7 g kL:=by
       show w7 g (kL++c.lst h_ u d)=_
       rw[uM]
       unfold Rd.lst
       rw[hb]
       induction b using Bool.casesOn
       ·exact u9 _
       ·rfl
      have hcl:c.lazy=lz:=rfl
      refine g8 (fun a=>g8 (fun b=>s9 (JP _ (by rw[zW];lia)) ?_) fun b=>?_) fun a=>?_
      ·have:=e1 true (by rw[<-hk2,a,hcl,b];rfl)
       rw[this] at z;exact z
      ·have:=e1 false (by rw[<-hk2,a,hcl,b];rfl)
       rw[this] at z;exact z
      ·have:=e1 false (by rw[<-hk2,a];rfl)
       rw[this] at z;exact z
     let ct:Bool:=(d:Int)==q9 hi
     have hct:ct=c.top d:=by
      show((d:Int)==q9 hi)=Option.casesOn hi false fun h=>decide (d=h)
      induction hi using Option.casesOn with
      | none=>show((d:Int)==-1)=false;rw[beq_eq_false_iff_ne];lia
      | some x=>
       show((d:Int)==(x:Int))=decide (d=x)
       by_cases e:d=x
       ·rw[decide_eq_true e,e,beq_self_eq_true]
       ·rw[decide_eq_false e,beq_eq_false_iff_ne];lia
     let aA0:=tN.drop 3
     let Qk:Fl->St->Prop:=l8 (wp G k 11) aA0 Qb
     let S2 (r:List V):Prop:=br (!ct) (cal G k 546 [SB,TX,.int (h_:Nat),w9 gu] fun x=>oe x.seq? fun ds=>fo (wp G k 10) pJ.tgt pJ.l5 [] Qk ds (ks r)) ((wp G k 11).x [] (ks r) Qk)
     have s2:S2 (w7 g (c.fst h_ u d)):=by
      refine g8 (fun e=>?_) fun e=>?_
      ·have e2:kL=c.fst h_ u d++((s.W text h_).map (c.kid h_ u d)):=by
        show c.fst h_ u d++c.kids h_ u d=_
        unfold Rd.kids
        rw[<-hct,V2 e];rfl
       refine J0 (hW h_ hh gu (Gr.KX hg hu1)) h (j6 (x:=(s.W text h_).map fun w=>q7 (out gu w)) rfl ?_)
       refine Td DT SB TX AT GR (w9 gu) (.bool false) lo hi lz c g rfl rfl h_ d u (N9 g found) MD (w7 g todo.reverse) Qk (s.W text h_) (c.fst h_ u d) ?_ ?_
       ·have:d9=1000000:=rfl
        rw[e2,o7,i9] at Ru
        lia
       ·rw[e2] at fin
        exact kc fin
      ·have e2:kL=c.fst h_ u d:=by
        show c.fst h_ u d++c.kids h_ u d=_
        unfold Rd.kids
        rw[<-hct,aA e];exact u9 _
       rw[e2] at fin
       exact kc fin
     let T2 (r:List V):Prop:=j7 true ((wp G k 12).x (tN.drop 2) (ks r) Qb)
     have t2 (r:List V) (x:S2 r):T2 r:=kc x
     have f1 (b:Bool) (hb:(decide (c.lo<=d)&&c.lazy)=b):w7 g (c.fst h_ u d)=bif b then [zY] else []:=by
      unfold Rd.fst
      rw[hb]
      induction b using Bool.casesOn<;>rfl
     let T3 (se r:List V):Prop:=j7 true ((wp G k 12).x (tN.drop 2) (qB DT SB TX AT GR (w9 gu) (.bool false) lo hi lz h_ d (N9 g found) se (w7 g todo.reverse) r) Qb)
     have t3 (r:List V) (hr:w7 g (c.fst h_ u d)=r):T3 (K7 seen++[.val (.tup [.int (h_:Nat),.int (d:Nat)])]) r:=by
      rw[aB3,<-hr]
      exact t2 _ s2
     have q:j7 (Nat.blt (K7 seen).length d9) (br c2 (br lz (T3 (K7 seen++[.val (.tup [.int (h_:Nat),.int (d:Nat)])]) [zY]) (T3 (K7 seen++[.val (.tup [.int (h_:Nat),.int (d:Nat)])]) [])) (T3 (K7 seen++[.val (.tup [.int (h_:Nat),.int (d:Nat)])]) [])):=by
      refine s9 (JP _ (by rw[aB4];lia)) (g8 (fun a=>g8 (fun b=>t3 _ ?_) fun b=>t3 _ ?_) fun a=>t3 _ ?_)
      ·exact f1 true (by rw[<-hk2,a];exact b)
      ·exact f1 false (by rw[<-hk2,a];exact b)
      ·exact f1 false (by rw[<-hk2,a];rfl)
     exact kc q
    ·have hin:(h_,d)∈seen:=of_decide_eq_true (aA e)
     exact jj _ _ _ (hS.skip hin) IX (A1 _) _ _ _ _ _ _ _ _ _
   exact kc q
end
section
variable {G:Gd} {k n:Nat}
theorem Bm:∀(a b:List Int),a.length=b.length->E7 (a.map D.int) (b.map D.int)=some (a==b)
 | [],[],_=>rfl
 | x::a,u::b,h=>by
  have ih:=Bm a b (by simpa using h)
  show(some (x==u)).bind (fun x=>(E7 (a.map D.int) (b.map D.int)).map fun y=>x&&y)=_
  rw[ih];rfl
theorem Bh (a b:List Int):B8 (n5 a) (n5 b)=some (a==b):=by
 induction b using List.casesOn with
 | nil=>induction a using List.casesOn<;>rfl
 | cons y b=>
  show(bif (a.map D.int).length==(D.int y::b.map D.int).length then E7 (a.map D.int) ((y::b).map D.int) else some false)=_
  by_cases h:a.length=(y::b).length
  ·rw[show((a.map D.int).length==(D.int y::b.map D.int).length)=true by simpa using h]
   exact Bm a (y::b) h
  ·rw[show((a.map D.int).length==(D.int y::b.map D.int).length)=false by simpa using h]
   show some false=_
   have:(a==y::b)=false:=beq_eq_false_iff_ne.mpr fun e=>h (by rw[e])
   rw[this]
theorem Ni:∀ a:List Int,deps (a.map D.int)=0:=by
 intro b7
 induction b7 with
 | nil=>exact rfl
 | cons x a ih=>show max 0 (deps (a.map D.int))=0;rw[ih];rfl
theorem VM (a:List Int):Nat.ble (dep (n5 a)) 90=true:=by
 show Nat.ble (deps (a.map D.int)+1) 90=true
 rw[Ni];rfl
end
section
variable {G:Gd} {k n:Nat}
noncomputable def wR (text:List Int) (x:N) (p:Nat) (g:Gr):D:=.lst ((x.W text p).map fun w=>q7 (out g w))
noncomputable def wA (text:List Int) (x:N) (p:Nat) (g:Gr):List D:=[x.d,n5 text,.int (p:Nat),w9 g]
theorem w_text (X:FX G) (text rs:List Int) (f:Bool) (p:Nat) (hp:p<=text.length) (g:Gr):At G 2 546 (wA text (.text rs f) p g) (wR text (.text rs f) p g):=by
 refine fnAt X (b:=Z1) (by rfl) (by rfl) fun k h=>?_
 let R:=wR text (.text rs f) p g
 let L:Nat:=((rs.map D.int).map V.val).length
 let pc:=(text.drop p).take rs.length
 let Fin (r:Bool):Prop:=br r (D.lst [.tup [.int ((p:Int)+(L:Nat)),w9 g]]=R) (D.lst []=R)
 have hL:L=rs.length:=nB rs
 have fin (r:Bool) (hr:r=bif f then pc.map small==rs.map small else pc==rs):Fin r:=by
  have hR:R=D.lst ((bif r then [(p+rs.length,([]:List Gs))] else []).map fun w=>q7 (out g w)):=by rw[hr];rfl
  show br r (_=R) (_=R)
  rw[hR]
  refine g8 (fun e=>?_) fun e=>?_
  ·rw[e,hL];rfl
  ·rw[e];rfl
 have q (P:D) (hP:P=n5 pc):br f (cal G k 520 [P] fun a=>cal G k 520 [n5 rs] fun b=>oe (B8 a b) fun r=>j7 (Nat.ble (dep b) 90) (Fin r)) (oe (B8 P (n5 rs)) fun r=>j7 (Nat.ble (dep (n5 rs)) 90) (Fin r)):=by
  subst hP
  refine g8 (fun e=>?_) fun e=>?_
  ·exact J0 (Az X pc) (by omega) (J0 (Az X rs) (by omega) (j6 (Bh _ _) (s9 (VM _) (fin _ (by rw[e];rfl)))))
  ·exact j6 (Bh _ _) (s9 (VM _) (fin _ (by rw[e];rfl)))
 refine kc (q (.lst (B3 (text.map D.int) (some (p:Int)) (some ((p:Int)+(L:Nat))))) ?_)
 rw[VC _ _ _ (by rw[i9];exact hp),hL,<-sU,<-xZ];rfl
theorem aK1 (X:FX G) (text:List Int) (o:Int) (p:Nat) (hp:p<=text.length) (g:Gr):At G 2 546 (wA text (.place o) p g) (wR text (.place o) p g):=by
 refine fnAt X (b:=Z1) (by rfl) (by rfl) fun k h=>?_
 let R:=wR text (.place o) p g
 have q:br (stands o text p) (D.lst [.tup [.int (p:Nat),w9 g]]=R) (D.lst []=R):=by
  have hR:R=D.lst ((bif stands o text p then [(p,([]:List Gs))] else []).map fun w=>q7 (out g w)):=rfl
  rw[hR]
  exact g8 (fun e=>by rw[e];rfl) fun e=>by rw[e];rfl
 exact kc (J0 (Ye X o text p hp) (by omega) q:cal G k 527 [.int o,n5 text,.int (p:Nat)] fun d=>oe (V.bool? (.val d)) fun b=>br b (D.lst [.tup [.int (p:Nat),w9 g]]=R) (D.lst []=R))
theorem aK4 (X:FX G) (text:List Int) (lo hi:Int) (z:Bool) (s:N) (p:Nat) (hp:p<=text.length) (g:Gr) (hg:Gr.ok g) (ht:text.length<=3) (hx:(N.times lo hi z s).good) (m:Nat) (hm:1<=m)
  (ih:∀ p,p<=text.length->∀ g:Gr,Gr.ok g->At G m 546 (wA text s p g) (wR text s p g)):At G (m+2) 546 (wA text (.times lo hi z s) p g) (wR text (.times lo hi z s) p g):=by
 refine fnAt X (b:=Z1) (by rfl) (by rfl) fun k h=>?_
 let R:=wR text (.times lo hi z s) p g
 obtain⟨h1,h2,h3,h4,h5⟩:=hx
 have e1:((lo.toNat:Nat):Int)=lo:=by lia
 have e2:q9 (E9 hi)=hi:=by
  unfold E9
  cases e:hi==-1 with
  | true=>exact(eq_of_beq e).symm
  | false=>
   have:hi≠-1:=beq_eq_false_iff_ne.mp e
   show((hi.toNat:Nat):Int)=hi
   lia
 have hB:(rd text s lo.toNat (E9 hi) z).B<=1000:=by
  show(Option.casesOn (E9 hi) lo.toNat id:Nat)<=1000
  unfold E9
  cases e:hi==-1 with
  | true=>show lo.toNat<=1000;lia
  | false=>show hi.toNat<=1000;lia
 have c:=Yg X text s m hm (s.nJ text h5) ht ih lo.toNat (E9 hi) z hB p hp g hg
 rw[e1,e2] at c
 exact kc (J0 c h (rfl:_=R):cal G k 541 [.tup [.int lo,.int hi,.bool z],s.d,n5 text,.int (p:Nat),w9 g] fun d=>d=R)
end
section
variable {G:Gd} {k n:Nat}
noncomputable def JA (c:Int) (gs:List (Int×Int)):List D:=(gs.map fun q=>bif decide (q.1<=c)&&decide (c<=q.2) then [D.int q.1] else []).flatten
theorem Si (c:Int):∀ gs:List (Int×Int),(!(JA c gs).isEmpty)=gs.any fun q=>decide (q.1<=c)&&decide (c<=q.2):=by
 intro b7
 induction b7 with
 | nil=>exact rfl
 | cons q gs ih=>
  have ih:=ih
  show(!((bif decide (q.1<=c)&&decide (c<=q.2) then [D.int q.1] else [])++JA c gs).isEmpty)=_
  refine sQ▸?_
  cases decide (q.1<=c)&&decide (c<=q.2) with
  | true=>rfl
  | false=>exact ih
theorem aB8 {text:List Int} {p:Nat} {c:Int} {q:Int×Int} {A B:Prop} (h:text[p]?=some c) (x:br (decide (q.1<=c)&&decide (c<=q.2)) A B) :
  oe (L6 ((text.map D.int).map V.val) (p:Int)) fun v=>oe (V.int? v) fun y=>br (decide (q.1<=y)) (oe (V.int? v) fun y'=>br (decide (y'<=q.2)) A B) (br (decide (q.1<=y)) A B):=by
 refine j6 (Cw text p c h) (j6 (x:=c) rfl (g8 (fun e=>j6 (x:=c) rfl ?_) fun e=>U8 e ?_))
 ·rw[e] at x;exact x
 ·rw[e] at x;exact x
noncomputable def Kd:List S:=(j8 Z1 2).l5
theorem aK3 (X:FX G) (text:List Int) (gs:List (Int×Int)) (p:Nat) (hp:p<=text.length) (g:Gr):At G 2 546 (wA text (.set gs) p g) (wR text (.set gs) p g):=by
 refine fnAt X (b:=Z1) (by rfl) (by rfl) fun k h=>?_
 let R:=wR text (.set gs) p g
 let L:Nat:=((text.map D.int).map V.val).length
 have hL:L=text.length:=nB text
 let Fin (r:Bool):Prop:=br r (D.lst [.tup [.int ((p:Int)+1),w9 g]]=R) (D.lst []=R)
 have fin (r:Bool) (hr:((N.set gs).W text p)=bif r then [(p+1,([]:List Gs))] else []):Fin r:=by
  have hR:R=D.lst ((bif r then [(p+1,([]:List Gs))] else []).map fun w=>q7 (out g w)):=by show D.lst (((N.set gs).W text p).map _)=_;rw[hr]
  show br r (_=R) (_=R)
  refine hR▸?_
  exact g8 (fun e=>by rw[e];rfl) fun e=>by rw[e];rfl
 let TX:=n5 text
 let vs:List (Option V):=[v_ (N.set gs).d,v_ TX,v_ (.int (p:Nat)),v_ (w9 g),v_ (.str (w5 "set")),v_ (A7 gs),v_ (.lst []),none,none,none,none,none]
 let body:=J3 (wp G k 13) [none,v_ TX,v_ (.int (p:Nat)),none,none,none,none,none,none,none,none,none,none,none] 0 (.var 12) (.tup [12,13]) [.cmp (.var 12) [.LtE,.LtE] [.idx (.var 1) (.var 2),.var 13]]
 let K:List D->List M->Prop:=fun acc mu=>(wp G k 14).e (.lst []) ⟨vs,mu⟩ fun b σ'=>S8 .NotEq (.val (.lst acc)) b σ' fun c σ''=>C6 (.var 9) c σ'' fun σ3=>(wp G k 16).x (Kd.drop 1) σ3 (l8 (wp G k 17) (Z1.drop 3) (f6 R))
 have q:br (decide ((p:Int)<(L:Int))) (z7 body (gs.map z8) [] [] K) (Fin (decide ((p:Int)<(L:Int)))):=by
  refine g8 (fun e=>?_) fun e=>?_
  ·obtain⟨c,hc⟩:=GD (text:=text) (a:=p) (by have:=of_decide_eq_true e;lia)
   refine II (body:=body) (mu:=[]) (K:=K) z8 (fun q=>bif decide (q.1<=c)&&decide (c<=q.2) then [D.int q.1] else []) gs (fun q hq a K' hk=>?_) [] ?_
   ·refine kc (aB8 (q:=q) (A:=K' (a++[.int q.1]) []) (B:=K' a []) hc ?_) (by kernel_rfl)
    cases e:decide (q.1<=c)&&decide (c<=q.2) with
    | true=>rw[e] at hk;exact hk
    | false=>rw[e] at hk;have hk:K' (a++[]) []:=hk;rw[u9] at hk;exact hk
   ·have f:=fin (!(JA c gs).isEmpty) (by
     rw[Si]
     rw[xF]
     rw[hc])
    exact kc f
  ·refine e▸?_
   refine fin false ?_
   have:text[p]?=none:=List.getElem?_eq_none (by have:=of_decide_eq_false e;lia)
   rw[xF]
   rw[this];rfl
 exact kc q
end
section
variable {G:Gd} {k n:Nat}
theorem WZ {inner:D->List D->List M->(List D->List M->Prop)->Prop} {mu:List M} (hi:∀ d acc (K:List D->List M->Prop),K (acc++[d]) mu->inner d acc mu K):∀(ds acc:List D) (K:List D->List M->Prop),acc.length+ds.length<=d9->K (acc++ds) mu->
  z7 (fun d acc mu K=>j7 (Nat.blt acc.length d9) (inner d acc mu K)) ds acc mu K:=by
 intro b7
 induction b7 with
 | nil=>intro acc K _ h;rw[u9] at h;exact h
 | cons d ds ih=>
  intro acc K hl h
  have hl:acc.length+(ds.length+1)<=d9:=hl
  refine s9 (Q:=False) (n6.mpr (by lia)) (hi d acc _ (ih _ K ?_ ?_))
  ·rw[o7];show acc.length+1+_<=_;lia
  ·rw[D9];exact h
theorem WY {body:D->List D->List M->(List D->List M->Prop)->Prop} {mu:List M} {K:List D->List M->Prop} {α:Type} (f:α->D) (g:α->List D):∀(l:List α)
  (hb:∀ a,a∈l->∀ acc (K:List D->List M->Prop),acc.length+(g a).length<=d9->K (acc++g a) mu->body (f a) acc mu K) (acc:List D),acc.length+(l.map g).flatten.length<=d9->K (acc++(l.map g).flatten) mu->z7 body (l.map f) acc mu K:=by
 intro b7
 induction b7 with
 | nil=>
  intro _ acc _ h
  have h:K (acc++[]) mu:=h
  rw[u9] at h
  exact h
 | cons a l ih=>
  intro hb acc hl h
  have hl:acc.length+(g a++(l.map g).flatten).length<=d9:=hl
  rw[o7] at hl
  refine hb a f9 acc _ (by lia) (ih (fun b hb'=>hb b (l6 _ hb')) _ ?_ (by
   have h:K (acc++(g a++(l.map g).flatten)) mu:=h
   rw[<-D9] at h
   exact h))
  rw[o7];lia
noncomputable def wl (text:List Int) (g:Gr) (y:N) (p:Nat):List D:=(y.W text p).map fun w=>q7 (out g w)
theorem OO (text:List Int) (g:Gr) (p:Nat):∀ l:List N,(l.map fun y=>wl text g y p).flatten=((N.Wc text l p).map (out g)).map q7:=by
 intro b7
 induction b7 with
 | nil=>exact rfl
 | cons x l ih=>
  show wl text g x p++(l.map fun y=>wl text g y p).flatten=((x.W text p++N.Wc text l p).map (out g)).map q7
  rw[ih,o4,o4]
  congr 1
  unfold wl
  rw[A6];rfl
theorem Ho {text:List Int} {p:Nat} (hp:p<=text.length):∀(l:List N) (hl:∀ x,x∈l->T9 text.length (x.W text)),(N.Wc text l p).length<=l.length*(text.length+1):=by
 intro b7
 induction b7 with
 | nil=>intro _;exact v7 _
 | cons x l ih=>
  intro hl
  have h1:=(hl x f9).l p hp
  have h2:=ih fun y hy=>hl y (l6 _ hy)
  show(x.W text p++N.Wc text l p).length<=(l.length+1)*_
  rw[o7,jH];lia
theorem aJ9 (X:FX G) (text:List Int) (l:List N) (p:Nat) (hp:p<=text.length) (g:Gr) (hg:Gr.ok g) (ht:text.length<=3) (hx:(N.choice l).good) (m:Nat) (hm:1<=m)
  (ih:∀ y,y∈l->∀ p,p<=text.length->∀ g:Gr,Gr.ok g->At G m 546 (wA text y p g) (wR text y p g)):At G (m+1) 546 (wA text (.choice l) p g) (wR text (.choice l) p g):=by
 refine fnAt X (b:=Z1) (by rfl) (by rfl) fun k h=>?_
 let R:=wR text (.choice l) p g
 let TX:=n5 text
 let ix (y:Option V):List (Option V):=[none,v_ TX,v_ (.int (p:Nat)),v_ (w9 g),none,none,none,none,none,none,y,none,none]
 let body:=zB (wp G k 11) (ix none) 0 (.var 12) (.var 10) [] (.var 12) (.call 546 [.var 10,.var 1,.var 2,.var 3]) []
 let K:List D->List M->Prop:=fun acc mu=>cal G k 534 [.lst acc] fun d=>d=R
 have hl (y) (hy:y∈l):=y.nJ text (N.fH hx.2 hy)
 have hlen:=Ho hp l hl
 have hlen2:l.length*(text.length+1)<=10000*4:=jG hx.1 (by lia)
 have zN:d9=1000000:=rfl
 refine kc (show z7 body (N.ds l) [] [] K from ?_)
 rw[N.G5]
 refine WY (body:=body) (mu:=[]) (K:=K) N.d (fun y=>wl text g y p) l (fun y hy acc K' hk1 hk=>?_) [] ?_ ?_
 ·refine kc (J0 (d:=wR text y p g) (ih y hy p hp g hg) h (j6 (x:=wl text g y p) rfl (WZ (mu:=[]) (inner:=fun d acc mu K=>J3 (wp G k 11) (ix (v_ y.d)) 0 (.var 12) (.var 12) [] d acc mu K) (fun d acc K hk=>kc hk) (wl text g y p) acc (fun acc' d8=>K' acc' (cut 0 d8)) hk1 hk)) :
   cal G k 546 [y.d,TX,.int (p:Nat),w9 g] fun r=>oe r.seq? fun ds=>z7 (fun d acc mu K=>j7 (Nat.blt acc.length d9) (J3 (wp G k 11) (ix (v_ y.d)) 0 (.var 12) (.var 12) [] d acc mu K)) ds acc [] fun acc' d8=>K' acc' (cut 0 d8)) (by kernel_rfl)
 ·rw[OO,i9,i9]
  show 0+_<=_
  lia
 ·rw[OO]
  refine J0 (LN X _ (by rw[i9];lia)) (k6 hm h) ?_
  rw[HR,A6];rfl
end
section
variable {G:Gd} {k n:Nat}
noncomputable def yT:S:=j8 Z1 7
noncomputable def vX (kd:Str) (da:D) (l:List N) (TX:D) (p:Nat) (g:Gr) (y v:Option V):List (Option V):=
 [v_ (nd kd da (N.ds l)),v_ TX,v_ (.int (p:Nat)),v_ (w9 g),v_ (.str kd),v_ da,v_ (.lst (N.ds l)),none,none,none,y,v]
noncomputable def Sw (kd:Str) (da:D) (l:List N) (TX:D) (p:Nat) (g:Gr) (ws:List (Nat×List Gs)) (σ:St):Prop:=
 (ws=[(p,[])]/\σ=⟨vX kd da l TX p g none (some (.loc 0)),[.list [.val (q7 (p,g))]]⟩)∨
 σ=⟨vX kd da l TX p g none (v_ (.lst (ws.map fun w=>q7 (out g w)))),[.frozen (.lst [q7 (p,g)])]⟩
theorem OP (text:List Int) (g:Gr) (y:N):∀ ws:List (Nat×List Gs),(ws.map fun w=>wl text (sets g w.2) y w.1).flatten=((ws.flatMap fun w=>(y.W text w.1).map (pre w.2)).map (out g)).map q7:=by
 intro b7
 induction b7 with
 | nil=>exact rfl
 | cons w ws ih=>
  show wl text (sets g w.2) y w.1++(ws.map fun w=>wl text (sets g w.2) y w.1).flatten=_
  rw[ih,cU,o4,o4]
  congr 1
  unfold wl
  rw[A6,A6]
  congr 1
  funext v
  show q7 (out (sets g w.2) v)=q7 (out g (pre w.2 v))
  rw[Wf]
theorem Hr {text:List Int} {y:N} (hy:T9 text.length (y.W text)):∀ ws:List (Nat×List Gs),(∀ w,w∈ws->w.1<=text.length)->(ws.flatMap fun w=>(y.W text w.1).map (pre w.2)).length<=ws.length*(text.length+1):=by
 intro b7
 induction b7 with
 | nil=>intro _;exact v7 _
 | cons w ws ih=>
  intro h
  have h1:=hy.l w.1 (h w f9)
  have h2:=ih fun v hv=>h v (l6 _ hv)
  rw[cU,o7,i9]
  show _<=(ws.length+1)*_
  rw[jH];lia
theorem Fi (X:FX G) (text:List Int) (l:List N) (kd:Str) (da:D) (p:Nat) (hp:p<=text.length) (g:Gr) (hg:Gr.ok g) (ht:text.length<=3) (hl:∀ x,x∈l->T9 text.length (x.W text)) (m:Nat) (hm:1<=m)
  (ih:∀ y,y∈l->∀ p,p<=text.length->∀ g:Gr,Gr.ok g->At G m 546 (wA text y p g) (wR text y p g)) (h:m<=k) (R:D)
  (fin:∀ σ,Sw kd da l (n5 text) p g (N.Wr text l [(p,[])]) σ->(wp G k 12).x (Z1.drop 8) σ (f6 R)) :
  fo (wp G k 12) yT.tgt yT.l5 (Z1.drop 8) (f6 R) (N.ds l) ⟨vX kd da l (n5 text) p g none (some (.loc 0)),[.list [.val (q7 (p,g))]]⟩:=by
 let TX:=n5 text
 let S_ (ws:List (Nat×List Gs)) (σ:St):Prop:=Sw kd da l TX p g ws σ
 let I:List D->St->Prop:=fun ds σ=>∃(l':List N) (ws:List (Nat×List Gs)),ds=N.ds l'/\(∀ y,y∈l'->y∈l)/\N.Wr text l' ws=N.Wr text l [(p,[])]/\(∀ w,w∈ws->(p<=w.1/\w.1<=text.length)/\L0 w.2)/\ws.length<=text.length+1/\S_ ws σ
 refine gS (G:=G) (k:=k) (i:=12) (t:=yT.tgt) (b:=yT.l5) (rest:=Z1.drop 8) (ds:=N.ds l) (Q:=f6 R) [10] I
  ⟨l,[(p,[])],rfl,fun ζ h=>h,rfl,fun w hw=>(by cases j5.mp hw;exact⟨⟨g7 _,hp⟩,rR⟩),u6 (v7 _),.inl ⟨rfl,rfl⟩⟩ ?_ ?_
 ·rintro dd_ rs σ₁ ⟨l',ws,e,hm',hW,hb,hn,hS⟩ _
  cases l' with
  | nil=>cases e
  | cons y l'=>
  injection e with e1 e2
  subst e1 e2
  have hy:=hm' y f9
  let J:St->Prop:=Let 1 [10] (I (N.ds l'))
  let F:M:=.frozen (.lst [q7 (p,g)])
  let ix (a b:Option V):List (Option V):=[none,v_ TX,none,none,none,none,none,none,none,none,v_ y.d,none,a,b,none]
  let body:=zB (wp G k 9) (ix none none) 1 (.var 14) (.tup [12,13]) [] (.var 14) (.call 546 [.var 10,.var 1,.var 12,.var 13]) []
  let K:List D->List M->Prop:=fun acc mu=>cal G k 534 [.lst acc] fun d=>j7 true ((wp G k 11).x [] ⟨vX kd da l TX p g (v_ y.d) (v_ d),mu⟩ (again (f6 R) J))
  have aM6:=Hr (hl y hy) ws fun w hw=>(hb w hw).1.2
  have hlen2:ws.length*(text.length+1)<=4*4:=jG (by lia) (by lia)
  have zN:d9=1000000:=rfl
  have main:z7 body (ws.map fun w=>q7 (out g w)) [] [F] K:=by
   refine WY (body:=body) (mu:=[F]) (K:=K) (fun w=>q7 (out g w)) (fun w=>wl text (sets g w.2) y w.1) ws (fun w hw acc K' hk1 hk=>?_) [] ?_ ?_
   ·obtain⟨⟨_,hw1⟩,uH⟩:=hb w hw
    let g':=sets g w.2
    let ix':=ix (v_ (.int (w.1:Nat))) (v_ (w9 g'))
    refine kc (J0 (d:=wR text y w.1 g') (ih y hy w.1 hw1 g' (Gr.KX hg uH)) h (j6 (x:=wl text g' y w.1) rfl (WZ (mu:=[F]) (inner:=fun d acc mu K=>J3 (wp G k 9) ix' 1 (.var 14) (.var 14) [] d acc mu K) (fun d acc K hk=>kc hk) (wl text g' y w.1) acc (fun acc' d8=>K' acc' (cut 1 d8)) hk1 hk)) :
     cal G k 546 [y.d,TX,.int (w.1:Nat),w9 g'] fun r=>oe r.seq? fun ds=>z7 (fun d acc mu K=>j7 (Nat.blt acc.length d9) (J3 (wp G k 9) ix' 1 (.var 14) (.var 14) [] d acc mu K)) ds acc [F] fun acc' d8=>K' acc' (cut 1 d8))
   ·rw[OP,i9,i9]
    show 0+_<=_
    lia
   ·rw[OP]
    refine J0 (LN X _ (by rw[i9];lia)) (k6 hm h) ?_
    rw[HR,A6]
    have hok (w) (hw:w∈ws.flatMap fun w=>(y.W text w.1).map (pre w.2)):(p<=w.1/\w.1<=text.length)/\L0 w.2:=by
     obtain⟨v,hv,hw⟩:=cY.mp hw
     obtain⟨z,hz,rfl⟩:=j4.mp hw
     have h1:=hb v hv
     have h2:=(hl y hy).r v.1 h1.1.2 z hz
     exact⟨⟨k6 h1.1.1 h2.1,h2.2⟩,rQ h1.2 ((hl y hy).u v.1 h1.1.2 z hz)⟩
    let D1:=D.lst ((dd [] (ws.flatMap fun w=>(y.W text w.1).map (pre w.2))).map fun w=>q7 (out g w))
    have j:J ⟨vX kd da l TX p g (v_ y.d) (v_ D1),[F]⟩:=⟨none,l',_,rfl,fun x hx=>hm' x (l6 _ hx),hW,fun w hw=>hok w (jP _ _ w hw).1,HO fun w hw=>(hok w hw).1.2,.inr rfl⟩
    exact kc j
  rcases hS with⟨rfl,rfl⟩ | rfl
  ·exact kc main (by kernel_rfl)
  ·exact kc main (by kernel_rfl)
 ·rintro σ₁ ⟨l',ws,e,hm',hW,hb,hn,hS⟩ _
  cases l' with
  | cons _ _=>cases e
  | nil=>
  have hW:ws=_:=hW
  rw[hW] at hS
  exact fin σ₁ hS
end
section
variable {G:Gd} {k n:Nat}
theorem aK2 (X:FX G) (text:List Int) (l:List N) (p:Nat) (hp:p<=text.length) (g:Gr) (hg:Gr.ok g) (ht:text.length<=3) (hx:(N.row l).good) (m:Nat) (hm:1<=m)
  (ih:∀ y,y∈l->∀ p,p<=text.length->∀ g:Gr,Gr.ok g->At G m 546 (wA text y p g) (wR text y p g)):At G (m+1) 546 (wA text (.row l) p g) (wR text (.row l) p g):=by
 refine fnAt X (b:=Z1) (by rfl) (by rfl) fun k h=>?_
 let R:=wR text (.row l) p g
 have hl (y) (hy:y∈l):=y.nJ text (N.fH hx hy)
 refine kc (Fi X text l (w5 "row") .none p hp g hg ht hl m hm ih h R fun σ hS=>?_)
 rcases hS with⟨e,rfl⟩ | rfl
 ·have q:D.lst [q7 (p,g)]=R:=by
   show _=D.lst ((N.Wr text l [(p,[])]).map fun w=>q7 (out g w))
   rw[e];rfl
  exact kc q
 ·exact kr R (by kernel_rfl)
theorem aK0 (X:FX G) (text:List Int) (c:Int) (nm:Bool) (s:N) (p:Nat) (hp:p<=text.length) (g:Gr) (hg:Gr.ok g) (ht:text.length<=3) (hx:(N.group c nm s).good) (m:Nat) (hm:1<=m)
  (ih:∀ p,p<=text.length->∀ g:Gr,Gr.ok g->At G m 546 (wA text s p g) (wR text s p g)):At G (m+1) 546 (wA text (.group c nm s) p g) (wR text (.group c nm s) p g):=by
 refine fnAt X (b:=Z1) (by rfl) (by rfl) fun k h=>?_
 let R:=wR text (.group c nm s) p g
 let da:D:=.tup [.int c,G9 nm]
 have hs:=s.nJ text hx.2.2
 have hl (y) (hy:y∈[s]):T9 text.length (y.W text):=by cases j5.mp hy;exact hs
 refine kc (Fi X text [s] (w5 "group") da p hp g hg ht hl m hm (fun y hy=>by cases j5.mp hy;exact ih) h R fun σ hS=>?_)
 let ws:=N.Wr text [s] [(p,[])]
 have ew:ws=dd [] (s.W text p):=by
  show dd [] ((s.W text p).map (pre [])++[])=_
  rw[u9,AL]
 let F:M:=.frozen (.lst [q7 (p,g)])
 let body:=J3 (wp G k 9) [none,none,v_ (.int (p:Nat)),none,none,v_ da,none,none,none,none,none,none,none,none] 1 (.tup [.var 12,.call 553 [.var 13,.var 5,.var 2,.var 12]]) (.tup [12,13]) []
 let K:List D->List M->Prop:=fun acc mu=>D.lst acc=R
 have main:z7 body (ws.map fun w=>q7 (out g w)) [] [F] K:=by
  refine Z3 (body:=body) (mu:=[F]) (K:=K) (fun w=>q7 (out g w)) (fun w=>.tup [.int (w.1:Nat),w9 (setG (sets g w.2) (c,p,w.1,nm))]) ws (fun w hw acc K' hk=>?_) [] ?_
  ·rw[ew] at hw
   have hu:=hs.u p hp w (jP _ _ w hw).1
   have hlen:=Gr.Vr (Gr.KX hg hu)
   exact kc (J0 (Yi X (sets g w.2) c nm p w.1 (by have:d9=1000000:=rfl;lia)) (k6 hm h) hk:cal G k 553 [w9 (sets g w.2),da,.int (p:Nat),.int (w.1:Nat)] fun d=>K' (acc++[.tup [.int (w.1:Nat),d]]) [F])
  ·show D.lst (ws.map _)=D.lst (((dd [] (s.W text p)).map fun w=>(w.1,w.2++[(c,p,w.1,nm)])).map fun w=>q7 (out g w))
   rw[<-ew,A6]
   congr 2
   funext w
   show _=q7 (w.1,sets g (w.2++[(c,p,w.1,nm)]))
   rw[MG];rfl
 rcases hS with⟨e,rfl⟩ | rfl
 ·have main:z7 body (ws.map fun w=>q7 (out g w)) [] [F] K:=main
  rw[show ws=[(p,[])] from e] at main
  exact kc main
 ·exact kc main (by kernel_rfl)
theorem N.h_pos (x:N):1<=x.h:=by induction x using N.casesOn<;>exact u6 (v7 _)
theorem Ba (X:FX G) (text:List Int) (ht:text.length<=3):∀ x:N,x.good->∀ p,p<=text.length->∀ g:Gr,Gr.ok g->At G (2*x.h) 546 (wA text x p g) (wR text x p g):=mH fun x ih hx p hp g hg=>by
 induction x using N.casesOn with
 | text rs f=>exact w_text X text rs f p hp g
 | set gs=>exact aK3 X text gs p hp g
 | place o=>exact aK1 X text o p hp g
 | times lo hi z s=>exact aK4 X text lo hi z s p hp g hg ht hx (2*s.h) (by have:=s.h_pos;lia) (ih s (A1 _) hx.2.2.2.2)
 | group c nm s=>exact aK0 X text c nm s p hp g hg ht hx (2*s.h+1) (by lia) fun p hp g hg=>(ih s (A1 _) hx.2.2 p hp g hg).up (J5 _)
 | row l=>exact aK2 X text l p hp g hg ht hx (2*N.hs l+1) (by lia) fun y hy p hp g hg=>(ih y (kE hy) (N.fH hx hy) p hp g hg).up (by have:=N.aX hy;lia)
 | choice l=>exact aJ9 X text l p hp g hg ht hx (2*N.hs l+1) (by lia) fun y hy p hp g hg=>(ih y (kE hy) (N.fH hx.2 hy) p hp g hg).up (by have:=N.aX hy;lia)
end
section
variable {G:Gd} {k n:Nat}
noncomputable def digits:Int->List Int->List Int
 | _,[]=>[]
 | x,b::l=>x.fmod b::digits (x.fdiv b) l
noncomputable def J9 (l:List Int):List V:=(l.map D.int).map V.val
theorem Sk (l:List Int):(J9 l).length=l.length:=nB l
theorem Sj (l:List Int) (x:Int):J9 l++[.val (.int x)]=J9 (l++[x]):=by unfold J9;rw[o4,o4];rfl
theorem Aw (X:FX G) (x:Int) (bs:List Int) (hb:∀ b,b∈bs->0<b/\b<1000000) (hl:bs.length<d9):At G 1 457 [.int x,n5 bs] (n5 (digits x bs)):=by
 refine fnAt X (b:=tK) (by rfl) (by rfl) fun k h=>?_
 let R:=n5 (digits x bs)
 let st (y:Int) (f:List Int):St:=⟨[v_ (.int y),v_ (n5 bs),some (.loc 0),none],[.list (J9 f)]⟩
 let I:List D->St->Prop:=fun ds σ=>∃(l:List Int) (y:Int) (f:List Int),ds=l.map D.int/\(∀ b,b∈l->b∈bs)/\f++digits y l=digits x bs/\f.length+l.length<=bs.length/\σ=st y f
 refine kc (gS (G:=G) (k:=k) (i:=18) (t:=(j8 tK 1).tgt) (b:=(j8 tK 1).l5) (rest:=tK.drop 2) (ds:=bs.map D.int) (vars:=[v_ (.int x),v_ (n5 bs),some (.loc 0),none]) (mu:=[.list []]) (Q:=f6 R) [3] I
  ⟨bs,x,[],rfl,fun ζ h=>h,rfl,I0 (W4 _),rfl⟩ ?_ ?_)
 ·rintro d rs σ₁ ⟨l,y,f,e,hm,hd,hn,rfl⟩ _
  induction l using List.casesOn with
  | nil=>cases e
  | cons b l=>
  injection e with e1 e2
  subst e1 e2
  have hb':=hb b (hm b f9)
  have hn:f.length+(l.length+1)<=bs.length:=hn
  let J:St->Prop:=Let 1 [3] (I (l.map D.int))
  have q:b≠0/\j7 (Nat.blt (J9 f).length d9) ((0<b/\b<1000000)/\J ⟨[v_ (.int (y.fdiv b)),v_ (n5 bs),some (.loc 0),v_ (.int b)],[.list (J9 f++[.val (.int (y.fmod b))])]⟩):=by
   refine⟨by lia,s9 (n6.mpr (by rw[Sk];lia)) ⟨hb',?_⟩⟩
   rw[Sj]
   refine⟨none,l,y.fdiv b,f++[y.fmod b],rfl,fun c hc=>hm c (l6 _ hc),?_,?_,rfl⟩
   ·rw[D9];exact hd
   ·rw[o7];show f.length+1+_<=_;lia
  exact kc q
 ·rintro σ₁ ⟨l,y,f,e,hm,hd,hn,rfl⟩ _
  induction l using List.casesOn with
  | cons _ _=>cases e
  | nil=>
  have hd:f++[]=digits x bs:=hd
  rw[u9] at hd
  refine kc (j6 (f:=fun x=>x.1=R) (bZ (c:=0) (ds:=f.map D.int) (mu:=[.list (J9 f)]) rfl) ?_)
  show D.lst (f.map D.int)=n5 _
  rw[hd];rfl
end
section
variable {G:Gd} {k n:Nat}
noncomputable def fl (la:Bool):Fg:=⟨false,la,false⟩
noncomputable def bY (la:Bool):Fg:=⟨true,la,false⟩
noncomputable def f7 (x:N×T):D:=.tup [x.1.d,x.2.d]
noncomputable def vZ (r:Int) (la:Bool):N×T:=(.text [r] false,.lit r (fl la))
noncomputable def vY (g:List (Int×Int)) (la:Bool):N×T:=(.set g,.cls g (fl la))
noncomputable def A2 (la:Bool):Nat->N×T
 | 0=>vZ 97 la
 | 1=>vZ 98 la
 | 2=>(.text [97] true,.lit 97 (bY la))
 | 3=>vY [(97,98)] la
 | 4=>vY [(65,65),(97,97)] la
 | 5=>vY [] la
 | 6=>vY [(0,255)] la
 | 7=>vY [(0,1114111)] la
 | 8=>(.set [(0,1114111)],.leaf .mD (fl la))
 | 9=>(.set [(0,1114111)],.leaf .tC (fl la))
 | 14=>vZ 98 la
 | 15=>vZ 98 la
 | _=>vZ 97 la
theorem Xw (X:FX G) (la:Bool) (w:Nat) (hw:w<16):At G 5 464 [.int (w:Nat),.int (fl la).i] (f7 (A2 la w)):=by
 refine fnAt X (b:=TG) (by rfl) (by rfl) fun k h=>?_
 let R:=f7 (A2 la w)
 let Kt (x:D):D->Prop:=fun d=>D.tup [x,d]=R
 match w,hw with
 | 0,_=>exact kc (e9 (fun d=>D.tup [(A2 la 0).1.d,d]=f7 (A2 la 0)) (dS X 97 (fl la)) h rfl)
 | 1,_=>exact kc (e9 (fun d=>D.tup [(A2 la 1).1.d,d]=f7 (A2 la 1)) (dS X 98 (fl la)) h rfl)
 | 2,_=>
  induction la using Bool.casesOn with
  | false=>exact kc (e9 (fun d=>D.tup [(A2 false 2).1.d,d]=f7 (A2 false 2)) (dS X 97 (bY false)) h rfl)
  | true=>exact kc (e9 (fun d=>D.tup [(A2 true 2).1.d,d]=f7 (A2 true 2)) (dS X 97 (bY true)) h rfl)
 | 3,_=>exact kc (e9 (fun d=>D.tup [(A2 la 3).1.d,d]=f7 (A2 la 3)) (vS X [(97,98)] (fl la)) h rfl)
 | 4,_=>exact kc (e9 (fun d=>D.tup [(A2 la 4).1.d,d]=f7 (A2 la 4)) (vS X [(65,65),(97,97)] (fl la)) h rfl)
 | 5,_=>exact kc (e9 (fun d=>D.tup [(A2 la 5).1.d,d]=f7 (A2 la 5)) (vS X [] (fl la)) h rfl)
 | 6,_=>exact kc (e9 (fun d=>D.tup [(A2 la 6).1.d,d]=f7 (A2 la 6)) (vS X [(0,255)] (fl la)) h rfl)
 | 7,_=>exact kc (e9 (fun d=>D.tup [(A2 la 7).1.d,d]=f7 (A2 la 7)) (vS X [(0,1114111)] (fl la)) h rfl)
 | 8,_=>exact kc (e9 (fun d=>D.tup [(A2 la 8).1.d,d]=f7 (A2 la 8)) (cH X .mD (fl la)) h rfl)
 | 9,_=>exact kc (e9 (fun d=>D.tup [(A2 la 9).1.d,d]=f7 (A2 la 9)) (cH X .tC (fl la)) h rfl)
 | 10,_=>exact kc (e9 (fun d=>D.tup [(A2 la 10).1.d,d]=f7 (A2 la 10)) (dS X 97 (fl la)) h rfl)
 | 11,_=>exact kc (e9 (fun d=>D.tup [(A2 la 11).1.d,d]=f7 (A2 la 11)) (dS X 97 (fl la)) h rfl)
 | 12,_=>exact kc (e9 (fun d=>D.tup [(A2 la 12).1.d,d]=f7 (A2 la 12)) (dS X 97 (fl la)) h rfl)
 | 13,_=>exact kc (e9 (fun d=>D.tup [(A2 la 13).1.d,d]=f7 (A2 la 13)) (dS X 97 (fl la)) h rfl)
 | 14,_=>exact kc (e9 (fun d=>D.tup [(A2 la 14).1.d,d]=f7 (A2 la 14)) (dS X 98 (fl la)) h rfl)
 | 15,_=>exact kc (e9 (fun d=>D.tup [(A2 la 15).1.d,d]=f7 (A2 la 15)) (dS X 98 (fl la)) h rfl)
 | w+16,hw=>exact absurd hw (by lia)
end
section
variable {G:Gd} {k n:Nat}
noncomputable def BY (rs:List Int) (la:Bool):N×T:=(.text rs false,.str rs (fl la))
noncomputable def BZ (rs:List Int) (la:Bool):N×T:=(.text rs true,.str rs (bY la))
noncomputable def leafOf (la:Bool):Nat->N×T
 | 0=>(.place 14,.leaf .bol (fl la))
 | 1=>(.place 15,.leaf .zF (fl la))
 | 2=>(.place 18,.leaf .bot (fl la))
 | 3=>(.place 19,.leaf .zG (fl la))
 | 4=>(.place 16,.leaf .word (fl la))
 | 5=>(.place 17,.leaf .AV (fl la))
 | 6=>(.text [] false,.leaf .empty (fl la))
 | 7=>(.set [],.leaf .iG (fl la))
 | 8=>BY [97,98] la
 | 9=>BY [97,97,98] la
 | 10=>BY [98,97] la
 | 11=>BY [97,97] la
 | 12=>BZ [97,98] la
 | 13=>BZ [97,97,98] la
 | 14=>BZ [98,97] la
 | _=>BZ [97,97] la
theorem Xy (X:FX G) (la:Bool) (w:Nat) (hw:w<16):At G 5 471 [.int (w:Nat),.int (fl la).i] (f7 (leafOf la w)):=by
 refine fnAt X (b:=TH) (by rfl) (by rfl) fun k h=>?_
 match w,hw with
 | 0,_=>exact kc (e9 (fun d=>D.tup [(leafOf la 0).1.d,d]=f7 (leafOf la 0)) (cH X .bol (fl la)) h rfl)
 | 1,_=>exact kc (e9 (fun d=>D.tup [(leafOf la 1).1.d,d]=f7 (leafOf la 1)) (cH X .zF (fl la)) h rfl)
 | 2,_=>exact kc (e9 (fun d=>D.tup [(leafOf la 2).1.d,d]=f7 (leafOf la 2)) (cH X .bot (fl la)) h rfl)
 | 3,_=>exact kc (e9 (fun d=>D.tup [(leafOf la 3).1.d,d]=f7 (leafOf la 3)) (cH X .zG (fl la)) h rfl)
 | 4,_=>exact kc (e9 (fun d=>D.tup [(leafOf la 4).1.d,d]=f7 (leafOf la 4)) (cH X .word (fl la)) h rfl)
 | 5,_=>exact kc (e9 (fun d=>D.tup [(leafOf la 5).1.d,d]=f7 (leafOf la 5)) (cH X .AV (fl la)) h rfl)
 | 6,_=>exact kc (e9 (fun d=>D.tup [(leafOf la 6).1.d,d]=f7 (leafOf la 6)) (cH X .empty (fl la)) h rfl)
 | 7,_=>exact kc (e9 (fun d=>D.tup [(leafOf la 7).1.d,d]=f7 (leafOf la 7)) (cH X .iG (fl la)) h rfl)
 | 8,_=>exact kc (⟨by decide,e9 (fun d=>D.tup [(leafOf la 8).1.d,d]=f7 (leafOf la 8)) (bK X [97,98] (fl la)) h rfl⟩:(4:Int)≠0/\cal G k 80 _ fun d=>D.tup [(leafOf la 8).1.d,d]=f7 (leafOf la 8))
 | 9,_=>exact kc (⟨by decide,e9 (fun d=>D.tup [(leafOf la 9).1.d,d]=f7 (leafOf la 9)) (bK X [97,97,98] (fl la)) h rfl⟩:(4:Int)≠0/\cal G k 80 _ fun d=>D.tup [(leafOf la 9).1.d,d]=f7 (leafOf la 9))
 | 10,_=>exact kc (⟨by decide,e9 (fun d=>D.tup [(leafOf la 10).1.d,d]=f7 (leafOf la 10)) (bK X [98,97] (fl la)) h rfl⟩:(4:Int)≠0/\cal G k 80 _ fun d=>D.tup [(leafOf la 10).1.d,d]=f7 (leafOf la 10))
 | 11,_=>exact kc (⟨by decide,e9 (fun d=>D.tup [(leafOf la 11).1.d,d]=f7 (leafOf la 11)) (bK X [97,97] (fl la)) h rfl⟩:(4:Int)≠0/\cal G k 80 _ fun d=>D.tup [(leafOf la 11).1.d,d]=f7 (leafOf la 11))
 | 12,_=>
  induction la using Bool.casesOn with
  | false=>exact kc (⟨by decide,e9 (fun d=>D.tup [(leafOf false 12).1.d,d]=f7 (leafOf false 12)) (bK X [97,98] (bY false)) h rfl⟩:(4:Int)≠0/\cal G k 80 _ fun d=>D.tup [(leafOf false 12).1.d,d]=f7 (leafOf false 12))
  | true=>exact kc (⟨by decide,e9 (fun d=>D.tup [(leafOf true 12).1.d,d]=f7 (leafOf true 12)) (bK X [97,98] (bY true)) h rfl⟩:(4:Int)≠0/\cal G k 80 _ fun d=>D.tup [(leafOf true 12).1.d,d]=f7 (leafOf true 12))
 | 13,_=>
  induction la using Bool.casesOn with
  | false=>exact kc (⟨by decide,e9 (fun d=>D.tup [(leafOf false 13).1.d,d]=f7 (leafOf false 13)) (bK X [97,97,98] (bY false)) h rfl⟩:(4:Int)≠0/\cal G k 80 _ fun d=>D.tup [(leafOf false 13).1.d,d]=f7 (leafOf false 13))
  | true=>exact kc (⟨by decide,e9 (fun d=>D.tup [(leafOf true 13).1.d,d]=f7 (leafOf true 13)) (bK X [97,97,98] (bY true)) h rfl⟩:(4:Int)≠0/\cal G k 80 _ fun d=>D.tup [(leafOf true 13).1.d,d]=f7 (leafOf true 13))
 | 14,_=>
  induction la using Bool.casesOn with
  | false=>exact kc (⟨by decide,e9 (fun d=>D.tup [(leafOf false 14).1.d,d]=f7 (leafOf false 14)) (bK X [98,97] (bY false)) h rfl⟩:(4:Int)≠0/\cal G k 80 _ fun d=>D.tup [(leafOf false 14).1.d,d]=f7 (leafOf false 14))
  | true=>exact kc (⟨by decide,e9 (fun d=>D.tup [(leafOf true 14).1.d,d]=f7 (leafOf true 14)) (bK X [98,97] (bY true)) h rfl⟩:(4:Int)≠0/\cal G k 80 _ fun d=>D.tup [(leafOf true 14).1.d,d]=f7 (leafOf true 14))
 | 15,_=>
  induction la using Bool.casesOn with
  | false=>exact kc (⟨by decide,e9 (fun d=>D.tup [(leafOf false 15).1.d,d]=f7 (leafOf false 15)) (bK X [97,97] (bY false)) h rfl⟩:(4:Int)≠0/\cal G k 80 _ fun d=>D.tup [(leafOf false 15).1.d,d]=f7 (leafOf false 15))
  | true=>exact kc (⟨by decide,e9 (fun d=>D.tup [(leafOf true 15).1.d,d]=f7 (leafOf true 15)) (bK X [97,97] (bY true)) h rfl⟩:(4:Int)≠0/\cal G k 80 _ fun d=>D.tup [(leafOf true 15).1.d,d]=f7 (leafOf true 15))
 | w+16,hw=>exact absurd hw (by lia)
end
section
variable {G:Gd} {k n:Nat}
noncomputable def w4 (l:List (N×T)):D:=.lst (l.map f7)
noncomputable def B5 (la:Bool) (l:List (N×T)) (m:Nat) (row:Bool):List (N×T):=
 let tk:=l.drop (l.length-m)
 bif tk.length==1 then l else l.take (l.length-m)++[bif row then(.row (tk.map (fun ζ=>ζ.1)),C5 (tk.map (fun ζ=>ζ.2)) (fl la)) else(.choice (tk.map (fun ζ=>ζ.1)),wH (tk.map (fun ζ=>ζ.2)) (fl la))]
end
section
variable {G:Gd} {k n:Nat}
theorem LM (X:FX G) (la:Bool) (l:List (N×T)) (m:Nat) (hm:1<=m) (row:Bool) (hl:l.length<=1000):At G 5 510 [w4 l,.int (m:Nat),.bool row,.int (fl la).i] (w4 (B5 la l m row)):=by
 refine fnAt X (b:=GW) (by rfl) (by rfl) fun k h=>?_
 let R:=w4 (B5 la l m row)
 let tk:=l.drop (l.length-m)
 let vs (P:List D) (a b:Option V):List (Option V):=[v_ (w4 l),v_ (.int (m:Nat)),v_ (.bool row),v_ (.int (fl la).i),v_ (.lst P),a,b]
 let Aa:List (Option V):=[none,none,none,none,none,none,none,none]
 let b1:=J3 (wp G k 15) Aa 0 (.idx (.var 7) (.const (.int 0))) (.var 7) []
 let c2:E:=.comp [] 8 (.idx (.var 7) (.const (.int 1))) (.mk (.var 7) (.var 4) []) []
 let Tail (P:List D):List V->St->Prop:=fun us σ'=>wM (wp G k 17) (.t (.tup [5,6])) (KH us) σ' fun σ''=>(wp G k 17).x (GW.drop 3) σ'' (f6 R)
 let K1 (P:List D):List D->List M->Prop:=fun acc mu=>aC (wp G k 16).e [c2] ⟨vs P none none,mu⟩ fun us σ''=>Tail P (.val (.lst acc)::us) σ''
 have q (P:List D) (hP:P=tk.map f7):br (((P.map V.val).length:Int)==1) (w4 l=R) (z7 b1 P [] [] (K1 P)):=by
  subst hP
  let CL:=B3 (l.map f7) none (some (-(m:Int)))
  let Fin (kd:Str) (d:D):Prop:=j7 (Nat.ble ((CL.map V.val).length+1) d9) (oe (fz 6 [.list [.val (.tup [nd kd .none (tk.map fun x=>x.1.d),d])],.list (CL.map V.val++[.val (.tup [nd kd .none (tk.map fun x=>x.1.d),d])])] (.loc 1)) fun x=>x.1=R)
  let Z:Prop:=br row (cal G k 101 [.lst (tk.map fun x=>x.2.d),.int (fl la).i] (Fin (w5 "row"))) (cal G k 108 [.lst (tk.map fun x=>x.2.d),.int (fl la).i] (Fin (w5 "choice")))
  have aW:CL=(l.take (l.length-m)).map f7:=by show B3 _ _ _=_;rw[VD _ _ hm,i9,<-xZ]
  have hts:T.ds (tk.map (fun ζ=>ζ.2))=tk.map fun x=>x.2.d:=by rw[T.G5,A6];rfl
  have hns:N.ds (tk.map (fun ζ=>ζ.1))=tk.map fun x=>x.1.d:=by rw[N.G5,A6];rfl
  have z (e:(tk.length==1)=false):Z:=by
   have fin (kd:Str) (d:D) (h:w4 (l.take (l.length-m))=w4 (l.take (l.length-m))->D.lst (CL++[.tup [nd kd .none (tk.map fun x=>x.1.d),d]])=R):Fin kd d:=by
    refine s9 (n6.mpr ?_) (j6 (bZ (c:=1) (ds:=CL++[.tup [nd kd .none (tk.map fun x=>x.1.d),d]]) ?_) (h rfl))
    ·rw[aW,i9,i9,eZ];have:d9=1000000:=rfl;omega
    ·rw[o4];rfl
   have hR:R=.lst ((l.take (l.length-m)).map f7++[f7 (bif row then(.row (tk.map (fun ζ=>ζ.1)),C5 (tk.map (fun ζ=>ζ.2)) (fl la)) else(.choice (tk.map (fun ζ=>ζ.1)),wH (tk.map (fun ζ=>ζ.2)) (fl la)))]):=by
    show w4 (bif tk.length==1 then l else _)=_
    rw[e]
    show D.lst (List.map f7 (_++[_]))=_
    rw[o4];rfl
   refine g8 (fun er=>?_) fun er=>?_
   ·have a:=vP X (tk.map (fun ζ=>ζ.2)) (fl la)
    rw[hts] at a
    refine J0 a h (fin _ _ fun ζ=>?_)
    rw[hR,er,aW,<-hns];rfl
   ·have a:=Wj X (tk.map (fun ζ=>ζ.2)) (fl la)
    rw[hts] at a
    refine J0 a h (fin _ _ fun ζ=>?_)
    rw[hR,er,aW,<-hns];rfl
  have hlen:(((tk.map f7).map V.val).length:Int)=(tk.length:Nat):=by rw[i9,i9]
  refine g8 (fun e=>?_) fun e=>?_
  ·rw[hlen] at e
   have e2:(tk.length==1)=true:=by rw[beq_iff_eq];have:=eq_of_beq e;lia
   show w4 l=w4 (bif tk.length==1 then l else _)
   rw[e2];rfl
  ·refine Z3 (body:=b1) (mu:=[]) (K:=K1 (tk.map f7)) f7 (fun x=>x.1.d) tk (fun x hx acc K hk=>kc hk) [] ?_
   let b2:=J3 (wp G k 15) Aa 0 (.idx (.var 7) (.const (.int 1))) (.var 7) []
   let K2:List D->List M->Prop:=fun acc mu=>Tail (tk.map f7) [.val (.lst (tk.map fun x=>x.1.d)),.val (.lst acc)] ⟨vs (tk.map f7) none none,mu⟩
   refine kc (show z7 b2 (tk.map f7) [] [] K2 from ?_)
   refine Z3 (body:=b2) (mu:=[]) (K:=K2) f7 (fun x=>x.2.d) tk (fun x hx acc K hk=>kc hk) [] ?_
   rw[hlen] at e
   have e2:(tk.length==1)=false:=by rw[beq_eq_false_iff_ne] at e ⊢;lia
   exact kc (z e2)
 have hc:B3 (l.map f7) (some (-(m:Int))) none=tk.map f7:=by rw[Mu _ _ hm,i9,<-sU]
 exact kc (q _ hc)
end
section
variable {G:Gd} {k n:Nat}
noncomputable def hi0 (low more:Nat):Option Nat:=bif more==3 then none else some (low+more)
noncomputable def big (x:N) (low more:Nat):Bool:=decide (x.load*max (max (low:Int) (q9 (hi0 low more))) 1>6)
noncomputable def Q4 (x:N) (low more:Nat):Nat×Option Nat:=bif big x low more then(0,none) else(low,hi0 low more)
noncomputable def bF (t:T) (f:Fg) (k7:Bool) (lo:Nat) (hi:Option Nat):T:=
 bif k7&&(lo==0&&hi==none) then u7 .star t f else bif k7&&(lo==1&&hi==none) then u7 .plus t f else bif k7&&(lo==0&&hi==some 1) then u7 .quest t f else .rep lo (q9 hi) t f
noncomputable def Z9 (la:Bool) (x:N×T) (low more:Nat) (lz k7:Bool):N×T:=
 bif decide (x.1.nest>1) then x else(.times (Q4 x.1 low more).1 (q9 (Q4 x.1 low more).2) lz x.1,bF x.2 ⟨false,la,lz⟩ k7 (Q4 x.1 low more).1 (Q4 x.1 low more).2)
theorem dO (a b:Nat):((a:Int)==(b:Int))=(a==b):=by
 rw[EA,beq_iff_eq,beq_iff_eq];lia
theorem XH (hi:Option Nat):(q9 hi==-1)=(hi==none):=by
 induction hi using Option.casesOn with
 | none=>rfl
 | some x=>show(((x:Nat):Int)==-1)=false;rw[beq_eq_false_iff_ne];lia
theorem Ri (hi:Option Nat):(q9 hi==1)=(hi==some 1):=by
 induction hi using Option.casesOn with
 | none=>rfl
 | some x=>show(((x:Nat):Int)==((1:Nat):Int))=_;rw[dO];rfl
theorem Uh (X:FX G) (la lz:Bool) (P M1:D) (x:N×T) (lo:Nat) (hi:Option Nat) (k7:Bool) (h:5<=k) :
  (wp G k 16).x (M6.drop 4) ⟨[v_ P,v_ (.int (lo:Nat)),v_ M1,v_ (.bool lz),v_ (.int (bif k7 then 0 else 1)),v_ (.int (fl la).i),v_ x.1.d,v_ x.2.d,v_ (.int (q9 hi)),none],[]⟩
   (f6 (f7 (.times lo (q9 hi) lz x.1,bF x.2 ⟨false,la,lz⟩ k7 lo hi))):=by
 let f:Fg:=⟨false,la,lz⟩
 let md:D:=(N.times lo (q9 hi) lz x.1).d
 let R:=f7 (.times lo (q9 hi) lz x.1,bF x.2 ⟨false,la,lz⟩ k7 lo hi)
 let F:D->Prop:=fun d=>D.tup [md,d]=R
 let q2 (a:Int) (b:Int):Bool:=((lo:Int)==a&&(q9 hi==b&&true))&&true
 let C4:Prop:=cal G k 150 [x.2.d,.int f.i,.int (lo:Nat),.int (q9 hi)] F
 let C3:Prop:=br (q2 0 1) (cal G k 143 [x.2.d,.int f.i] F) C4
 let C2:Prop:=br (q2 1 (-1)) (cal G k 136 [x.2.d,.int f.i] F) C3
 let C1:Prop:=br (q2 0 (-1)) (cal G k 129 [x.2.d,.int f.i] F) C2
 have e0:(q2 0 (-1))=(lo==0&&hi==none):=by show(((lo:Int)==((0:Nat):Int)&&(q9 hi==-1&&true))&&true)=_;rw[F7,F7,dO,XH]
 have e1:(q2 1 (-1))=(lo==1&&hi==none):=by show(((lo:Int)==((1:Nat):Int)&&(q9 hi==-1&&true))&&true)=_;rw[F7,F7,dO,XH]
 have e2:(q2 0 1)=(lo==0&&hi==some 1):=by show(((lo:Int)==((0:Nat):Int)&&(q9 hi==1&&true))&&true)=_;rw[F7,F7,dO,Ri]
 have q:Bool.casesOn k7 C4 C1:=by
  have hR (t:T) (ht:bF x.2 f k7 lo hi=t):F t.d:=by show D.tup [md,t.d]=f7 (_,bF x.2 f k7 lo hi);rw[ht];rfl
  induction k7 using Bool.casesOn with
  | false=>exact e9 F (LH X x.2 f lo (q9 hi)) h (hR _ rfl)
  | true=>
   refine g8 (fun a=>e9 F (LG X x.2 f) h (hR _ ?_)) fun a=>g8 (fun b=>e9 F (BG X x.2 f) h (hR _ ?_)) fun b=>g8 (fun c=>e9 F (BH X x.2 f) h (hR _ ?_)) fun c=>e9 F (LH X x.2 f lo (q9 hi)) h (hR _ ?_)
   ·unfold bF;rw[<-e0,a];rfl
   ·unfold bF;rw[<-e0,<-e1,a,b];rfl
   ·unfold bF;rw[<-e0,<-e1,<-e2,a,b,c];rfl
   ·unfold bF;rw[<-e0,<-e1,<-e2,a,b,c];rfl
 induction k7 using Bool.casesOn with
 | true=>induction la using Bool.casesOn<;>induction lz using Bool.casesOn<;>exact kc q (by kernel_rfl)
 | false=>induction la using Bool.casesOn<;>induction lz using Bool.casesOn<;>exact kc q (by kernel_rfl)
end
section
variable {G:Gd} {k n:Nat}
noncomputable def kX (la lz k7:Bool) (x:N×T) (more:Nat) (lo:Int) (v8:Option V):List (Option V):=[v_ (f7 x),v_ (.int lo),v_ (.int (more:Nat)),v_ (.bool lz),v_ (.int (bif k7 then 0 else 1)),v_ (.int (fl la).i),v_ x.1.d,v_ x.2.d,v8,none]
theorem Ui (X:FX G) (la lz k7:Bool) (x:N×T) (low more:Nat) (h1:x.1.short) (h2:x.1.fits) (h3:x.1.dH) (h4:-4611686018427387904<=x.1.load/\x.1.load<=4611686018427387904) (m:Nat) (hm:5<=m) (hh:x.1.h+1<=m) (h:m<=k)
  (hn:¬x.1.nest>1):(wp G k 17).x (M6.drop 3) ⟨kX la lz k7 x more low (v_ (.int (q9 (hi0 low more)))),[]⟩ (f6 (f7 (Z9 la x low more lz k7))):=by
 let R:=f7 (Z9 la x low more lz k7)
 let v8:=q9 (hi0 low more)
 let Y:V->St->Prop:=fun a σ'=>Y0 (wp G k 15).e [.const (.int 6)] a [.Gt] σ' fun v σ''=>x7 v σ'' fun r σ3=>br r ((wp G k 16).x (j8 M6 3).l5 σ3 (l8 (wp G k 16) (M6.drop 4) (f6 R))) ((wp G k 16).x [] σ3 (l8 (wp G k 16) (M6.drop 4) (f6 R)))
 let K:D->Prop:=fun d=>rY .Mult (.val d) (.val (.int (max (max (low:Int) v8) 1))) ⟨kX la lz k7 x more low (v_ (.int v8)),[]⟩ Y
 have hR:R=f7 (.times (Q4 x.1 low more).1 (q9 (Q4 x.1 low more).2) lz x.1,bF x.2 ⟨false,la,lz⟩ k7 (Q4 x.1 low more).1 (Q4 x.1 low more).2):=by
  show f7 (Z9 la x low more lz k7)=_
  unfold Z9
  rw[decide_eq_false hn];rfl
 have e4 (lo:Nat) (hi:Option Nat) (e:Q4 x.1 low more=(lo,hi)):(wp G k 16).x (M6.drop 4) ⟨kX la lz k7 x more (lo:Nat) (v_ (.int (q9 hi))),[]⟩ (f6 R):=by
  rw[hR,e]
  exact Uh X la lz (f7 x) (.int (more:Nat)) x lo hi k7 (k6 hm h)
 have q:br (decide (x.1.load*max (max (low:Int) v8) 1>6)) ((wp G k 16).x (j8 M6 3).l5 ⟨kX la lz k7 x more low (v_ (.int v8)),[]⟩ (l8 (wp G k 16) (M6.drop 4) (f6 R))) ((wp G k 16).x [] ⟨kX la lz k7 x more low (v_ (.int v8)),[]⟩ (l8 (wp G k 16) (M6.drop 4) (f6 R))):=by
  refine g8 (fun e=>?_) fun e=>?_
  ·have b:big x.1 low more=true:=e
   exact kc (show j7 true ((wp G k 16).x (M6.drop 4) ⟨kX la lz k7 x more 0 (v_ (.int (-1))),[]⟩ (f6 R)) from e4 0 none (by unfold Q4;rw[b];rfl))
  ·have b:big x.1 low more=false:=e
   exact kc (show j7 true ((wp G k 16).x (M6.drop 4) ⟨kX la lz k7 x more low (v_ (.int v8)),[]⟩ (f6 R)) from e4 low (hi0 low more) (by unfold Q4;rw[b];rfl))
 refine kc (e9 K (m:=x.1.h+1) (n:=m) (Ax X x.1 h2 h3) h ⟨h4,?_⟩ (n6.mpr hh))
 exact kc q
theorem Ay (X:FX G) (la lz k7:Bool) (x:N×T) (low more:Nat) (h1:x.1.short) (h2:x.1.fits) (h3:x.1.dH) (h4:-4611686018427387904<=x.1.load/\x.1.load<=4611686018427387904) (m:Nat) (hm:5<=m) (hh:x.1.h+1<=m) :
  At G (m+1) 498 [f7 x,.int (low:Nat),.int (more:Nat),.bool lz,.int (bif k7 then 0 else 1),.int (fl la).i] (f7 (Z9 la x low more lz k7)):=by
 refine fnAt X (b:=M6) (by rfl) (by rfl) fun k h=>?_
 let R:=f7 (Z9 la x low more lz k7)
 let vs (v8:Option V):=kX la lz k7 x more low v8
 let E3 (v8:Int):Prop:=j7 true ((wp G k 17).x (M6.drop 3) ⟨vs (v_ (.int v8)),[]⟩ (f6 R))
 let E2:Prop:=br ((more:Int)==3) (E3 (-1)) (E3 ((low:Int)+(more:Int)))
 have XM:((more:Int)==3)=(more==3):=dO more 3
 have e2 (hn:¬x.1.nest>1):(wp G k 18).x [] ⟨vs none,[]⟩ (l8 (wp G k 18) (M6.drop 2) (f6 R)):=by
  have l:=Ui X la lz k7 x low more h1 h2 h3 h4 m hm hh h hn
  have q:E2:=by
   cases e:more==3 with
   | true=>refine s9 (XM.trans e) ?_;unfold hi0 at l;rw[e] at l;exact l
   | false=>refine U8 (XM.trans e) ?_;unfold hi0 at l;rw[e] at l;exact l
  exact kc q
 let Y:V->St->Prop:=fun a σ'=>Y0 (wp G k 17).e [.const (.int 1)] a [.Gt] σ' fun v σ''=>x7 v σ'' fun r σ3=>br r ((wp G k 18).x (j8 M6 1).l5 σ3 (l8 (wp G k 18) (M6.drop 2) (f6 R))) ((wp G k 18).x [] σ3 (l8 (wp G k 18) (M6.drop 2) (f6 R)))
 let K:D->Prop:=fun d=>Y (.val d) ⟨vs none,[]⟩
 have q:br (decide (x.1.nest>1)) (f7 x=R) ((wp G k 18).x [] ⟨vs none,[]⟩ (l8 (wp G k 18) (M6.drop 2) (f6 R))):=by
  refine g8 (fun e=>?_) fun e=>e2 (of_decide_eq_false e)
  show f7 x=f7 (Z9 la x low more lz k7)
  unfold Z9
  rw[e];rfl
 refine kc (e9 K (m:=x.1.h) (n:=m) (Xz X x.1 h1) h ?_ (n6.mpr (by lia)))
 exact kc q
end
section
variable {G:Gd} {k n:Nat}
theorem RM (A:List D) (d:D) (mu:List M) (R:D) (h:D.lst (A++[d])=R) (hl:A.length+1<=d9) :
  j7 (Nat.ble ((A.map V.val).length+1) d9) (oe (fz 6 (mu++[.list [.val d],.list (A.map V.val++[.val d])]) (.loc (mu.length+1))) fun x=>x.1=R):=by
 refine s9 (n6.mpr (by rw[i9];exact hl)) (j6 (bZ (ds:=A++[d]) ?_) h)
 rw[jD (J5 _),Nat.succ_eq_add_one,cZ,o4];rfl
structure Od where
 kind:Nat
 what:Nat
 low:Nat
 more:Nat
 lz:Bool
 k7:Bool
noncomputable def bI (b:Bool):Int:=bif b then 1 else 0
noncomputable def Od.ds (o:Od):List Int:=[o.kind,o.what,o.low,o.more,bI o.lz,bif o.k7 then 0 else 1]
noncomputable def Od.sign (o:Od) (la:Bool):N×T:=bif o.kind==2 then leafOf la o.what else A2 la o.what
noncomputable def Od.loop (o:Od) (la:Bool) (x:N×T):N×T:=Z9 la x o.low o.more o.lz o.k7
noncomputable def Od.leaf (o:Od) (la:Bool):N×T:=bif decide (3<=o.kind)&&decide (o.kind<6) then o.loop la (o.sign la) else o.sign la
noncomputable def kY (la:Bool) (l:List (N×T)) (num cell:Int) (o:Od) (a b c d:Option V):List (Option V):=
 [v_ (w4 l),v_ (.int num),v_ (.int cell),v_ (.int (fl la).i),v_ (.int (o.kind:Nat)),v_ (.int (o.what:Nat)),v_ (.int (o.low:Nat)),v_ (.int (o.more:Nat)),v_ (.int (bI o.lz)),v_ (.int (bif o.k7 then 0 else 1)),a,b,c,d]
noncomputable def fR:M:=.frozen (n5 [10,16,3,4,2,2])
theorem pK (b:Bool):(bI b==1)=b:=by induction b using Bool.casesOn<;>rfl
structure iS (m:Nat) (x:N):Prop where
 s:x.short
 f:x.fits
 l:x.dH
 b:-4611686018427387904<=x.load/\x.load<=4611686018427387904
 h:x.h+1<=m
theorem Vz (X:FX G) (la:Bool) (l:List (N×T)) (num cell:Int) (o:Od) (mu:List M) (V0:mu=[fR]∨mu=[fR,.list []]) (hw:o.what<16) (m:Nat) (hm:5<=m) (hf:iS m (o.sign la).1) (hl:l.length+1<=d9) (h:m+1<=k) :
  (wp G k 18).x (j8 F8 1).l5 ⟨kY la l num cell o none none none none,mu⟩ (l8 (wp G k 18) (F8.drop 2) (f6 (w4 (l++[o.leaf la])))):=by
 let R:=w4 (l++[o.leaf la])
 let F (mu:List M) (d:D):Prop:=j7 (Nat.ble (((l.map f7).map V.val).length+1) d9) (oe (fz 6 (mu++[.list [.val d],.list ((l.map f7).map V.val++[.val d])]) (.loc (mu.length+1))) fun x=>x.1=R)
 have fin (mu:List M) (y:N×T) (e:o.leaf la=y):F mu (f7 y):=RM (l.map f7) (f7 y) mu R (by show _=w4 (l++[o.leaf la]);rw[e];unfold w4;rw[o4];rfl) (by rw[i9];exact hl)
 let S2 (d:D):Prop:=j7 true ((wp G k 17).x ((j8 F8 1).l5.drop 1) ⟨kY la l num cell o (v_ d) none none none,mu⟩ (l8 (wp G k 18) (F8.drop 2) (f6 R)))
 have s2:S2 (f7 (o.sign la)):=by
  let x:=o.sign la
  let C:Prop:=cal G k 498 [f7 x,.int (o.low:Nat),.int (o.more:Nat),.bool (bI o.lz==1),.int (bif o.k7 then 0 else 1),.int (fl la).i] (F mu)
  have q:br (decide ((3:Int)<=(o.kind:Nat))) (br (decide (((o.kind:Nat):Int)<6)) C (F mu (f7 x))) (br (decide ((3:Int)<=(o.kind:Nat))) C (F mu (f7 x))):=by
   refine g8 (fun e=>g8 (fun e2=>?_) fun e2=>?_) fun e=>U8 e ?_
   ·have e:3<=o.kind:=by have:=of_decide_eq_true e;lia
    have e2:o.kind<6:=by have:=of_decide_eq_true e2;lia
    have a:=Ay X la o.lz o.k7 x o.low o.more hf.s hf.f hf.l hf.b m hm hf.h
    rw[<-pK o.lz] at a
    refine J0 a h (fin mu _ ?_)
    unfold Od.leaf
    rw[decide_eq_true e,decide_eq_true e2,pK];rfl
   ·have e2:¬o.kind<6:=by have:=of_decide_eq_false e2;lia
    exact fin mu _ (by unfold Od.leaf;rw[decide_eq_false e2,Y8];rfl)
   ·have e:¬3<=o.kind:=by have:=of_decide_eq_false e;lia
    exact fin mu _ (by unfold Od.leaf;rw[decide_eq_false e];rfl)
  rcases V0 with rfl | rfl
  ·exact kc q (by kernel_rfl)
  ·exact kc q (by kernel_rfl)
 have q:br (((o.kind:Nat):Int)==2) (cal G k 471 [.int (o.what:Nat),.int (fl la).i] S2) (cal G k 464 [.int (o.what:Nat),.int (fl la).i] S2):=by
  have e2:(((o.kind:Nat):Int)==2)=(o.kind==2):=dO o.kind 2
  unfold Od.sign at s2
  refine g8 (fun e=>e9 S2 (m:=5) (Xy X la o.what hw) h ?_ (n6.mpr (by lia))) fun e=>e9 S2 (m:=5) (Xw X la o.what hw) h ?_ (n6.mpr (by lia))
  ·rw[<-e2,e] at s2;exact s2
  ·rw[<-e2,e] at s2;exact s2
 rcases V0 with rfl | rfl
 ·exact kc q (by kernel_rfl)
 ·exact kc q (by kernel_rfl)
end
section
variable {G:Gd} {k n:Nat}
theorem Qg {n:Nat} {v:V} {d:D} {mu d8:List M} (h:fz n mu v=some (d,d8)):∀ A:List D,G6 (fz n) mu (A.map V.val++[v])=some (A++[d],d8):=by
 intro b7
 induction b7 with
 | nil=>exact zI h
 | cons a A ih=>
  have hv:fz n mu (.val a)=some (a,mu):=by induction n using Nat.casesOn<;>rfl
  show(fz n mu (.val a)).bind _=_
  refine hv▸?_
  show((G6 (fz n) mu (A.map V.val++[v])).map fun y=>(a::y.1,y.2))=_
  rw[ih];rfl
theorem Qe {c:Nat} {A:List D} {v:V} {d:D} {mu d8:List M} (h:mu[c]?=some (.list (A.map V.val++[v]))) (h1:fz 5 mu v=some (d,d8)) (h2:((d8[c]?).bind M.list?).isSome) :
  ∃ m,fz 6 mu (.loc c)=some (.lst (A++[d]),m):=by
 show ∃ m,((mu[c]?).bind _)=_
 refine h▸?_
 show ∃ m,((G6 (fz 5) mu (A.map V.val++[v])).bind fun x=>((x.2[c]?).bind M.list?).map fun ζ=>(D.lst x.1,x.2.set c (.frozen (.lst x.1))))=_
 rw[Qg h1]
 show ∃ m,(((d8[c]?).bind M.list?).map fun ζ=>(D.lst (A++[d]),d8.set c (.frozen (.lst (A++[d])))))=_
 obtain⟨l,e⟩:=sZ.mp h2
 exact e▸(⟨_,rfl⟩)
noncomputable def X4:List M:=[fR,.list []]
theorem uV (l:List (N×T)) (z:N×T):L6 (((l++[z]).map f7).map V.val) (-1)=some (.val (f7 z)):=by
 rw[o4,o4];exact rC _ _
theorem UG (l:List (N×T)) (z:N×T):B3 ((l++[z]).map f7) none (some (-1))=l.map f7:=by
 have:=VD ((l++[z]).map f7) 1 (g7 _)
 rw[o4,o7] at this
 refine o4▸?_
 refine this.trans ?_
 show List.take ((List.map f7 l).length+1-1) _=_
 rw[Nat.add_sub_cancel,QL]
theorem Wa (X:FX G) (la:Bool) (l:List (N×T)) (z:N×T) (num cell:Int) (o:Od) (m:Nat) (hm:5<=m) (hf:iS m z.1) (hl:l.length+1<=d9) (h:m+1<=k) :
  (wp G k 17).x (j8 F8 2).l5 ⟨kY la (l++[z]) num cell o none none none none,X4⟩ (l8 (wp G k 17) (F8.drop 3) (f6 (w4 (l++[o.loop la z])))):=by
 let R:=w4 (l++[o.loop la z])
 let CL:=B3 ((l++[z]).map f7) none (some (-1))
 let F (d:D):Prop:=j7 (Nat.ble ((CL.map V.val).length+1) d9) (oe (fz 6 (X4++[.list [.val d],.list (CL.map V.val++[.val d])]) (.loc (X4.length+1))) fun x=>x.1=R)
 let σ:St:=⟨kY la (l++[z]) num cell o none none none none,X4⟩
 let K (v:V):Prop:=R7 [v,.val (.int (o.low:Nat)),.val (.int (o.more:Nat)),.val (.bool (bI o.lz==1)),.val (.int (bif o.k7 then 0 else 1)),.val (.int (fl la).i)] σ fun ds σ'=>cal G k 498 ds fun d=>
  rX (.val (.lst CL)) (.loc σ'.mu.length) (σ'.alloc (.list [.val d])) fun r σ3=>f6 R (.ret r) σ3
 have q:cal G k 498 [f7 z,.int (o.low:Nat),.int (o.more:Nat),.bool (bI o.lz==1),.int (bif o.k7 then 0 else 1),.int (fl la).i] F:=by
  have a:=Ay X la o.lz o.k7 z o.low o.more hf.s hf.f hf.l hf.b m hm hf.h
  rw[<-pK o.lz] at a
  have aW:CL=l.map f7:=UG l z
  refine J0 a h ?_
  show j7 (Nat.ble ((CL.map V.val).length+1) d9) _
  refine aW▸?_
  refine RM (l.map f7) _ X4 R ?_ (by rw[i9];exact hl)
  show _=w4 (l++[o.loop la z])
  unfold w4 Od.loop;rw[o4,pK];rfl
 exact kc (j6 (f:=K) (uV l z) (kc q))
end
section
variable {G:Gd} {k n:Nat}
theorem CP {i j:Nat} {a b:D} {vars:List (Option V)} {mu:List M} {K:St->Prop} (h:(fS [i,j]&&[i,j].all fun i=>Nat.blt i vars.length)=true) (p:K ⟨bindTo [i,j] [.val a,.val b] vars,mu⟩):C6 (.tup [i,j]) (.val (.tup [a,b])) ⟨vars,mu⟩ K:=
 j6 (o:=U6 mu (.val (.tup [a,b]))) (f:=fun l=>j7 (Nat.beq [i,j].length l.length&&(fS [i,j]&&[i,j].all fun i=>Nat.blt i vars.length)) (K ⟨bindTo [i,j] l vars,mu⟩)) (x:=[V.val a,V.val b]) rfl (s9 h p)
noncomputable def bW (la:Bool) (num:Nat) (nm:Bool) (x:N×T):N×T:=(.group num nm x.1,.cap num nm x.2 (fl la))
theorem Vy (X:FX G) (la:Bool) (l:List (N×T)) (z:N×T) (num:Nat) (cell:Int) (o:Od) (hl:l.length+1<=d9) (h:4<=k) :
  (wp G k 16).x (j8 F8 3).l5 ⟨kY la (l++[z]) (num:Nat) cell o none none none none,X4⟩ (l8 (wp G k 16) (F8.drop 4) (f6 (w4 (l++[bW la num o.lz z])))):=by
 let R:=w4 (l++[bW la num o.lz z])
 let CL:=B3 ((l++[z]).map f7) none (some (-1))
 let bl:=(j8 F8 3).l5
 let Q:=l8 (wp G k 16) (F8.drop 4) (f6 R)
 let vs (nm:Option V) (a b:Option V):=kY la (l++[z]) (num:Nat) cell o none nm a b
 let gv (nm:Bool):V:=.tup [.tup [.val (.str (w5 "group")),.val (.tup [.int (num:Nat),G9 nm]),.loc 2],.val (T.cap num nm z.2 (fl la)).d]
 have last (nm:Bool) (e:o.lz=nm):(wp G k 14).x (bl.drop 2) ⟨vs (v_ (G9 nm)) (v_ z.1.d) (v_ z.2.d),X4⟩ Q:=by
  let F (d:D):Prop:=j7 (Nat.ble ((CL.map V.val).length+1) d9) (oe (fz 6 (X4++[.list [.val z.1.d],.list [.tup [.tup [.val (.str (w5 "group")),.val (.tup [.int (num:Nat),G9 nm]),.loc 2],.val d]],.list (CL.map V.val++[.tup [.tup [.val (.str (w5 "group")),.val (.tup [.int (num:Nat),G9 nm]),.loc 2],.val d]])]) (.loc 4)) fun x=>x.1=R)
  have f:F (T.cap num nm z.2 (fl la)).d:=by
   have aW:CL=l.map f7:=UG l z
   refine s9 (n6.mpr (by rw[aW,i9,i9];exact hl)) ?_
   obtain⟨m,e2⟩:=Qe (c:=4) (A:=CL) (v:=gv nm) (d:=f7 (bW la num nm z)) (mu:=X4++[.list [.val z.1.d],.list [gv nm],.list (CL.map V.val++[gv nm])]) rfl rfl rfl
   refine j6 e2 ?_
   show D.lst (CL++[_])=w4 (l++[bW la num o.lz z])
   rw[aW,e];unfold w4;rw[o4];rfl
  have q:cal G k 157 [z.2.d,.int (fl la).i,.int (num:Nat),G9 nm] F:=e9 F (m:=4) (n:=4) (Wq X z.2 (fl la) num nm) h f
  induction nm using Bool.casesOn with
  | true=>exact kc q
  | false=>exact kc q
 have mid (nm:Bool) (e:o.lz=nm):(wp G k 15).x (bl.drop 1) ⟨vs (v_ (G9 nm)) none none,X4⟩ Q:=by
  let K (v:V):Prop:=wM (wp G k 14) (.t (.tup [12,13])) v ⟨vs (v_ (G9 nm)) none none,X4⟩ fun σ''=>(wp G k 14).x (bl.drop 2) σ'' Q
  have l2:=last nm e
  have l3:K (.val (f7 z)):=CP (a:=z.1.d) (b:=z.2.d) (K:=fun σ''=>(wp G k 14).x (bl.drop 2) σ'' Q) rfl l2
  exact kc (j6 (f:=K) (uV l z) l3)
 have q:br (bI o.lz==1) (j7 true ((wp G k 15).x (bl.drop 1) ⟨vs (v_ (G9 true)) none none,X4⟩ Q)) (j7 true ((wp G k 15).x (bl.drop 1) ⟨vs (v_ (G9 false)) none none,X4⟩ Q)):=by
  rw[pK]
  exact g8 (fun e=>mid true e) fun e=>mid false e
 exact kc q
end
section
variable {G:Gd} {k n:Nat}
theorem Qh {mu d8:List M} {v:V} {d:D} (h:fz 6 mu v=some (d,d8)) (ds:List D):G6 (fz 6) mu (v::ds.map V.val)=some (d::ds,d8):=by
 show(fz 6 mu v).bind _=_
 rw[h]
 show((G6 (fz 6) d8 (ds.map V.val)).map fun y=>(d::y.1,y.2))=_
 rw[IG];rfl
noncomputable def rJ (la:Bool) (l:List (N×T)) (num cell:Int) (o:Od):St:=⟨kY la l num cell o none none none none,X4⟩
theorem We (X:FX G) (la:Bool) (l:List (N×T)) (z:N×T) (num cell:Int) (o:Od) (hl:l.length+2<=1000) (h:5<=k) :
  (wp G k 15).x (j8 F8 4).l5 (rJ la (l++[z]) num cell o) (l8 (wp G k 15) (F8.drop 5) (f6 (w4 (B5 la (l++[z]++[z]) 2 true)))):=by
 let R:=w4 (B5 la (l++[z]++[z]) 2 true)
 let σ:=rJ la (l++[z]) num cell o
 let K3 (v:V):Prop:=rX (.val (w4 (l++[z]))) (.loc σ.mu.length) (σ.alloc (.list [v])) fun r σ'=>R7 [r,.val (.int 2),.val (.bool true),.val (.int (fl la).i)] σ' fun ds σ''=>cal G k 510 ds fun d=>d=R
 let L:List D:=(l++[z]).map f7
 let ZN:List M:=[fR,.list [],.list [.val (f7 z)],.list (L.map V.val++[.val (f7 z)])]
 have q:j7 (Nat.ble ((L.map V.val).length+1) d9) (oe (G6 (fz 6) ZN (.loc 3::[D.int 2,.bool true,.int (fl la).i].map V.val)) fun x=>cal G k 510 x.1 fun d=>d=R):=by
  refine s9 (n6.mpr (by rw[i9,i9,o7];have:d9=1000000:=rfl;show l.length+1+1<=_;lia)) ?_
  refine j6 (Qh (bZ (c:=3) (ds:=L++[f7 z]) (mu:=ZN) (by rw[o4];rfl)) [D.int 2,.bool true,.int (fl la).i]) ?_
  have a:=LM X la (l++[z]++[z]) 2 (by decide) true (by rw[o7,o7];show l.length+1+1<=_;omega)
  have e:w4 (l++[z]++[z])=.lst (L++[f7 z]):=by unfold w4;rw[o4];rfl
  rw[e] at a
  exact J0 a h rfl
 exact kc (j6 (f:=K3) (uV l z) (kc q))
theorem Wb (X:FX G) (la:Bool) (l:List (N×T)) (num cell:Int) (o:Od) (hl:l.length<=1000) (h:5<=k) :
  (wp G k 15).x (F8.drop 5) (rJ la l num cell o) (f6 (w4 (B5 la l (bif o.k7 then 2 else 3) (o.kind==8)))):=by
 let R:=w4 (B5 la l (bif o.k7 then 2 else 3) (o.kind==8))
 have e:(((o.kind:Nat):Int)==8)=(o.kind==8):=dO o.kind 8
 have q:cal G k 510 [w4 l,.int ((2:Int)+(bif o.k7 then 0 else 1)),.bool (((o.kind:Nat):Int)==8),.int (fl la).i] fun d=>d=R:=by
  have a:=LM X la l (bif o.k7 then 2 else 3) (by cases o.k7<;>decide) (o.kind==8) hl
  rw[<-e] at a
  have e2:((2:Int)+(bif o.k7 then 0 else 1))=((bif o.k7 then 2 else 3:Nat):Int):=by cases o.k7<;>rfl
  rw[e2]
  exact J0 a h (by rw[e])
 exact kc q
end
section
variable {G:Gd} {k n:Nat}
noncomputable def Od.twice (o:Od) (x:N):Bool:=o.kind==8&&(o.lz&&(decide (x.load<5)&&x.loops==0))
noncomputable def R0 (la:Bool) (l:List (N×T)) (num:Nat) (o:Od):List (N×T):=
 bif decide (o.kind<6)||l.isEmpty then l++[o.leaf la] else
 Option.casesOn l.getLast? [] fun z=>
 bif o.kind==6 then l.dropLast++[o.loop la z] else
 bif o.kind==7 then l.dropLast++[bW la num o.lz z] else
 bif o.twice z.1 then B5 la (l++[z]) 2 true else B5 la l (bif o.k7 then 2 else 3) (o.kind==8)
theorem Wd (X:FX G) (la:Bool) (l:List (N×T)) (z:N×T) (num:Nat) (cell:Int) (o:Od) (m:Nat) (hm:5<=m) (hf:iS m z.1) (hl:l.length+2<=1000) (h:m+1<=k) (hk:¬o.kind<6) :
  (wp G k 18).x [] (rJ la (l++[z]) (num:Nat) cell o) (l8 (wp G k 18) (F8.drop 2) (f6 (w4 (R0 la (l++[z]) num o)))):=by
 let R:=w4 (R0 la (l++[z]) num o)
 let σ:=rJ la (l++[z]) (num:Nat) cell o
 have zN:d9=1000000:=rfl
 have hO:R0 la (l++[z]) num o=bif o.kind==6 then l++[o.loop la z] else bif o.kind==7 then l++[bW la num o.lz z] else bif o.twice z.1 then B5 la (l++[z]++[z]) 2 true else B5 la (l++[z]) (bif o.k7 then 2 else 3) (o.kind==8):=by
  unfold R0
  have e1:(l++[z]).isEmpty=false:=by induction l using List.casesOn<;>rfl
  rw[decide_eq_false hk,e1,oV,oS];rfl
 let D2 (i j:Nat):=l8 (wp G k i) (F8.drop j) (f6 R)
 have e5 (h6:(o.kind==6)=false) (h7:(o.kind==7)=false) (ht:o.twice z.1=false):(wp G k 15).x [] σ (D2 15 5):=by
  have a:=Wb (k:=k) X la (l++[z]) (num:Nat) cell o (by rw[o7];show l.length+1<=_;lia) (by lia)
  have e:R0 la (l++[z]) num o=B5 la (l++[z]) (bif o.k7 then 2 else 3) (o.kind==8):=by rw[hO,h6,h7,ht];rfl
  rw[<-e] at a
  exact kc (a:j7 true ((wp G k 15).x (F8.drop 5) σ (f6 R)))
 have e4 (h6:(o.kind==6)=false) (h7:(o.kind==7)=false):(wp G k 16).x [] σ (D2 16 4):=by
  let El:=(wp G k 15).x [] σ (D2 15 5)
  let B:=(wp G k 15).x (j8 F8 4).l5 σ (D2 15 5)
  let QQ:Bool->St->Prop:=fun r σ'=>br r ((wp G k 15).x (j8 F8 4).l5 σ' (D2 15 5)) ((wp G k 15).x [] σ' (D2 15 5))
  have hb (ht:o.twice z.1=true):B:=by
   have a:=We (k:=k) X la l z (num:Nat) cell o hl (by lia)
   have e:R0 la (l++[z]) num o=B5 la (l++[z]++[z]) 2 true:=by rw[hO,h6,h7,ht];rfl
   rw[<-e] at a
   exact a
  let UO:Lake.E:=.cmp (.call 491 [.idx (.idx (.var 0) (.neg (.const (.int 1)))) (.const (.int 0))]) [.Eq] [.const (.int 0)]
  let K4 (d:D):Prop:=Y0 (wp G k 13).e [.const (.int 0)] (.val d) [.Eq] σ fun v σ3=>x7 v σ3 fun b σ4=>br b (Y3 (wp G k 14).t [] σ4 QQ) (QQ false σ4)
  let K3 (v:V):Prop:=N1 v (.val (.int 0)) σ fun w σ1=>R7 [w] σ1 fun ds σ2=>cal G k 491 ds fun d=>Y0 (wp G k 13).e [.const (.int 0)] (.val d) [.Eq] σ2 fun v σ3=>x7 v σ3 fun b σ4=>br b (Y3 (wp G k 14).t [] σ4 QQ) (QQ false σ4)
  let K2 (d:D):Prop:=Y0 (wp G k 13).e [.const (.int 5)] (.val d) [.Lt] σ fun v σ3=>x7 v σ3 fun b σ4=>br b (Y3 (wp G k 14).t [UO] σ4 QQ) (QQ false σ4)
  let K1 (v:V):Prop:=N1 v (.val (.int 0)) σ fun w σ1=>R7 [w] σ1 fun ds σ2=>cal G k 486 ds fun d=>Y0 (wp G k 13).e [.const (.int 5)] (.val d) [.Lt] σ2 fun v σ3=>x7 v σ3 fun b σ4=>br b (Y3 (wp G k 14).t [UO] σ4 QQ) (QQ false σ4)
  have hE (ht:o.twice z.1=false):El:=e5 h6 h7 ht
  have h8:(((o.kind:Nat):Int)==8)=(o.kind==8):=dO o.kind 8
  have q:br (((o.kind:Nat):Int)==8) (br (bI o.lz==1) (oe (L6 (((l++[z]).map f7).map V.val) (-1)) K1) El) El:=by
   rw[h8,pK]
   refine g8 (fun a=>g8 (fun b=>?_) fun b=>hE (by unfold Od.twice;rw[b,xM,Y8])) fun a=>hE (by unfold Od.twice;rw[a];rfl)
   refine j6 (uV l z) ?_
   refine kc (e9 K2 (m:=z.1.h+1) (n:=m+1) (Ax X z.1 hf.f hf.l) h ?_ (n6.mpr (FH hf.h)))
   refine kc (show br (decide (z.1.load<5)) (oe (L6 (((l++[z]).map f7).map V.val) (-1)) K3) El from g8 (fun c=>?_) fun c=>hE (by unfold Od.twice;rw[c,xM,Y8,Y8]))
   refine j6 (uV l z) ?_
   refine kc (e9 K4 (m:=z.1.h) (n:=m+1) (Yc X z.1) h ?_ (n6.mpr (by have:=hf.h;lia)))
   exact kc (show br (z.1.loops==0) B El from g8 (fun d=>hb (by unfold Od.twice;rw[a,b,c,d];rfl)) fun d=>hE (by unfold Od.twice;rw[d,Y8,Y8,Y8]))
  exact kc q
 have e3 (h6:(o.kind==6)=false):(wp G k 17).x [] σ (D2 17 3):=by
  have h7:(((o.kind:Nat):Int)==7)=(o.kind==7):=dO o.kind 7
  have q:br (((o.kind:Nat):Int)==7) ((wp G k 16).x (j8 F8 3).l5 σ (D2 16 4)) ((wp G k 16).x [] σ (D2 16 4)):=by
   rw[h7]
   refine g8 (fun a=>?_) fun a=>e4 h6 a
   have b:=Vy (k:=k) X la l z num cell o (by lia) (by lia)
   have e:R0 la (l++[z]) num o=l++[bW la num o.lz z]:=by rw[hO,h6,a];rfl
   rw[<-e] at b
   exact b
  exact kc q
 have h6:(((o.kind:Nat):Int)==6)=(o.kind==6):=dO o.kind 6
 have q:br (((o.kind:Nat):Int)==6) ((wp G k 17).x (j8 F8 2).l5 σ (D2 17 3)) ((wp G k 17).x [] σ (D2 17 3)):=by
  rw[h6]
  refine g8 (fun a=>?_) fun a=>e3 a
  have b:=Wa (k:=k) X la l z (num:Nat) cell o m hm hf (by lia) h
  have e:R0 la (l++[z]) num o=l++[o.loop la z]:=by rw[hO,a];rfl
  rw[<-e] at b
  exact b
 exact kc q
theorem Yd (X:FX G) (la:Bool) (l:List (N×T)) (num:Nat) (cell:Int) (o:Od) (hd:digits cell [10,16,3,4,2,2]=o.ds) (hw:o.what<16) (m:Nat) (hm:5<=m) (hs:iS m (o.sign la).1) (hf:∀ x,x∈l->iS m x.1) (hl:l.length+2<=1000) :
  At G (m+2) 505 [w4 l,.int (num:Nat),.int cell,.int (fl la).i] (w4 (R0 la l num o)):=by
 refine fnAt X (b:=F8) (by rfl) (by rfl) fun k h=>?_
 let R:=w4 (R0 la l num o)
 have zN:d9=1000000:=rfl
 let D5:List (Option V):=[v_ (w4 l),v_ (.int (num:Nat)),v_ (.int cell),v_ (.int (fl la).i),none,none,none,none,none,none,none,none,none,none]
 let vs:=kY la l (num:Nat) cell o none none none none
 let Bk (mu:List M):=(wp G k 18).x (j8 F8 1).l5 ⟨vs,mu⟩ (l8 (wp G k 18) (F8.drop 2) (f6 R))
 let El:=(wp G k 18).x [] (rJ la l (num:Nat) cell o) (l8 (wp G k 18) (F8.drop 2) (f6 R))
 have hb (mu:List M) (V0:mu=[fR]∨mu=[fR,.list []]) (h6:o.kind<6∨l=[]):Bk mu:=by
  have a:=Vz (k:=k) X la l (num:Nat) cell o mu V0 hw m hm hs (by lia) h
  have e:R0 la l num o=l++[o.leaf la]:=by
   unfold R0
   rcases h6 with h6 | rfl
   ·rw[decide_eq_true h6];rfl
   ·show(bif decide (o.kind<6)||true then _ else _)=_
    rw[Bool.or_true];rfl
  rw[<-e] at a
  exact a
 have q:br (decide (((o.kind:Nat):Int)<6)) (Bk [fR]) (br (l.map f7).isEmpty (Bk X4) El):=by
  refine g8 (fun a=>hb _ (.inl rfl) (.inl (by have:=of_decide_eq_true a;lia))) fun a=>g8 (fun b=>hb _ (.inr rfl) (.inr ?_)) fun b=>?_
  ·induction l using List.casesOn with
   | nil=>rfl
   | cons _ _=>exact ft b
  ·rcases qM l with rfl |⟨l',z,rfl⟩
   ·exact tf b
   ·exact Wd X la l' z num cell o m hm (hf z (n7.mpr (.inr (j5.mpr rfl)))) (by rw[o7] at hl;exact Nat.le_of_succ_le hl) h (by have:=of_decide_eq_false a;lia)
 let K:D->Prop:=fun d=>C6 (.tup [4,5,6,7,8,9]) (.val d) ⟨D5,[fR]⟩ fun σ=>(wp G k 19).x (F8.drop 1) σ (f6 R)
 have k1:K (n5 o.ds):=by
  refine j6 (o:=U6 [fR] (.val (n5 o.ds))) (f:=fun l=>j7 (Nat.beq 6 l.length&&true) ((wp G k 19).x (F8.drop 1) ⟨bindTo [4,5,6,7,8,9] l D5,[fR]⟩ (f6 R))) (x:=(o.ds.map D.int).map V.val) rfl (s9 rfl ?_)
  exact kc q
 have a:=Aw X cell [10,16,3,4,2,2] (by decide) (by decide)
 rw[hd] at a
 exact kc (e9 K (m:=1) a h k1 (n6.mpr (by lia)))
end
section
variable {G:Gd} {k n:Nat}
noncomputable def nM (re:D):List M:=[.inst 202,.attrs 202 [.val re,.val .none,.val .none,.loc 2],.list []]
theorem Lc (X:FX G) (re:D):C8 G (k+1) (.ref 199) [.loc 0,.val re,.val .none,.val .none] [.inst 202,.attrs 202 []] (fun r d8=>r=.val .none/\d8=nM re):=
 X.fn (np:=4) (nd:=0) (ne:=0) (b:=SK) (by rfl) (by rfl) ⟨20,kc (⟨rfl,rfl⟩:V.val .none=V.val .none/\nM re=nM re)⟩
theorem ZS (X:FX G) (re:D):iV G 2 202 [re,.none,.none] (.loc 0) (nM re):=fun k hk=>
 X.up hk (X.cls (C:=202) (fI:=199) (by rfl) (Lc X re))
noncomputable def fY (C:Addr) (w:Int):List M:=[.inst C,.attrs C [.val .none,.val (.bool true),.val (.int w),.val (.bool false)]]
theorem UL (X:FX G) (C:Addr) (hC:C=343∨C=441):C8 G (k+1) (.ref 221) [.loc 0] [.inst C,.attrs C []] (fun r d8=>r=.val .none/\d8=fY C 0):=by
 refine X.fn (np:=1) (nd:=2) (ne:=0) (b:=SM) (by rfl) (by rfl) ⟨20,?_⟩
 rcases hC with rfl | rfl
 ·exact kc (⟨rfl,rfl⟩:V.val .none=V.val .none/\fY 343 0=fY 343 0) (by kernel_rfl)
 ·exact kc (⟨rfl,rfl⟩:V.val .none=V.val .none/\fY 441 0=fY 441 0) (by kernel_rfl)
theorem ZT (X:FX G) (C:Addr) (hC:C=343∨C=441):iV G 2 C [] (.loc 0) (fY C 0):=fun k hk=>
 X.up hk (by
  rcases hC with rfl | rfl
  ·exact X.cls (C:=343) (fI:=221) (by rfl) (UL X 343 (.inl rfl))
  ·exact X.cls (C:=441) (fI:=221) (by rfl) (UL X 441 (.inr rfl)))
theorem C7 (W:Nat) (l:List S) (vars:List (Option V)) (mu:List M) (Q:Fl->St->Prop):(wp G k (W+1)).x l ⟨vars,mu⟩ Q=wpS (wp G k W) l Q ⟨vars,mu⟩:=by
 have e:(wp G k (W+1)).x=wO (wp G k W):=by kernel_rfl
 rw[e]
 show rD vars (fun vs=>rD mu fun mu=>wpS (wp G k W) l Q ⟨vs,mu⟩)=_
 rw[rE,rE]
theorem Ld (X:FX G) (re pa:D) (mu:List M) (s:V) (hk:1<=k):C8 G k (.ref 228) [s,.val re,.val pa] mu (fun r d8=>r=.val (.tup [pa,.bool false])/\d8=mu):=
 X.up hk (k:=0+1) <| X.fn (np:=3) (nd:=0) (ne:=0) (b:=GN) (by rfl) (by rfl) ⟨20,by
  show(wp G 0 20).x GN ⟨[some s,v_ re,v_ pa],mu⟩ _
  rw[C7]
  exact kc (⟨rfl,rfl⟩:V.val (.tup [pa,.bool false])=V.val (.tup [pa,.bool false])/\mu=mu)⟩
theorem Le (X:FX G) (d:D) (mu:List M) (s:V) (hk:1<=k):C8 G k (.ref 242) [s,.val d] mu (fun r d8=>r=.val d/\d8=mu):=
 X.up hk (k:=0+1) <| X.fn (np:=2) (nd:=0) (ne:=0) (b:=GO) (by rfl) (by rfl) ⟨20,by
  show(wp G 0 20).x GO ⟨[some s,v_ d],mu⟩ _
  rw[C7]
  exact kc (⟨rfl,rfl⟩:V.val d=V.val d/\mu=mu)⟩
end
section
variable {G:Gd} {k n:Nat}
theorem mY {r:Nat} {l:List V} {i:Int} {v:V} {vs:List (Option V)} {mu:List M} {Q:V->St->Prop} (h:mu[r]?=some (.list l)) (h2:L6 l i=some v) (q:Q v ⟨vs,mu⟩):N1 (.loc r) (.val (.int i)) ⟨vs,mu⟩ Q:=by
 have e:U6 mu (.loc r)=some l:=by show Option.casesOn (motive:=fun ζ=>Option (List V)) ((mu[r]?).bind M.E5) _ _=_;rw[h];rfl
 show oe (some i) fun k=>Option.casesOn (U6 mu (.loc r)) (oe (dictAt mu (.loc r) k) fun v=>Q v ⟨vs,mu⟩) fun l=>oe (L6 l k) fun v=>Q v ⟨vs,mu⟩
 refine e▸?_
 exact j6 (o:=L6 l i) h2 q
theorem tE {i j:Nat} {c:Addr} {l:List V} {p:Nat} {v:V} {vs:List (Option V)} {mu:List M} {Q:V->St->Prop} (h:mu[i]?=some (.inst c)) (h2:mu[i+1]?=some (.attrs c l)) (h3:posOf c j=some p) (h4:l[p]?=some v) (q:Q v ⟨vs,mu⟩):cM (.loc i) j ⟨vs,mu⟩ Q:=by
 show oe (mu[i]?) _
 refine j6 h ?_
 show oe ((mu[i+1]?).bind M.attrs?) _
 refine j6 (x:=(c,l)) (by rw[h2];rfl) (s9 (yE c) (j6 h3 (j6 h4 q)))
theorem aC3 {i j:Nat} {c:Addr} {l:List V} {p:Nat} {v:V} {vs:List (Option V)} {mu:List M} {Q:St->Prop} (h:mu[i]?=some (.inst c)) (h2:mu[i+1]?=some (.attrs c l)) (h3:posOf c j=some p) (h4:p<=l.length) (q:Q ⟨vs,mu.set (i+1) (.attrs c (setAt l p v))⟩):DB (.loc i) j v ⟨vs,mu⟩ Q:=by
 show oe (some i) fun i=>oe ((mu[i]?).bind M.zT) _
 refine j6 (x:=i) rfl (j6 (x:=c) (by rw[h];rfl) (j6 (x:=(c,l)) (by show(mu[i+1]?).bind M.attrs?=_;rw[h2];rfl) (s9 (yE c) (j6 h3 (s9 (n6.mpr h4) ?_)))))
 rw[rE];exact q
theorem vD {W:Wp} {m:Mt} {args:List E} {i:Nat} {c f:Addr} {l:List V} {vs:List (Option V)} {mu:List M} {Q:V->St->Prop} (h:mu[i]?=some (.inst c)) (h2:mu[i+1]?=some (.attrs c l)) (h3:qI c m=some f)
  (q:aC W.e args ⟨vs,mu⟩ fun us σ''=>∃ P,C8 G k (.ref f) (.loc i::us) σ''.mu P/\∀ r mu,P r mu->Q r ⟨σ''.vars,mu⟩):P4 G k W m args (.loc i) ⟨vs,mu⟩ Q:=by
 show oe (some i) fun i=>oe (mu[i]?) _
 refine j6 (x:=i) rfl (j6 h ?_)
 exact j6 h3 (j6 (x:=(c,l)) (by show(mu[i+1]?).bind M.attrs?=_;rw[h2];rfl) (s9 (yE c) q))
theorem GC {W:Wp} {e:E} {i:Nat} {l:List V} {vs:List (Option V)} {mu:List M} {Q:V->St->Prop} (h:mu[i]?=some (.list l)) (q:W.e e ⟨vs,mu⟩ fun v σ''=>lB i v σ'' Q):P4 G k W .append [e] (.loc i) ⟨vs,mu⟩ Q:=by
 show oe (some i) fun i=>oe (mu[i]?) _
 refine j6 (x:=i) rfl (j6 h ?_)
 exact q
theorem GB {i:Nat} {l:List V} {v:V} {vs:List (Option V)} {mu:List M} {Q:V->St->Prop} (h:mu[i]?=some (.list l)) (hl:l.length<d9) (q:Q (.val .none) ⟨vs,mu.set i (.list (l++[v]))⟩):lB i v ⟨vs,mu⟩ Q:=
 j6 (x:=l) (by show(mu[i]?).bind M.list?=_;rw[h];rfl) (s9 (n6.mpr hl) q)
theorem wC (W:Nat) (rest:List S) (σ:St) (Q:Fl->St->Prop) (q:(wp G k (W+1)).x rest σ Q):(wp G k (W+1)).x [] σ (l8 (wp G k (W+1)) rest Q):=by
 obtain⟨vs,mu⟩:=σ;rw[C7];exact q
noncomputable def jJ (C:Addr) (w:Int):M:=.attrs C [.val .none,.val (.bool true),.val (.int w),.val (.bool false)]
noncomputable def mR (C:Addr) (w:Int) (t:D) (mu:List M):List M:=mu.set 1 (jJ C (w+1))++[M.inst 202,M.attrs 202 [.val t,.val .none,.val .none,.loc (mu.length+2)],M.list []]
noncomputable def Z2 (C:Addr) (w:Int) (t:D) (r:Nat) (l:List V) (mu:List M):List M:=(mR C w t mu).set r (M.list (l++[.loc mu.length]))
theorem UN (X:FX G) (C:Addr) (hC:C=343∨C=441) (w:Int) (t:D) (r q:Nat) (xs:List V) (vl:V) (rt:V) (mu:List M) (h0:mu[0]?=some (.inst C)) (h1:mu[1]?=some (jJ C w))
  (hr:mu[r]?=some (.list (xs++[.loc q]))) (hq:mu[q]?=some (.inst 202)) (hq1:mu[q+1]?=some (.attrs 202 [rt,.val .none,.val .none,vl])) (hl:xs.length+1<d9) (hk:2<=k) :
  C8 G (k+1) (.ref 263) [.loc 0,.loc r,.val t] mu (fun v d8=>v=.val .none/\d8=Z2 C w t r (xs++[.loc q]) mu):=by
 refine X.fn (np:=3) (nd:=0) (ne:=3) (b:=N8) (by rfl) (by rfl) ⟨20,?_⟩
 let r9:=mu.set 1 (jJ C (w+1))
 let X0:=mR C w t mu
 let P:V->List M->Prop:=fun v d8=>v=.val .none/\d8=Z2 C w t r (xs++[.loc q]) mu
 let Q:=fW P
 let vs (a b c:Option V):List (Option V):=[some (.loc 0),some (.loc r),v_ t,a,b,c]
 have lt (i:Nat) (m:M) (h:mu[i]?=some m):i<mu.length:=(aK.mp h).1
 have hl1:r9.length=mu.length:=M5
 have r1:r≠1:=by rintro rfl;rw[h1] at hr;cases hr
 have m0:r9[0]?=some (.inst C):=by show(mu.set 1 _)[0]?=_;rw[N4 (by decide),h0]
 have m1:r9[1]?=some (jJ C (w+1)):=by show(mu.set 1 _)[1]?=_;rw[gH (lt 1 _ h1)]
 have mr:r9[r]?=some (.list (xs++[.loc q])):=by show(mu.set 1 _)[r]?=_;rw[N4 (U4 r1),hr]
 have Uu:X0[r]?=some (.list (xs++[.loc q])):=by show(r9++_)[r]?=_;rw[aJ (by rw[hl1];exact lt r _ hr),mr]
 show(wp G k 20).x N8 ⟨vs none none none,mu⟩ Q
 have s4:(wp G k 16).x (N8.drop 4) ⟨vs (v_ .none) (v_ .none) (v_ (.bool false)),r9⟩ Q:=by
  rw[C7]
  let Nv:E:=.new 202 [.var 2,.var 3,.var 4]
  let Q2:V->St->Prop:=fun v σ'=>((wp G k 14).x [] σ' (l8 (wp G k 15) [] Q))
  refine kc (show br false ((wp G k 15).x (j8 N8 4).l5 ⟨vs (v_ .none) (v_ .none) (v_ (.bool false)),r9⟩ (l8 (wp G k 15) [] Q)) ((wp G k 15).x (j8 N8 4).els ⟨vs (v_ .none) (v_ .none) (v_ (.bool false)),r9⟩ (l8 (wp G k 15) [] Q)) from ?_)
  show(wp G k 15).x (j8 N8 4).els ⟨vs (v_ .none) (v_ .none) (v_ (.bool false)),r9⟩ (l8 (wp G k 15) [] Q)
  rw[C7]
  refine kc (show P4 G k (wp G k 13) .append [Nv] (.loc r) ⟨vs (v_ .none) (v_ .none) (v_ (.bool false)),r9⟩ Q2 from GC mr ?_)
  let K:V->List M->Prop:=fun v m=>lB r (L7 r9.length v) (laid ⟨vs (v_ .none) (v_ .none) (v_ (.bool false)),r9⟩ m) Q2
  refine kc (vA (K:=K) (ZS X t) hk ?_)
  have e:laid ⟨vs (v_ .none) (v_ .none) (v_ (.bool false)),r9⟩ (nM t)=⟨vs (v_ .none) (v_ .none) (v_ (.bool false)),X0⟩:=by
   show St.mk _ (r9++[.inst 202,.attrs 202 [.val t,.val .none,.val .none,.loc (r9.length+2)],.list []])=_
   rw[hl1];rfl
  show lB r (.loc r9.length) (laid _ _) Q2
  rw[e,hl1]
  refine GB Uu (by rw[o7];exact hl) ?_
  show(wp G k 14).x [] _ (l8 (wp G k 15) [] Q)
  rw[C7]
  show l8 (wp G k 15) [] Q .next _
  show(wp G k 15).x [] _ Q
  rw[C7]
  exact⟨rfl,rfl⟩
 have s3:(wp G k 17).x (N8.drop 3) ⟨vs (v_ .none) none none,r9⟩ Q:=by
  rw[C7]
  let Q2:V->St->Prop:=fun v σ'=>wM (wp G k 16) (.t (.tup [4,5])) v σ' fun σ''=>(wp G k 16).x (N8.drop 4) σ'' Q
  refine kc (show P4 G k (wp G k 15) .pre [.var 2,.var 3] (.loc 0) ⟨vs (v_ .none) none none,r9⟩ Q2 from vD m0 m1 (f:=228) (by rcases hC with rfl | rfl<;>rfl) ?_)
  let K:List V->St->Prop:=fun us σ''=>∃ P,C8 G k (.ref 228) (.loc 0::us) σ''.mu P/\∀ r mu,P r mu->Q2 r ⟨σ''.vars,mu⟩
  refine kc (show K [.val t,.val .none] ⟨vs (v_ .none) none none,r9⟩ from⟨_,Ld X t .none r9 (.loc 0) (by lia),?_⟩)
  rintro v m ⟨rfl,rfl⟩
  exact CP (K:=fun σ''=>(wp G k 16).x (N8.drop 4) σ'' Q) rfl s4
 have s2:(wp G k 18).x (N8.drop 2) ⟨vs (v_ .none) none none,mu⟩ Q:=by
  rw[C7]
  let Q3:St->Prop:=fun σ3=>(wp G k 17).x (N8.drop 3) σ3 Q
  let Q2:V->St->Prop:=fun a σ'=>rY .Add a (.val (.int 1)) σ' fun v σ''=>wM (wp G k 17) (.attr (.var 0) 17) v σ'' Q3
  refine kc (show cM (.loc 0) 17 ⟨vs (v_ .none) none none,mu⟩ Q2 from tE h0 h1 (p:=2) (by rcases hC with rfl | rfl<;>rfl) rfl ?_)
  exact kc (show DB (.loc 0) 17 (.val (.int (w+1))) ⟨vs (v_ .none) none none,mu⟩ Q3 from aC3 h0 h1 (p:=2) (by rcases hC with rfl | rfl<;>rfl) (H9 2 2) s3)
 have s1:(wp G k 19).x (N8.drop 1) ⟨vs (v_ .none) none none,mu⟩ Q:=by
  rw[C7]
  let σ:St:=⟨vs (v_ .none) none none,mu⟩
  let QQ:Bool->St->Prop:=fun r σ'=>br r ((wp G k 18).x (j8 N8 1).l5 σ' (l8 (wp G k 18) (N8.drop 2) Q)) ((wp G k 18).x [] σ' (l8 (wp G k 18) (N8.drop 2) Q))
  let c2:E:=.cmp (.attr (.var 0) 17) [.GtE] [.attr (.var 0) 15]
  let Q2:V->St->Prop:=fun a σ'=>Y0 (wp G k 16).e [.const .none] a [.IsNot] σ' fun v σ''=>x7 v σ'' fun b σ3=>br b (Y3 (wp G k 17).t [c2] σ3 QQ) (QQ false σ3)
  refine kc (show cM (.loc 0) 15 σ Q2 from tE h0 h1 (p:=0) (by rcases hC with rfl | rfl<;>rfl) rfl ?_)
  exact kc (show br false False ((wp G k 18).x [] σ (l8 (wp G k 18) (N8.drop 2) Q)) from wC 17 _ _ _ s2)
 rw[C7]
 let Q2:V->St->Prop:=fun v σ'=>cM v 13 σ' fun w σ''=>C6 (.var 3) w σ'' fun σ3=>(wp G k 19).x (N8.drop 1) σ3 Q
 refine kc (show N1 (.loc r) (.val (.int (-1))) ⟨vs none none none,mu⟩ Q2 from mY hr (rC _ _) ?_)
 exact tE hq hq1 (p:=2) rfl rfl (s9 (Q:=False) rfl s1)
end
section
variable {G:Gd} {k n:Nat}
noncomputable def Agree (v:Nat) (mu d8:List M):Prop:=mu.length<=d8.length/\∀ i,i<mu.length->i≠v->d8[i]?=mu[i]?
theorem Agree.refl (v:Nat) (mu:List M):Agree v mu mu:=⟨g7 _,fun ζ ζ ζ=>rfl⟩
theorem Agree.set (v:Nat) (mu:List M) (m:M):Agree v mu (mu.set v m):=⟨I0 M5.symm,fun i ζ h=>N4 (U4 h)⟩
theorem Agree.app (v:Nat) {mu d8:List M} (l:List M) (h:Agree v mu d8):Agree v mu (d8++l):=⟨by rw[o7];exact k6 h.1 (H9 _ _),fun i hi hv=>by rw[aJ (W3 hi h.1)];exact h.2 i hi hv⟩
theorem Agree.set' (v:Nat) {mu d8:List M} (m:M) (h:Agree v mu d8):Agree v mu (d8.set v m):=⟨by rw[M5];exact h.1,fun i hi hv=>by rw[N4 (U4 hv)];exact h.2 i hi hv⟩
noncomputable def oA (mu:List M) (v:Nat) (l:List T):Prop:=mu[v]?=some (.list (LV l))∨mu[v]?=some (.frozen (.lst (T.ds l)))
theorem aA3 {mu:List M} {v:Nat} {l:List T} (h:oA mu v l):∃ m,fz 6 mu (.loc v)=some (.lst (T.ds l),m)/\(m=mu∨m=mu.set v (.frozen (.lst (T.ds l)))):=by
 rcases h with h | h
 ·exact⟨_,bZ h,.inr rfl⟩
 ·refine⟨mu,?_,.inl rfl⟩
  show(mu[v]?).bind _=_
  rw[h];rfl
theorem aA4 {mu:List M} {v:Nat} {l:List T} (h:oA mu v l):∃ m,G6 (fz 6) mu [.loc v]=some ([.lst (T.ds l)],m)/\(m=mu∨m=mu.set v (.frozen (.lst (T.ds l)))):=by
 obtain⟨m,e,q⟩:=aA3 h
 exact⟨m,zI e,q⟩
noncomputable def T.re (t:T) (vals:List T):T:=bif t.subs.isEmpty then t else t.CU vals
noncomputable def W6 (t:T) (vals:List T):T:=Option.casesOn (bif t.op==5 then jN vals else none) (t.re vals) fun row=>C5 row t.fg
noncomputable def CB (t:T) (vals:List T):T:=T.casesOn t (fun o f=>.leaf o f) (fun r f=>.lit r f) (fun rs f=>.str rs f) M0 (fun l f=>(T.cat l f).re vals) (fun l f=>(T.alt l f).re vals) (fun o s f=>O3 o (vals.headD s) f) (fun lo hi s f=>I6 (vals.headD s) lo.toNat (E9 hi) f) (fun c nm s f=>(T.cap c nm s f).re vals)
noncomputable def CT (t:T) (v:Nat):List (Option V):=[some (.loc 0),v_ t.d,v_ .none,v_ .none,some (.loc v)]
noncomputable def iW (v:Nat) (mu:List M) (d:D):V->List M->Prop:=fun r d8=>r=.val d/\Agree v mu d8
theorem So (t:T):t.sD.isEmpty=t.subs.isEmpty:=by rw[T.kQ];cases t.subs<;>rfl
theorem Bw (X:FX G) (W:Nat) (t:T) (vals:List T) (v:Nat) (x5:List (Option V)) (I2 mu:List M) (ha:Agree v I2 mu) (hv:oA mu v vals) (hlen:vals.length=t.subs.length) (h:3<=k) :
  (wp G k (W+6)).x (J8.drop 3) ⟨CT t v++x5,mu⟩ (fW (iW v I2 (t.re vals).d)):=by
 rw[C7]
 let r9:=mu++[M.list []]
 let σ:St:=⟨CT t v++x5,r9⟩
 have h1:oA r9 v vals:=by
  rcases hv with e | e
  ·exact .inl (by rw[aJ (aK.mp e).1];exact e)
  ·exact .inr (by rw[aJ (aK.mp e).1];exact e)
 have ha1:Agree v I2 r9:=ha.app v _
 let K:List D->St->Prop:=fun ds σ'=>cal G k 164 ds fun d=>iW v I2 (t.re vals).d (.val d) σ'.mu
 let F (r:Bool):Prop:=br r (iW v I2 (t.re vals).d (.val t.d) r9) (R7 [.val t.d,.loc v] σ K)
 have f:F t.sD.isEmpty:=by
  rw[So]
  refine g8 (fun e=>⟨by unfold T.re;rw[e];rfl,ha1⟩) fun e=>?_
  obtain⟨m,e1,e2⟩:=aA4 h1
  refine j6 (x:=([t.d,.lst (T.ds vals)],m)) ?_ ?_
  ·show(G6 (fz 6) r9 [.loc v]).map (fun y=>(t.d::y.1,y.2))=_
   rw[e1];rfl
  ·refine J0 (Ww X t vals (fun z=>by rw[z] at e;exact tf e) hlen) h ⟨by unfold T.re;rw[e];rfl,?_⟩
   rcases e2 with rfl | rfl
   ·exact ha1
   ·exact ha1.set' v _
 have pe:pk 6 r9 (.loc mu.length)=some (.lst []):=by
  show((mu++[M.list []])[mu.length]?).bind _=_
  rw[jD (g7 _),lZ];rfl
 let Z:D->Prop:=fun e=>oe (B8 (.lst t.sD) e) fun r=>j7 (Nat.ble (dep e) 90) (F r)
 have z:Z (.lst []):=j6 (x:=t.sD.isEmpty) rfl (s9 rfl f)
 exact kc (j6 (f:=Z) pe z)
end
section
variable {G:Gd} {k n:Nat}
theorem Lg (X:FX G) (t:T) (vals:List T) (v:Nat) (mu:List M) (hv:mu[v]?=some (.list (LV vals))) (hlen:vals.length=t.subs.length) (hl:vals.length<d9) (h:7<=k) :
  C8 G k (.ref 333) [.loc 0,.val t.d,.val .none,.val .none,.loc v] mu (iW v mu (W6 t vals).d):=by
 obtain⟨k,rfl⟩:∃ j,k=j+1:=⟨k-1,by lia⟩
 have h:6<=k:=by lia
 refine X.fn (np:=5) (nd:=0) (ne:=1) (b:=bV) (by rfl) (by rfl) ⟨20,?_⟩
 let P:=iW v mu (W6 t vals).d
 let Q:=fW P
 let vs (a:Option V):List (Option V):=CT t v++[a]
 show(wp G k 20).x bV ⟨vs none,mu⟩ Q
 have tail (a:Option V) (d8:List M) (ha:Agree v mu d8) (hv':oA d8 v vals) (e:W6 t vals=t.re vals):(wp G k 18).x (bV.drop 2) ⟨vs a,d8⟩ Q:=by
  have z:=Bw (G:=G) (k:=k) X 12 t vals v [a] mu d8 ha hv' hlen (by lia)
  rw[<-e] at z
  exact z
 have s1 (o:Option (List T)) (d8:List M) (ha:Agree v mu d8) (hv':oA d8 v vals) (e:W6 t vals=Option.casesOn o (t.re vals) fun row=>C5 row t.fg):(wp G k 19).x (bV.drop 1) ⟨vs (v_ (BF o)),d8⟩ Q:=by
  rw[C7]
  induction o using Option.casesOn with
  | none=>exact kc (show br false False ((wp G k 18).x [] ⟨vs (v_ .none),d8⟩ (l8 (wp G k 18) (bV.drop 2) Q)) from wC 17 _ _ _ (tail _ d8 ha hv' e))
  | some row=>
   refine kc (show br true ((wp G k 18).x (j8 bV 1).l5 ⟨vs (v_ (.lst (T.ds row))),d8⟩ (l8 (wp G k 18) (bV.drop 2) Q)) False from ?_)
   show(wp G k 18).x (j8 bV 1).l5 ⟨vs (v_ (.lst (T.ds row))),d8⟩ (l8 (wp G k 18) (bV.drop 2) Q)
   rw[C7]
   exact kc (e9 (fun d=>P (.val d) d8) (m:=4) (vP X row t.fg) h ⟨by rw[e],ha⟩ (n6.mpr (by lia)))
 rw[C7]
 let S (d:D) (d8:List M):Prop:=j7 true ((wp G k 19).x (bV.drop 1) ⟨vs (v_ d),d8⟩ Q)
 let K:List D->St->Prop:=fun ds σ'=>cal G k 319 ds fun d=>C6 (.var 5) (.val d) σ' fun σ''=>(wp G k 19).x (bV.drop 1) σ'' Q
 have q:br (t.op==5) (R7 [.loc v] ⟨vs none,mu⟩ K) (S .none mu):=by
  refine g8 (fun e=>?_) fun e=>?_
  ·refine j6 (x:=([.lst (T.ds vals)],mu.set v (.frozen (.lst (T.ds vals))))) (zI (bZ hv)) ?_
   refine J0 (Xm X vals hl) (by omega) ?_
   refine s9 (Q:=False) rfl (s1 (jN vals) _ (Agree.set _ _ _) (.inr ?_) ?_)
   ·rw[gH (aK.mp hv).1]
   ·unfold W6;rw[e];rfl
  ·exact s1 none mu (Agree.refl _ _) (.inl hv) (by unfold W6;rw[e];rfl)
 exact kc q
theorem Li (X:FX G) (t:T) (vals:List T) (v:Nat) (mu:List M) (hv:mu[v]?=some (.list (LV vals))) (hlen:vals.length=t.subs.length) (h:8<=k)
  (hr:∀ lo hi s f,t=.rep lo hi s f->0<=lo/\lo<=1000/\(hi=-1∨lo<=hi/\hi<=1000)/\(vals.headD s).size<=d9) :
  C8 G k (.ref 431) [.loc 0,.val t.d,.val .none,.val .none,.loc v] mu (iW v mu (CB t vals).d):=by
 obtain⟨k,rfl⟩:∃ j,k=j+1:=⟨k-1,by lia⟩
 have h:7<=k:=by lia
 refine X.fn (np:=5) (nd:=0) (ne:=0) (b:=J8) (by rfl) (by rfl) ⟨20,?_⟩
 let P:=iW v mu (CB t vals).d
 let Q:=fW P
 let σ:St:=⟨CT t v++[],mu⟩
 have one (s:T) (hs:t.subs.length=1):∃ x,vals=[x]:=by
  rw[hs] at hlen
  match vals,hlen with
  | [x],_=>exact⟨x,rfl⟩
 have s3 (e:CB t vals=t.re vals):(wp G k 17).x (J8.drop 3) σ Q:=by
  have z:=Bw (G:=G) (k:=k) X 11 t vals v [] mu mu (Agree.refl _ _) (.inl hv) hlen (by lia)
  rw[<-e] at z
  exact z
 have s2:t.G1=false->(t.op==10)=false->(wp G k 18).x (J8.drop 2) σ Q:=fun h1 h2=>by
  rw[C7]
  let B:=(wp G k 17).x (j8 J8 2).l5 σ (l8 (wp G k 17) (J8.drop 3) Q)
  have q:br (t.op==20) B ((wp G k 17).x [] σ (l8 (wp G k 17) (J8.drop 3) Q)):=by
   refine g8 (fun e=>?_) fun e=>wC 16 _ _ _ (s3 ?_)
   ·induction t using T.casesOn with
    | leaf o f=>induction o using Lf.casesOn<;>exact ft e
    | loop o s f=>exact tf h1
    | cls g f=>
     show(wp G k 17).x (j8 J8 2).l5 σ (l8 (wp G k 17) (J8.drop 3) Q)
     rw[C7]
     exact kc (e9 (fun d=>P (.val d) mu) (m:=4) (Xo X g f) h ⟨rfl,Agree.refl _ _⟩ (n6.mpr (by lia)))
    | _=>exact ft e
   ·induction t using T.casesOn with
    | loop o s f=>exact tf h1
    | rep lo hi s f=>exact tf h2
    | cls g f=>exact tf e
    | _=>rfl
  exact kc q
 have s1 (h1:t.G1=false):(wp G k 19).x (J8.drop 1) σ Q:=by
  rw[C7]
  let B:=(wp G k 18).x (j8 J8 1).l5 σ (l8 (wp G k 18) (J8.drop 2) Q)
  have q:br (t.op==10) B ((wp G k 18).x [] σ (l8 (wp G k 18) (J8.drop 2) Q)):=by
   refine g8 (fun e=>?_) fun e=>wC 17 _ _ _ (s2 h1 e)
   induction t using T.casesOn with
   | leaf o f=>induction o using Lf.casesOn<;>exact ft e
   | loop o s f=>exact tf h1
   | rep lo hi s f=>
    obtain⟨x,rfl⟩:=one s rfl
    obtain⟨b1,b2,b3,b4⟩:=hr lo hi s f rfl
    show(wp G k 18).x (j8 J8 1).l5 σ (l8 (wp G k 18) (J8.drop 2) Q)
    rw[C7]
    have e1:((lo.toNat:Nat):Int)=lo:=by lia
    have e2:q9 (E9 hi)=hi:=by
     unfold E9
     cases ee:hi==-1 with
     | true=>exact(eq_of_beq ee).symm
     | false=>have:=beq_eq_false_iff_ne.mp ee;show((hi.toNat:Nat):Int)=hi;lia
    have a:=Xs X x lo.toNat (E9 hi) f b4 (by lia) (fun y hy=>by
     unfold E9 at hy
     cases ee:hi==-1 with
     | true=>rw[ee] at hy;exact nn hy
     | false=>
      rw[ee] at hy
      have:=beq_eq_false_iff_ne.mp ee
      have hy:=si hy
      lia)
    rw[e1,e2] at a
    let K (w:V):Prop:=R7 [w,.val (.int lo),.val (.int hi),.val (.int f.i)] σ fun ds σ'=>cal G k 417 ds fun d=>P (.val d) σ'.mu
    have q:K (.val x.d):=e9 (fun d=>P (.val d) mu) (m:=7) a h ⟨rfl,Agree.refl _ _⟩ (n6.mpr (by lia))
    exact kc (mY (vs:=σ.vars) (Q:=fun w σ'=>K w) hv (i:=0) (v:=.val x.d) rfl q)
   | _=>exact ft e
  exact kc q
 show(wp G k 20).x J8 σ Q
 rw[C7]
 let B:=(wp G k 19).x (j8 J8 0).l5 σ (l8 (wp G k 19) (J8.drop 1) Q)
 have q:br (7==t.op||(8==t.op||(9==t.op||false))) B ((wp G k 19).x [] σ (l8 (wp G k 19) (J8.drop 1) Q)):=by
  rw[fT]
  refine g8 (fun e=>?_) fun e=>wC 18 _ _ _ (s1 e)
  induction t using T.casesOn with
  | loop o s f=>
   obtain⟨x,rfl⟩:=one s rfl
   show(wp G k 19).x (j8 J8 0).l5 σ (l8 (wp G k 19) (J8.drop 1) Q)
   rw[C7]
   let K (w:V):Prop:=R7 [.val (T.loop o s f).d,w] σ fun ds σ'=>cal G k 396 ds fun d=>P (.val d) σ'.mu
   have q:K (.val x.d):=e9 (fun d=>P (.val d) mu) (m:=6) (Xp X o s x f) h ⟨rfl,Agree.refl _ _⟩ (n6.mpr (by lia))
   exact kc (mY (vs:=σ.vars) (Q:=fun w σ'=>K w) hv (i:=0) (v:=.val x.d) rfl q)
  | _=>exact ft e
 exact kc q
end
noncomputable def Ub (op:Int):Lf:=bif op==1 then .iG else bif op==2 then .empty else bif op==12 then .mD else bif op==13 then .tC else bif op==14 then .bol else bif op==15 then .zF else bif op==16 then .word else bif op==17 then .AV else bif op==18 then .bot else .zG
noncomputable def Zv (op:Int) (f:Fg) (subs:List T) (lo hi cap:Int) (nm:Bool) (kP:Int) (O2:List Int) (ranges:List (Int×Int)):T:=
 bif op==3 then .lit kP f else bif op==4 then .str O2 f else bif op==20 then .cls ranges f else bif op==5 then .cat subs f else bif op==6 then .alt subs f else
 bif op==7 then .loop .star (subs.headD default) f else bif op==8 then .loop .plus (subs.headD default) f else bif op==9 then .loop .quest (subs.headD default) f else
 bif op==10 then .rep lo hi (subs.headD default) f else bif op==11 then .cap cap nm (subs.headD default) f else .leaf (Ub op) f
noncomputable def T.AS (t:T):Bool:=T.casesOn t (fun ζ ζ=>false) (fun ζ ζ=>false) (fun ζ ζ=>false) (fun ζ ζ=>false) (fun ζ ζ=>false) (fun ζ ζ=>false) (fun ζ ζ ζ=>false) (fun ζ ζ ζ ζ=>false) (fun ζ nm ζ ζ=>nm)
theorem Cf (t:T):Zv t.op t.fg t.subs t.lo t.hi t.tR t.AS t.kP t.O2 t.ranges=t:=by
 induction t using T.casesOn with
 | leaf o f=>induction o using Lf.casesOn<;>rfl
 | loop o s f=>induction o using Lk.casesOn<;>rfl
 | _=>rfl
theorem ZV (t:T):t.vK=G9 t.AS:=by induction t using T.casesOn<;>rfl
theorem Ux {a b:Bool} (h:G9 a=G9 b):a=b:=by
 induction a using Bool.casesOn<;>induction b using Bool.casesOn<;>first | rfl | cases h
theorem Ou:∀ a b c a' b' c':Bool,Fg.i ⟨a,b,c⟩=Fg.i ⟨a',b',c'⟩->(⟨a,b,c⟩:Fg)=⟨a',b',c'⟩:=by decide +kernel
theorem Ot {f g:Fg} (h:f.i=g.i):f=g:=Ou _ _ _ _ _ _ h
theorem map_inj {α β:Type} {f:α->β} (hf:∀ a b,f a=f b->a=b):∀{l m:List α},l.map f=m.map f->l=m
 | [],[],_=>rfl
 | [],_::_,h=>by cases h
 | _::_,[],h=>by cases h
 | a::l,b::m,h=>by
  injection h with h1 h2
  rw[hf a b h1,map_inj hf h2]
theorem aA8 {l m:List Int} (h:n5 l=n5 m):l=m:=by
 injection h with h
 exact map_inj (fun a b e=>by injection e) h
theorem Zt {l m:List (Int×Int)} (h:A7 l=A7 m):l=m:=by
 injection h with h
 refine map_inj (fun a b e=>?_) h
 injection e with e
 injection e with e1 e2
 injection e2 with e2 _
 injection e1 with e1
 injection e2 with e2
 exact fB e1 e2
theorem aF9 {l m:List T} (ih:∀ x,x∈l->∀ y,x.d=y.d->x=y):l.map T.d=m.map T.d->l=m:=by
 induction l generalizing m with
 | nil=>induction m using List.casesOn with
  | nil=>exact fun ζ=>rfl
  | cons _ _=>exact fun h=>by cases h
 | cons a l hl=>induction m using List.casesOn with
  | nil=>exact fun h=>by cases h
  | cons b m=>
   intro h
   injection h with h1 h2
   rw[ih a f9 b h1,hl (fun x hx=>ih x (l6 _ hx)) h2]
theorem T.h_mem {t s:T} (h:s∈t.subs):s.h<t.h:=by
 rw[T.jR t];exact lX (T.aX h)
theorem T.aQ {P:T->Prop} (h:∀ t,(∀ s,s.h<t.h->P s)->P t):∀ t,P t:=by
 have:∀ n,∀ x:T,x.h<n->P x:=fun n=>by
  induction n with
  | zero=>exact fun x h=>absurd h (aN _)
  | succ n ih=>exact fun x hx=>h x fun y hy=>ih y (by lia)
 exact fun x=>this (x.h+1) x (A1 _)
theorem T.inj:∀ t s:T,t.d=s.d->t=s:=T.aQ fun t ih s h=>by
 have h:D.obj 55 [.int t.op,.int t.fg.i,.lst t.sD,.int t.lo,.int t.hi,.int t.tR,t.vK,.int t.kP,n5 t.O2,A7 t.ranges,.int 0]=D.obj 55 [.int s.op,.int s.fg.i,.lst s.sD,.int s.lo,.int s.hi,.int s.tR,s.vK,.int s.kP,n5 s.O2,A7 s.ranges,.int 0]:=h
 injection h with _ h
 injection h with h1 h
 injection h with h2 h
 injection h with h3 h
 injection h with h4 h
 injection h with h5 h
 injection h with h6 h
 injection h with h7 h
 injection h with h8 h
 injection h with h9 h
 injection h with Qn h
 injection h1 with h1
 injection h2 with h2
 injection h3 with h3
 injection h4 with h4
 injection h5 with h5
 injection h6 with h6
 injection h8 with h8
 rw[T.kQ,T.kQ] at h3
 rw[ZV,ZV] at h7
 rw[<-Cf t,<-Cf s,h1,Ot h2,aF9 (fun x hx y e=>ih x (T.h_mem hx) y e) h3,h4,h5,h6,Ux h7,h8,aA8 h9,Zt Qn]
section
variable {G:Gd} {k n:Nat}
theorem e_eq (W:Nat) (x:E) (σ:St) (Q:V->St->Prop):(wp G k (W+1)).e x σ Q=fZ G k (wp G k W) x σ Q:=by
 have e:(wp G k (W+1)).e=fZ G k (wp G k W):=by kernel_rfl
 rw[e]
theorem mP {W i:Nat} {v:V} {vs:List (Option V)} {mu:List M} {Q:V->St->Prop} (h:vs[i]?=some (some v)) (q:Q v ⟨vs,mu⟩):(wp G k (W+1)).e (.var i) ⟨vs,mu⟩ Q:=by
 rw[e_eq]
 show oe ((vs[i]?).bind id) _
 exact j6 (by rw[h];rfl) q
theorem aT {W i j loc:Nat} {c:Addr} {l:List V} {p:Nat} {v:V} {vs:List (Option V)} {mu:List M} {Q:V->St->Prop} (hv:vs[i]?=some (some (.loc loc))) (h:mu[loc]?=some (.inst c)) (h2:mu[loc+1]?=some (.attrs c l)) (h3:posOf c j=some p) (h4:l[p]?=some v) (q:Q v ⟨vs,mu⟩):(wp G k (W+2)).e (.attr (.var i) j) ⟨vs,mu⟩ Q:=by
 rw[e_eq]
 exact mP hv (tE h h2 h3 h4 q)
theorem Zj {W:Wp} {i:Nat} {l:List V} {v:V} {vs:List (Option V)} {mu:List M} {Q:V->St->Prop} (h:mu[i]?=some (.list (l++[v]))) (q:Q v ⟨vs,mu.set i (.list l)⟩):P4 G k W .pop [] (.loc i) ⟨vs,mu⟩ Q:=by
 show oe (some i) fun i=>oe (mu[i]?) _
 refine j6 (x:=i) rfl (j6 h ?_)
 show oe ((mu[i]?).bind M.list?) _
 refine j6 (x:=l++[v]) (by rw[h];rfl) (j6 oV ?_)
 rw[oS];exact q
theorem ZC {mu:List M} {c:Nat} {l:List V} (h:mu[c]?=some (.list l)):U6 mu (.loc c)=some l:=by
 show Option.casesOn (motive:=fun ζ=>Option (List V)) ((mu[c]?).bind M.E5) _ _=_
 rw[h];rfl
structure Fr where
 t:T
 done:Nat
 loc:Nat
noncomputable def S9 (Fn:T->T) (f:Fr):List V:=LV ((f.t.subs.take f.done).map Fn)
structure Y4 (Fn:T->T) (mu:List M) (f:Fr):Prop where
 i:mu[f.loc]?=some (.inst 202)
 a:mu[f.loc+1]?=some (.attrs 202 [.val f.t.d,.val .none,.val .none,.loc (f.loc+2)])
 v:mu[f.loc+2]?=some (.list (S9 Fn f))
noncomputable def Below (Fn:T->T) (t:T) (mu:List M):Nat->T->List Fr->Prop
 | _,x,[]=>x=t
 | b,x,g::l=>g.loc+3<=b/\6<=g.loc/\g.t.subs[g.done]?=some x/\Y4 Fn mu g/\Below Fn t mu g.loc g.t l
theorem Y4.mono {Fn:T->T} {mu d8:List M} {f:Fr} (h:∀ i,6<=i->i<f.loc+3->d8[i]?=mu[i]?) (h6:6<=f.loc) (x:Y4 Fn mu f):Y4 Fn d8 f:=
 ⟨by rw[h _ h6 (by lia)];exact x.i,by rw[h _ (by lia) (by lia)];exact x.a,by rw[h _ (by lia) (by lia)];exact x.v⟩
theorem Below.mono {Fn:T->T} {t:T} {mu d8:List M}:∀{l:List Fr} {b:Nat} {x:T},(∀ i,6<=i->i<b->d8[i]?=mu[i]?)->Below Fn t mu b x l->Below Fn t d8 b x l
 | [],_,_,_,h=>h
 | g::l,b,x,h,hb=>⟨hb.1,hb.2.1,hb.2.2.1,hb.2.2.2.1.mono (fun i h1 h2=>h i h1 (W3 h2 hb.1)) hb.2.1,Below.mono (fun i h1 h2=>h i h1 (by have:=hb.1;lia)) hb.2.2.2.2⟩
theorem Below.depth {Fn:T->T} {t:T} {mu:List M}:∀{l:List Fr} {b:Nat} {x:T},Below Fn t mu b x l->l.length+x.h<=t.h:=by
 intro b7
 induction b7 with
 | nil=>intro _ _ h;rw[h];exact I0 (W4 _)
 | cons g l ih=>
  intro b x h
  have:=ih h.2.2.2.2
  have:=T.h_mem (aL h.2.2.1)
  show l.length+1+_<=_;lia
noncomputable def iQ:List Fr->Nat
 | []=>0
 | g::l=>1+2*T.sizes (g.t.subs.drop (g.done+1))+iQ l
structure Base (Fn:T->T) (C:Addr) (w:Int) (rv:List T) (st:List Fr) (mu:List M):Prop where
 c0:mu[0]?=some (.inst C)
 c1:mu[1]?=some (jJ C w)
 c2:mu[2]?=some (.inst 202)
 c3:mu[3]?=some (.attrs 202 [.val .none,.val .none,.val .none,.loc 4])
 c4:mu[4]?=some (.list (LV rv))
 c5:mu[5]?=some (.list (.loc 2::(st.map fun f=>V.loc f.loc).reverse))
noncomputable def I7 (t:T) (a b:Option V):List (Option V):=[some (.loc 0),v_ t.d,v_ .none,some (.loc 2),some (.loc 5),a,b]
noncomputable def lO (Fn:T->T) (C:Addr) (t:T) (n:Nat) (σ:St):Prop:=
 (∃ w mu,n=0/\σ=⟨I7 t none none,mu⟩/\Base Fn C w [Fn t] [] mu)∨
 (∃ w mu f l,n=1+2*T.sizes (f.t.subs.drop f.done)+iQ l/\σ=⟨I7 t none none,mu⟩/\Base Fn C w [] (f::l) mu/\f.done<=f.t.subs.length/\f.loc+3<=mu.length/\6<=f.loc/\Y4 Fn mu f/\Below Fn t mu f.loc f.t l)
structure Wk (G:Gd) (k:Nat) (C fp:Addr) (Fn:T->T) (Gt:T->Prop):Prop where
 c:C=343∨C=441
 m:qI C .post=some fp
 p:∀(t:T) (v:Nat) (mu:List M),Gt t->mu[v]?=some (.list (LV (t.subs.map Fn)))->C8 G k (.ref fp) [.loc 0,.val t.d,.val .none,.val .none,.loc v] mu (iW v mu (Fn t).d)
 s:∀ t s,Gt t->s∈t.subs->Gt s
 l:∀ t,Gt t->t.subs.length+10<d9
end
section
variable {G:Gd} {k n:Nat}
theorem vJ (W:Nat) (σ:St) (Q:Fl->St->Prop) (q:Q .next σ):(wp G k (W+1)).x [] σ Q:=by
 obtain⟨vs,mu⟩:=σ;rw[C7];exact q
theorem Ul {mu:List M} {i:Nat} {m:M} (h:mu[i]?=some m):i<mu.length:=(aK.mp h).1
section
variable {C:Addr} {w:Int} {d:D} {l:List V} {mu:List M}
theorem WD:(mR C w d mu).length=mu.length+3:=by unfold mR;rw[o7,M5];rfl
theorem Oa:(Z2 C w d 5 l mu).length=mu.length+3:=by unfold Z2;rw[M5,WD]
theorem tZ {i:Nat} (hi:i<mu.length) (h1:i≠1) (h5:i≠5):(Z2 C w d 5 l mu)[i]?=mu[i]?:=by
 unfold Z2 mR
 rw[N4 (U4 h5),aJ (by rw[M5];exact hi),N4 (U4 h1)]
theorem Ny (h:1<mu.length):(Z2 C w d 5 l mu)[1]?=some (jJ C (w+1)):=by
 unfold Z2 mR
 rw[N4 (by decide),aJ (by rw[M5];exact h),gH h]
theorem Nz (h:5<mu.length):(Z2 C w d 5 l mu)[5]?=some (.list (l++[.loc mu.length])):=by
 unfold Z2
 rw[gH (by rw[WD];lia)]
theorem HU (h:5<mu.length) (i:Nat):(Z2 C w d 5 l mu)[mu.length+i]?=([M.inst 202,M.attrs 202 [.val d,.val .none,.val .none,.loc (mu.length+2)],M.list []]:List M)[i]?:=by
 unfold Z2 mR
 rw[N4 (by lia),jD (by rw[M5];lia),M5,cZ]
end
noncomputable def aP:List S:=(j8 J7 5).l5
noncomputable def VY:List S:=(j8 (j8 aP 2).els 0).els
noncomputable def VA:List S:=(j8 (j8 aP 2).els 0).l5
variable {Fn:T->T} {C fp:Addr} {Gt:T->Prop} {t:T} {f:Fr} {l:List Fr} {w:Int} {mu:List M}
theorem qY (f:Fr) (l:List Fr):(V.loc 2::((f::l).map fun f=>V.loc f.loc).reverse)=(.loc 2::(l.map fun f=>V.loc f.loc).reverse)++[V.loc f.loc]:=by
 rw[N5,jF];rfl
noncomputable def σW (t:T) (f:Fr) (mu:List M):St:=⟨I7 t (some (.loc f.loc)) (v_ (.int (f.done:Nat))),mu⟩
noncomputable def V8 (f:Fr) (l:List Fr):Nat:=1+2*T.sizes (f.t.subs.drop f.done)+iQ l
theorem VU {α:Type} {l:List α} {i:Nat} {x:α} (h:l[i]?=some x):l.drop i=x::l.drop (i+1):=by
 obtain⟨h1,h2⟩:=aK.mp h
 rw[xT h1,h2]
theorem yQ (t:T) (σ:St) (Q:V->St->Prop) (q:Q (.val (.lst t.sD)) σ):cM (.val t.d) 2 σ Q:=kc q
theorem IY {t s:T} {i:Nat} {σ:St} {Q:V->St->Prop} (h:t.subs[i]?=some s) (q:Q (.val s.d) σ):N1 (.val (.lst t.sD)) (.val (.int (i:Nat))) σ Q:=by
 refine kc (show oe (((t.sD.map V.val))[i]?) fun v=>Q v σ from j6 (x:=.val s.d) ?_ q)
 rw[T.kQ,bR,bR,h];rfl
theorem aJ4 (X:FX G) (K:Wk G k C fp Fn Gt) (hk:3<=k) (hh:t.h+10<d9) {Q:Fl->St->Prop} {s:T} (B:Base Fn C w [] (f::l) mu) (hs:f.t.subs[f.done]?=some s) (h3:f.loc+3<=mu.length) (h6:6<=f.loc) (hf:Y4 Fn mu f) (hb:Below Fn t mu f.loc f.t l)
  (q:∀ d8 m,m<V8 f l->lO Fn C t m ⟨I7 t none none,d8⟩->Q .next (σW t f d8)) :
  (wp G k 10).x VY (σW t f mu) Q:=by
 unfold σW
 rw[C7]
 have hl:l.length+f.t.h<=t.h:=Below.depth hb
 let d8:=Z2 C w s.d 5 (.loc 2::((f::l).map fun f=>V.loc f.loc).reverse) mu
 have L5:5<mu.length:=by lia
 have q':Q .next (σW t f d8):=by
  have st:=VU hs
  refine q d8 (V8 ⟨s,0,mu.length⟩ (f::l)) ?_ (.inr ⟨w+1,d8,⟨s,0,mu.length⟩,f::l,rfl,rfl,?_,v7 _,?_,by show 6<=mu.length;lia,?_,?_⟩)
  ·unfold V8
   rw[st]
   show 1+2*T.sizes s.subs+(1+2*T.sizes (f.t.subs.drop (f.done+1))+iQ l)<1+2*(s.size+T.sizes (f.t.subs.drop (f.done+1)))+iQ l
   rw[T.dW s];lia
  ·refine⟨?_,Ny (by lia),?_,?_,?_,?_⟩
   ·rw[tZ (by lia) (by decide) (by decide)];exact B.c0
   ·rw[tZ (by lia) (by decide) (by decide)];exact B.c2
   ·rw[tZ (by lia) (by decide) (by decide)];exact B.c3
   ·rw[tZ (by lia) (by decide) (by decide)];exact B.c4
   ·rw[Nz L5,qY ⟨s,0,mu.length⟩ (f::l)]
  ·rw[Oa];exact g7 _
  ·exact⟨HU L5 0,HU L5 1,HU L5 2⟩
  ·have old (i:Nat) (a:6<=i) (b:i<mu.length):d8[i]?=mu[i]?:=tZ b (by lia) (by lia)
   exact⟨h3,h6,hs,hf.mono (fun i a b=>old i a (by lia)) h6,hb.mono fun i a b=>old i a (by lia)⟩
 have c:=UN (k:=k-1) X C K.c w s.d 5 f.loc (.loc 2::(l.map fun f=>V.loc f.loc).reverse) (.loc (f.loc+2)) (.val f.t.d) mu B.c0 B.c1 (by rw[B.c5,qY]) hf.i hf.a (by rw[eY,jE,i9];lia) (by lia)
 rw[<-qY] at c
 rw[show k-1+1=k by lia] at c
 let Q2:V->St->Prop:=fun v σ'=>(wp G k 9).x [] σ' Q
 let KK:List V->St->Prop:=fun us σ''=>∃ P,C8 G k (.ref 263) (.loc 0::us) σ''.mu P/\∀ r mu,P r mu->Q2 r ⟨σ''.vars,mu⟩
 let σ:St:=⟨I7 t (some (.loc f.loc)) (v_ (.int (f.done:Nat))),mu⟩
 refine kc (show P4 G k (wp G k 8) .enter [.var 4,.idx (.attr (.attr (.var 5) 11) 2) (.var 6)] (.loc 0) σ Q2 from vD B.c0 B.c1 (f:=263) (by rcases K.c with rfl | rfl<;>rfl) ?_)
 show(wp G k 8).e (.var 4) σ fun v σ'=>(wp G k 8).e (.idx (.attr (.attr (.var 5) 11) 2) (.var 6)) σ' fun u σ''=>KK [v,u] σ''
 refine mP rfl ?_
 rw[e_eq]
 show(wp G k 7).e (.attr (.attr (.var 5) 11) 2) σ fun a σ'=>(wp G k 7).e (.var 6) σ' fun b σ''=>N1 a b σ'' fun u σ''=>KK [.loc 5,u] σ''
 rw[e_eq]
 show(wp G k 6).e (.attr (.var 5) 11) σ fun a σ'=>cM a 2 σ' fun a σ'=>(wp G k 7).e (.var 6) σ' fun b σ''=>N1 a b σ'' fun u σ''=>KK [.loc 5,u] σ''
 refine aT rfl hf.i hf.a (p:=0) rfl rfl (yQ _ _ _ (mP rfl (IY hs ?_)))
 exact⟨_,c,fun r m h=>by obtain⟨rfl,rfl⟩:=h;exact vJ 8 _ _ q'⟩
end
section
variable {G:Gd} {k n:Nat}
theorem VW {W:Nat} {σ:St} {Q:V->St->Prop} (q:Q (.val (.int (-1))) σ):(wp G k (W+2)).e (.neg (.const (.int 1))) σ Q:=by
 rw[e_eq]
 show(wp G k (W+1)).e (.const (.int 1)) σ fun v σ'=>oe v.int? fun i=>Q (.val (.int (-i))) σ'
 rw[e_eq]
 exact q
variable {Fn:T->T} {C fp:Addr} {Gt:T->Prop} {t:T} {f:Fr} {l:List Fr} {w:Int} {mu:List M}
theorem OE {s:T} (h:f.t.subs[f.done]?=some s):S9 Fn f++[V.val (Fn s).d]=S9 Fn ⟨f.t,f.done+1,f.loc⟩:=by
 unfold S9
 show _=LV ((f.t.subs.take (f.done+1)).map Fn)
 obtain⟨h1,h2⟩:=aK.mp h
 rw[List.take_succ_eq_append_getElem h1,o4,h2,cP];rfl
theorem Y4.step {s:T} {d8:List M} (h6:6<=f.loc) (hs:f.t.subs[f.done]?=some s) (hf:Y4 Fn mu f) (h2:d8[f.loc+2]?=some (.list (S9 Fn f++[V.val (Fn s).d]))) (h:∀ i,6<=i->i<f.loc+2->d8[i]?=mu[i]?):Y4 Fn d8 ⟨f.t,f.done+1,f.loc⟩:=
 ⟨by show d8[f.loc]?=_;rw[h _ h6 (by lia)];exact hf.i,by show d8[f.loc+1]?=_;rw[h _ (by lia) (by lia)];exact hf.a,by show d8[f.loc+2]?=_;rw[h2,OE hs]⟩
theorem aK9 {s:T} (hs:f.t.subs[f.done]?=some s):V8 ⟨f.t,f.done+1,f.loc⟩ l<V8 f l:=by
 unfold V8
 rw[VU hs]
 show 1+2*T.sizes (f.t.subs.drop (f.done+1))+iQ l<1+2*(s.size+T.sizes (f.t.subs.drop (f.done+1)))+iQ l
 rw[T.dW s];lia
theorem aJ3 (X:FX G) (K:Wk G k C fp Fn Gt) (hk:3<=k) {Q:Fl->St->Prop} {s y:T} {j:Nat} (B:Base Fn C w [] (f::l) mu) (hj:f.done=j+1) (hy:f.t.subs[j]?=some y) (hs:f.t.subs[f.done]?=some s) (hys:y=s) (Ro:f.t.subs.length<d9) (h3:f.loc+3<=mu.length) (h6:6<=f.loc) (hf:Y4 Fn mu f) (hb:Below Fn t mu f.loc f.t l)
  (q:∀ d8 m,m<V8 f l->lO Fn C t m ⟨I7 t none none,d8⟩->Q .next (σW t f d8)) :
  (wp G k 10).x VA (σW t f mu) Q:=by
 unfold σW
 rw[C7]
 let d8:=mu.set (f.loc+2) (.list (S9 Fn f++[V.val (Fn s).d]))
 have hd:f.done<f.t.subs.length:=(aK.mp hs).1
 have old (i:Nat) (a:i≠f.loc+2):d8[i]?=mu[i]?:=N4 (U4 a)
 have q':Q .next (σW t f d8):=by
  refine q d8 (V8 ⟨f.t,f.done+1,f.loc⟩ l) (aK9 hs) (.inr ⟨w,d8,⟨f.t,f.done+1,f.loc⟩,l,rfl,rfl,⟨?_,?_,?_,?_,?_,?_⟩,hd,?_,h6,hf.step h6 hs ?_ fun i ζ b=>old i (by lia),hb.mono fun i ζ b=>old i (by have b:i<f.loc:=b;lia)⟩)
  ·rw[old _ (by lia)];exact B.c0
  ·rw[old _ (by lia)];exact B.c1
  ·rw[old _ (by lia)];exact B.c2
  ·rw[old _ (by lia)];exact B.c3
  ·rw[old _ (by lia)];exact B.c4
  ·rw[old _ (by lia)];exact B.c5
  ·show f.loc+3<=(mu.set _ _).length;rw[M5];exact h3
  ·exact gH (by lia)
 have last:S9 Fn f=LV ((f.t.subs.take j).map Fn)++[V.val (Fn s).d]:=by
  have:=OE (Fn:=Fn) (f:=⟨f.t,j,f.loc⟩) hy
  rw[hys] at this
  unfold S9
  rw[hj];exact this.symm
 have hlen:(S9 Fn f).length<d9:=by unfold S9;rw[bO,i9,eZ];lia
 let Q2:V->St->Prop:=fun v σ'=>(wp G k 9).x [] σ' Q
 let Q3:V->St->Prop:=fun v σ''=>lB (f.loc+2) v σ'' Q2
 let KK:List V->St->Prop:=fun us σ''=>∃ P,C8 G k (.ref 242) (.loc 0::us) σ''.mu P/\∀ r mu,P r mu->Q3 r ⟨σ''.vars,mu⟩
 let σ:St:=⟨I7 t (some (.loc f.loc)) (v_ (.int (f.done:Nat))),mu⟩
 let ec:E:=.A5 (.var 0) .copy [.idx (.attr (.var 5) 14) (.neg (.const (.int 1)))]
 refine kc (show(wp G k 8).e (.attr (.var 5) 14) σ fun a σ'=>P4 G k (wp G k 8) .append [ec] a σ' Q2 from aT rfl hf.i hf.a (p:=3) rfl rfl (GC hf.v ?_))
 rw[e_eq]
 show(wp G k 7).e (.var 0) σ fun a σ'=>P4 G k (wp G k 7) .copy [.idx (.attr (.var 5) 14) (.neg (.const (.int 1)))] a σ' Q3
 refine mP rfl (vD B.c0 B.c1 (f:=242) (by rcases K.c with rfl | rfl<;>rfl) ?_)
 show(wp G k 7).e (.idx (.attr (.var 5) 14) (.neg (.const (.int 1)))) σ fun v σ'=>KK [v] σ'
 rw[e_eq]
 show(wp G k 6).e (.attr (.var 5) 14) σ fun a σ'=>(wp G k 6).e (.neg (.const (.int 1))) σ' fun b σ''=>N1 a b σ'' fun v σ'=>KK [v] σ'
 refine aT rfl hf.i hf.a (p:=3) rfl rfl (VW (mY hf.v (by rw[last];exact rC _ _) ?_))
 refine⟨_,Le X (Fn s).d mu (.loc 0) (by lia),fun r m h=>?_⟩
 obtain⟨rfl,rfl⟩:=h
 exact GB hf.v hlen (vJ 8 _ _ q')
end
section
variable {G:Gd} {k n:Nat}
noncomputable def vV:List S:=(j8 aP 2).l5
variable {Fn:T->T} {C fp:Addr} {Gt:T->Prop} {t:T} {f:Fr} {l:List Fr} {w:Int} {mu:List M}
theorem Bu (X:FX G) (K:Wk G k C fp Fn Gt) (hk:3<=k) {Q:Fl->St->Prop} (hg:Gt f.t) (B:Base Fn C w [] (f::l) mu) (hd:f.done=f.t.subs.length) (h3:f.loc+3<=mu.length) (h6:6<=f.loc) (hf:Y4 Fn mu f)
  (q u:Nat) (rt:V) (us xs:List V) (hx:V.loc 2::(l.map fun f=>V.loc f.loc).reverse=xs++[.loc q]) (hq:mu[q]?=some (.inst 202)) (hq1:mu[q+1]?=some (.attrs 202 [rt,.val .none,.val .none,.loc u])) (hu:mu[u]?=some (.list us)) (q5:q+1<f.loc/\q≠5/\q+1≠5) (u5:u≠5/\u<f.loc) (Rz:us.length<d9)
  (fin:∀ dN:List M,mu.length<=dN.length->(∀ i,i<mu.length->i≠5->i≠f.loc+2->i≠u->dN[i]?=mu[i]?)->dN[5]?=some (.list (V.loc 2::(l.map fun f=>V.loc f.loc).reverse))->dN[u]?=some (.list (us++[.val (Fn f.t).d]))->Q .next (σW t f dN)) :
  (wp G k 11).x vV (σW t f mu) Q:=by
 unfold σW
 rw[C7]
 let R5:=V.loc 2::(l.map fun f=>V.loc f.loc).reverse
 let r9:=mu.set 5 (.list R5)
 let σ:St:=⟨I7 t (some (.loc f.loc)) (v_ (.int (f.done:Nat))),mu⟩
 let σ1:St:=⟨I7 t (some (.loc f.loc)) (v_ (.int (f.done:Nat))),r9⟩
 let Qp:V->St->Prop:=fun v σ'=>(wp G k 10).x (vV.drop 1) σ' Q
 refine kc (show P4 G k (wp G k 9) .pop [] (.loc 5) σ Qp from Zj (l:=R5) (v:=.loc f.loc) (by rw[B.c5,qY]) ?_)
 show(wp G k 10).x (vV.drop 1) σ1 Q
 rw[C7]
 have old (i:Nat) (h:i≠5):r9[i]?=mu[i]?:=N4 (U4 h)
 have m5:r9[5]?=some (.list (xs++[.loc q])):=by rw[<-hx];exact gH (by lia)
 have hq':r9[q]?=some (.inst 202):=by rw[old _ q5.2.1];exact hq
 have Rt:r9[q+1]?=some (.attrs 202 [rt,.val .none,.val .none,.loc u]):=by rw[old _ q5.2.2];exact hq1
 have XS:r9[u]?=some (.list us):=by rw[old _ u5.1];exact hu
 have hi':r9[f.loc]?=some (.inst 202):=by rw[old _ (by lia)];exact hf.i
 have ha':r9[f.loc+1]?=some (.attrs 202 [.val f.t.d,.val .none,.val .none,.loc (f.loc+2)]):=by rw[old _ (by lia)];exact hf.a
 have c0:r9[0]?=some (.inst C):=by rw[old _ (by decide)];exact B.c0
 have c1:r9[1]?=some (jJ C w):=by rw[old _ (by decide)];exact B.c1
 have hv':r9[f.loc+2]?=some (.list (LV (f.t.subs.map Fn))):=by
  rw[old _ (by lia),hf.v];unfold S9;rw[hd,List.take_length]
 let Q2:V->St->Prop:=fun v σ'=>(wp G k 9).x [] σ' Q
 let Q3:V->St->Prop:=fun v σ''=>lB u v σ'' Q2
 let KK:List V->St->Prop:=fun us σ''=>∃ P,C8 G k (.ref fp) (.loc 0::us) σ''.mu P/\∀ r mu,P r mu->Q3 r ⟨σ''.vars,mu⟩
 let args:List E:=[.attr (.var 5) 11,.attr (.var 5) 12,.attr (.var 5) 13,.attr (.var 5) 14]
 let ec:E:=.A5 (.var 0) .post args
 refine kc (show(wp G k 6).e (.var 4) σ1 fun a σ'=>(wp G k 6).e (.neg (.const (.int 1))) σ' fun b σ''=>N1 a b σ'' fun o σ3=>cM o 14 σ3 fun a σ'=>P4 G k (wp G k 8) .append [ec] a σ' Q2 from mP rfl (VW (mY m5 (rC _ _) (tE hq' Rt (p:=3) rfl rfl (GC XS ?_)))))
 rw[e_eq]
 show(wp G k 7).e (.var 0) σ1 fun a σ'=>P4 G k (wp G k 7) .post args a σ' Q3
 refine mP rfl (vD c0 c1 K.m ?_)
 show(wp G k 7).e (.attr (.var 5) 11) σ1 fun a σ'=>(wp G k 7).e (.attr (.var 5) 12) σ' fun b σ''=>(wp G k 7).e (.attr (.var 5) 13) σ'' fun c σ3=>(wp G k 7).e (.attr (.var 5) 14) σ3 fun d σ4=>KK [a,b,c,d] σ4
 refine aT rfl hi' ha' (p:=0) rfl rfl (aT rfl hi' ha' (p:=1) rfl rfl (aT rfl hi' ha' (p:=2) rfl rfl (aT rfl hi' ha' (p:=3) rfl rfl ?_)))
 refine⟨_,K.p f.t (f.loc+2) r9 hg hv',fun r X0 h=>?_⟩
 obtain⟨rfl,ag⟩:=h
 have l1:r9.length=mu.length:=M5
 have u2:X0[u]?=some (.list us):=by rw[ag.2 u (by lia) (by lia)];exact XS
 refine GB u2 Rz (vJ 8 _ _ (fin _ ?_ (fun i a b c d=>?_) ?_ ?_))
 ·rw[M5];have:=ag.1;lia
 ·rw[N4 (U4 d),ag.2 i (by lia) c,old i b]
 ·rw[N4 u5.1,ag.2 5 (by lia) (by lia),m5,<-hx]
 ·exact gH (Ul u2)
theorem aJ5 (X:FX G) (K:Wk G k C fp Fn Gt) (hk:3<=k) {Q:Fl->St->Prop} (hg:Gt f.t) (Rf:∀ g,g∈l->Gt g.t) (B:Base Fn C w [] (f::l) mu) (hd:f.done=f.t.subs.length) (h3:f.loc+3<=mu.length) (h6:6<=f.loc) (hf:Y4 Fn mu f) (hb:Below Fn t mu f.loc f.t l)
  (q:∀ d8 m,m<V8 f l->lO Fn C t m ⟨I7 t none none,d8⟩->Q .next (σW t f d8)) :
  (wp G k 11).x vV (σW t f mu) Q:=by
 induction l using List.casesOn with
 | nil=>
  have ht:f.t=t:=hb
  refine Bu X K hk hg B hd h3 h6 hf 2 4 (.val .none) [] [] rfl B.c2 B.c3 B.c4 ⟨by lia,by decide,by decide⟩ ⟨by decide,by lia⟩ (by unfold d9;decide) fun dN a b c d=>?_
  refine q dN 0 (by unfold V8;lia) (.inl ⟨w,dN,rfl,rfl,?_,?_,?_,?_,?_,c⟩)
  ·rw[b 0 (by lia) (by decide) (by lia) (by decide)];exact B.c0
  ·rw[b 1 (by lia) (by decide) (by lia) (by decide)];exact B.c1
  ·rw[b 2 (by lia) (by decide) (by lia) (by decide)];exact B.c2
  ·rw[b 3 (by lia) (by decide) (by lia) (by decide)];exact B.c3
  ·rw[d,ht];rfl
 | cons g l=>
  obtain⟨b1,b2,b3,b4,b5⟩:=hb
  have Ro:=K.l g.t (Rf g f9)
  have hlen:(S9 Fn g).length<d9:=by unfold S9;rw[bO,i9,eZ];lia
  refine Bu X K hk hg B hd h3 h6 hf g.loc (g.loc+2) (.val g.t.d) (S9 Fn g) _ (qY g l) b4.i b4.a b4.v ⟨by lia,by lia,by lia⟩ ⟨by lia,by lia⟩ hlen fun dN a b c d=>?_
  have hlt:g.done<g.t.subs.length:=(aK.mp b3).1
  refine q dN (V8 ⟨g.t,g.done+1,g.loc⟩ l) ?_ (.inr ⟨w,dN,⟨g.t,g.done+1,g.loc⟩,l,rfl,rfl,⟨?_,?_,?_,?_,?_,c⟩,hlt,?_,b2,Y4.step b2 b3 b4 d fun i x y=>b i (by lia) (by lia) (by lia) (by lia),b5.mono fun i x y=>?_⟩)
  ·unfold V8
   show 1+2*T.sizes (g.t.subs.drop (g.done+1))+iQ l<1+2*T.sizes (f.t.subs.drop f.done)+(1+2*T.sizes (g.t.subs.drop (g.done+1))+iQ l)
   lia
  ·rw[b 0 (by lia) (by decide) (by lia) (by lia)];exact B.c0
  ·rw[b 1 (by lia) (by decide) (by lia) (by lia)];exact B.c1
  ·rw[b 2 (by lia) (by decide) (by lia) (by lia)];exact B.c2
  ·rw[b 3 (by lia) (by decide) (by lia) (by lia)];exact B.c3
  ·rw[b 4 (by lia) (by decide) (by lia) (by lia)];exact B.c4
  ·show g.loc+3<=_;lia
  ·have y:i<g.loc:=y
   exact b i (by lia) (by lia) (by lia) (by lia)
end
section
variable {G:Gd} {k n:Nat}
variable {Fn:T->T} {C fp:Addr} {Gt:T->Prop} {t:T} {f:Fr} {l:List Fr} {w:Int} {mu:List M}
theorem Below.good (K:Wk G k C fp Fn Gt) (ht:Gt t):∀{l:List Fr} {b:Nat} {x:T},Below Fn t mu b x l->Gt x/\∀ g,g∈l->Gt g.t:=by
 intro b7
 induction b7 with
 | nil=>intro _ _ h;exact⟨by rw[show _=t from h];exact ht,fun ζ h=>absurd h A8⟩
 | cons g l ih=>
  intro b x h
  have a:=ih h.2.2.2.2
  refine⟨K.s _ _ a.1 (aL h.2.2.1),fun y hy=>?_⟩
  rcases v5.mp hy with rfl | hy
  ·exact a.1
  ·exact a.2 y hy
theorem aJ1 (X:FX G) (K:Wk G k C fp Fn Gt) (hk:3<=k) (ht:Gt t) (hh:t.h+10<d9) {Q:Fl->St->Prop} (B:Base Fn C w [] (f::l) mu) (hd:f.done<=f.t.subs.length) (h3:f.loc+3<=mu.length) (h6:6<=f.loc) (hf:Y4 Fn mu f) (hb:Below Fn t mu f.loc f.t l)
  (q:∀ d8 m,m<V8 f l->lO Fn C t m ⟨I7 t none none,d8⟩->Q .next (σW t f d8)) :
  (wp G k 14).x aP ⟨I7 t none none,mu⟩ Q:=by
 have hg:=Below.good K ht hb
 have Rm:(S9 Fn f).length=f.done:=by unfold S9;rw[bO,i9,eZ];lia
 let Q1:=l8 (wp G k 11) [] Q
 have q1:∀ d8 m,m<V8 f l->lO Fn C t m ⟨I7 t none none,d8⟩->Q1 .next (σW t f d8):=fun d8 m h1 h2=>vJ 10 _ _ (q d8 m h1 h2)
 let Q2:=l8 (wp G k 10) [] Q1
 have q2:∀ d8 m,m<V8 f l->lO Fn C t m ⟨I7 t none none,d8⟩->Q2 .next (σW t f d8):=fun d8 m h1 h2=>vJ 9 _ _ (q1 d8 m h1 h2)
 have Rq:(f.t.sD.map V.val).length=f.t.subs.length:=by rw[i9,T.kQ,i9]
 have s2:(wp G k 12).x (aP.drop 2) (σW t f mu) Q:=by
  unfold σW
  rw[C7]
  let σ:=σW t f mu
  let Th (σ:St):Prop:=(wp G k 11).x vV σ Q1
  let El (σ:St):Prop:=(wp G k 11).x (j8 aP 2).els σ Q1
  have el (hne:f.done<f.t.subs.length):El σ:=by
   obtain⟨s,hs⟩:∃ s,f.t.subs[f.done]?=some s:=⟨_,P5 hne⟩
   show(wp G k 11).x (j8 aP 2).els ⟨I7 t (some (.loc f.loc)) (v_ (.int (f.done:Nat))),mu⟩ Q1
   rw[C7]
   let Cp (σ:St):Prop:=(wp G k 10).x VA σ Q2
   let En (σ:St):Prop:=(wp G k 10).x VY σ Q2
   have en:En σ:=aJ4 X K hk hh B hs h3 h6 hf hb q2
   let QQ:Bool->St->Prop:=fun r σ'=>br r (Cp σ') (En σ')
   let c2:E:=.cmp (.var 6) [.Gt] [.const (.int 0)]
   let ei:E:=.idx (.attr (.attr (.var 5) 11) 2) (.var 6)
   let ej:E:=.idx (.attr (.attr (.var 5) 11) 2) (.bin .Sub (.var 6) (.const (.int 1)))
   let c3:E:=.cmp ei [.Is] [ej]
   let Q5:V->St->Prop:=fun v σ'=>x7 v σ' fun b σ''=>br b (Y3 (wp G k 9).t [c2,c3] σ'' QQ) (QQ false σ'')
   refine kc (show(wp G k 9).e (.attr (.var 0) 16) σ Q5 from aT rfl B.c0 B.c1 (p:=1) (by rcases K.c with rfl | rfl<;>rfl) rfl ?_)
   let D3:Prop:=(wp G k 8).e ei σ fun a σ'=>Y0 (wp G k 8).e [ej] a [.Is] σ' fun v σ''=>x7 v σ'' fun b σ3=>br b (Y3 (wp G k 9).t [] σ3 QQ) (QQ false σ3)
   have d3 (hpos:0<f.done):D3:=by
    obtain⟨j,hj⟩:∃ j,f.done=j+1:=⟨f.done-1,by lia⟩
    obtain⟨y,hy⟩:∃ y,f.t.subs[j]?=some y:=⟨_,P5 (by lia)⟩
    show(wp G k 8).e ei ⟨I7 t (some (.loc f.loc)) (v_ (.int (f.done:Nat))),mu⟩ _
    rw[e_eq]
    let QI:V->St->Prop:=fun a σ'=>Y0 (wp G k 8).e [ej] a [.Is] σ' fun v σ''=>x7 v σ'' fun b σ3=>br b (Y3 (wp G k 9).t [] σ3 QQ) (QQ false σ3)
    show(wp G k 7).e (.attr (.attr (.var 5) 11) 2) σ fun a σ'=>(wp G k 7).e (.var 6) σ' fun b σ''=>N1 a b σ'' QI
    rw[e_eq]
    show(wp G k 6).e (.attr (.var 5) 11) σ fun a σ'=>cM a 2 σ' fun a σ'=>(wp G k 7).e (.var 6) σ' fun b σ''=>N1 a b σ'' QI
    refine aT rfl hf.i hf.a (p:=0) rfl rfl (yQ _ _ _ (mP rfl (IY hs ?_)))
    show(wp G k 8).e ej σ fun b σ'=>S8 .Is (.val s.d) b σ' fun v σ''=>x7 v σ'' fun b σ3=>br b (Y3 (wp G k 9).t [] σ3 QQ) (QQ false σ3)
    rw[e_eq]
    let QJ:V->St->Prop:=fun b σ'=>S8 .Is (.val s.d) b σ' fun v σ''=>x7 v σ'' fun b σ3=>br b (Y3 (wp G k 9).t [] σ3 QQ) (QQ false σ3)
    show(wp G k 7).e (.attr (.attr (.var 5) 11) 2) σ fun a σ'=>(wp G k 7).e (.bin .Sub (.var 6) (.const (.int 1))) σ' fun b σ''=>N1 a b σ'' QJ
    rw[e_eq]
    show(wp G k 6).e (.attr (.var 5) 11) σ fun a σ'=>cM a 2 σ' fun a σ'=>(wp G k 7).e (.bin .Sub (.var 6) (.const (.int 1))) σ' fun b σ''=>N1 a b σ'' QJ
    refine aT rfl hf.i hf.a (p:=0) rfl rfl (yQ _ _ _ ?_)
    refine kc (show N1 (.val (.lst f.t.sD)) (.val (.int (((f.done:Nat):Int)-1))) σ QJ from ?_)
    rw[show((f.done:Nat):Int)-1=(j:Nat) by lia]
    refine IY hy ?_
    let Z:Prop:=∀ r:Bool,(r=true->(55,(s.d.obj?.getD (0,[])).2)=((55,(y.d.obj?.getD (0,[])).2):Addr×List D))->br r (Cp σ) (En σ)
    have z:Z:=fun r hr=>by
     induction r using Bool.casesOn with
     | false=>exact en
     | true=>
      have e:=hr rfl
      have e:y.d=s.d:=by
       injection e with _ e
       show D.obj 55 (y.d.obj?.getD (0,[])).2=D.obj 55 (s.d.obj?.getD (0,[])).2
       rw[e]
      exact aJ3 X K hk B hj hy hs (T.inj _ _ e) (by have:=K.l f.t hg.1;lia) h3 h6 hf hb q2
    exact kc z
   refine kc (show br (decide (((f.done:Nat):Int)>0)) D3 (En σ) from g8 (fun e=>d3 (by have:=of_decide_eq_true e;lia)) fun ζ=>en)
  have q0:br (((f.done:Nat):Int)==((f.t.sD.map V.val).length:Nat)) (Th σ) (El σ):=by
   rw[Rq,dO]
   refine g8 (fun e=>aJ5 X K hk hg.1 hg.2 B (eq_of_beq e) h3 h6 hf hb q1) fun e=>el ?_
   have:=beq_eq_false_iff_ne.mp e
   lia
  let Q6:V->St->Prop:=fun a σ'=>cM a 2 σ' fun b σ''=>CV .len [b] σ'' fun v σ3=>S8 .Eq (.val (.int (f.done:Nat))) v σ3 fun v σ4=>x7 v σ4 fun r σ5=>br r (Th σ5) (El σ5)
  refine kc (show(wp G k 8).e (.attr (.var 5) 11) σ Q6 from aT rfl hf.i hf.a (p:=0) rfl rfl (yQ _ _ _ ?_))
  exact kc q0
 have s1:(wp G k 13).x (aP.drop 1) ⟨I7 t (some (.loc f.loc)) none,mu⟩ Q:=by
  rw[C7]
  let σ:St:=⟨I7 t (some (.loc f.loc)) none,mu⟩
  let Q7:V->St->Prop:=fun b σ''=>CV .len [b] σ'' fun v σ3=>C6 (.var 6) v σ3 fun σ4=>(wp G k 12).x (aP.drop 2) σ4 Q
  refine kc (show(wp G k 11).e (.attr (.var 5) 14) σ Q7 from aT rfl hf.i hf.a (p:=3) rfl rfl ?_)
  show oe (U6 mu (.loc (f.loc+2))) fun l=>C6 (.var 6) (.val (.int l.length)) σ fun σ4=>(wp G k 12).x (aP.drop 2) σ4 Q
  refine j6 (ZC hf.v) (s9 (Q:=False) rfl ?_)
  rw[Rm]
  exact s2
 rw[C7]
 let Q8:V->St->Prop:=fun v σ'=>C6 (.var 5) v σ' fun σ''=>(wp G k 13).x (aP.drop 1) σ'' Q
 refine kc (show N1 (.loc 5) (.val (.int (-1))) ⟨I7 t none none,mu⟩ Q8 from mY B.c5 (by rw[qY];exact rC _ _) (s9 (Q:=False) rfl s1))
end
section
variable {G:Gd} {k n:Nat}
variable {Fn:T->T} {C fp:Addr} {Gt:T->Prop} {t:T}
theorem UM (X:FX G) (K:Wk G k C fp Fn Gt) (hk:3<=k) (ht:Gt t) (hh:t.h+10<d9):C8 G (k+1) (.ref 256) [.loc 0,.val t.d,.val .none] (fY C 0) (fun r ζ=>r=.val (Fn t).d):=by
 refine X.fn (np:=3) (nd:=0) (ne:=4) (b:=J7) (by rfl) (by rfl) ⟨20,?_⟩
 let P:V->List M->Prop:=fun r ζ=>r=.val (Fn t).d
 let Q:=fW P
 let qJ:List M:=[.inst C,jJ C 0,.inst 202,.attrs 202 [.val .none,.val .none,.val .none,.loc 4],.list [],.list [.loc 2]]
 let AP:=Z2 C 0 t.d 5 [.loc 2] qJ
 let D5 (a b:Option V):List (Option V):=[some (.loc 0),v_ t.d,v_ .none,a,b,none,none]
 let I:=lO Fn C t
 have Sb:wh (wp G k 14) (j8 J7 5).nV (j8 J7 5).l5 (J7.drop 6) ⟨I7 t none none,AP⟩ Q:=by
  refine rW (b:=J7) (j:=5) [5,6] I (V8 ⟨t,0,6⟩ []) (.inr ⟨1,AP,⟨t,0,6⟩,[],rfl,rfl,⟨rfl,rfl,rfl,rfl,rfl,rfl⟩,v7 _,g7 _,g7 _,⟨rfl,rfl,rfl⟩,rfl⟩) ?_
  rintro n σ₁ h _
  let J:=Let AP.length [5,6] fun σ''=>∃ m,m<n/\I m σ''
  have nV (vs:List (Option V)) (mu:List M) (l:List V) (h5:mu[5]?=some (.list l)) (hv:vs=I7 t none none) (hq:br (decide (((l.length:Nat):Int)>1)) ((wp G k 14).x aP ⟨vs,mu⟩ (again Q J)) ((wp G k 14).x (J7.drop 6) ⟨vs,mu⟩ Q)):NO (wp G k 14) (j8 J7 5).nV (j8 J7 5).l5 (J7.drop 6) Q J ⟨vs,mu⟩:=by
   subst hv
   let Z:List V->Prop:=fun l=>br (decide (((l.length:Nat):Int)>1)) ((wp G k 14).x aP ⟨I7 t none none,mu⟩ (again Q J)) ((wp G k 14).x (J7.drop 6) ⟨I7 t none none,mu⟩ Q)
   exact kc (j6 (f:=Z) (ZC h5) hq)
  rcases h with⟨w,mu,rfl,rfl,B⟩ |⟨w,mu,f,l,rfl,rfl,B,hd,h3,h6,hf,hb⟩
  ·refine nV _ mu _ B.c5 rfl (U8 rfl ?_)
   rw[C7]
   let Q9:V->St->Prop:=fun a σ'=>N1 a (.val (.int 0)) σ' fun v σ''=>Q (.ret v) σ''
   exact kc (show(wp G k 12).e (.attr (.var 3) 14) ⟨I7 t none none,mu⟩ Q9 from aT rfl B.c2 B.c3 (p:=3) rfl rfl (mY B.c4 (i:=0) (v:=.val (Fn t).d) rfl rfl))
  ·refine nV _ mu _ B.c5 rfl (s9 ?_ ?_)
   ·refine decide_eq_true ?_
    rw[eY,jE,i9,eY];lia
   ·exact aJ1 X K hk ht hh B hd h3 h6 hf hb fun d8 m hm hI=>⟨none,m,hm,hI⟩
 have s5:(wp G k 15).x (J7.drop 5) ⟨D5 (some (.loc 2)) (some (.loc 5)),AP⟩ Q:=by
  rw[C7]
  exact Sb
 have s4:(wp G k 16).x (J7.drop 4) ⟨D5 (some (.loc 2)) (some (.loc 5)),qJ⟩ Q:=by
  rw[C7]
  let Q2:V->St->Prop:=fun v σ'=>(wp G k 15).x (J7.drop 5) σ' Q
  let KK:List V->St->Prop:=fun us σ''=>∃ P,C8 G k (.ref 263) (.loc 0::us) σ''.mu P/\∀ r mu,P r mu->Q2 r ⟨σ''.vars,mu⟩
  have c:=UN (k:=k-1) X C K.c 0 t.d 5 2 [] (.loc 4) (.val .none) qJ rfl rfl rfl rfl rfl (by unfold d9;decide) (by lia)
  rw[show k-1+1=k by lia] at c
  refine kc (show P4 G k (wp G k 14) .enter [.var 4,.var 1] (.loc 0) ⟨D5 (some (.loc 2)) (some (.loc 5)),qJ⟩ Q2 from vD (c:=C) (f:=263) rfl rfl (by rcases K.c with rfl | rfl<;>rfl) ?_)
  refine kc (show KK [.loc 5,.val t.d] ⟨D5 (some (.loc 2)) (some (.loc 5)),qJ⟩ from⟨_,c,fun r m h=>?_⟩)
  obtain⟨rfl,rfl⟩:=h
  exact s5
 let X0:List M:=fY C 0
 have s2:(wp G k 18).x (J7.drop 2) ⟨D5 none none,X0⟩ Q:=by
  let K2:V->List M->Prop:=fun v m=>(wp G k 17).x (J7.drop 3) ⟨D5 (some (L7 2 v)) none,X0++m.map (bM 2)⟩ Q
  have k2:K2 (.loc 0) (nM .none):=kc (show j7 true ((wp G k 16).x (J7.drop 4) ⟨D5 (some (.loc 2)) (some (.loc 5)),qJ⟩ Q) from s4)
  let K3:V->List M->Prop:=fun v m=>C6 (.var 3) (L7 2 v) (laid ⟨D5 none none,X0⟩ m) fun σ=>(wp G k 17).x (J7.drop 3) σ Q
  have k3:K3 (.loc 0) (nM .none):=s9 (Q:=False) rfl k2
  exact kc (vA (k:=k) (n:=2) (K:=K3) (ZS X .none) (by lia) k3)
 show(wp G k 20).x J7 ⟨D5 none none,X0⟩ Q
 rcases K.c with rfl | rfl
 ·exact kc (s2:j7 true ((wp G k 18).x (J7.drop 2) ⟨D5 none none,X0⟩ Q)) (by kernel_rfl)
 ·exact kc (s2:j7 true ((wp G k 18).x (J7.drop 2) ⟨D5 none none,X0⟩ Q)) (by kernel_rfl)
end
section
variable {G:Gd} {k n:Nat}
mutual
noncomputable def T.l7:T->T
 | .leaf o f=>.leaf o f
 | .lit r f=>.lit r f
 | .str rs f=>.str rs f
 | .cls g f=>.cls g f
 | .cat l f=>W6 (.cat l f) (T.jO l)
 | .alt l f=>W6 (.alt l f) (T.jO l)
 | .loop o s f=>.loop o s.l7 f
 | .rep lo hi s f=>.rep lo hi s.l7 f
 | .cap c nm s f=>.cap c nm s.l7 f
noncomputable def T.jO:List T->List T
 | []=>[]
 | t::l=>t.l7::T.jO l
end
theorem T.zA:∀ l:List T,T.jO l=l.map T.l7:=by
 intro b7
 induction b7 with
 | nil=>exact rfl
 | cons t l ih=>exact congrArg (T.l7 t::·) ih
theorem T.Mf (t:T):t.l7=W6 t (t.subs.map T.l7):=by
 induction t using T.casesOn with
 | leaf o f=>induction o using Lf.casesOn<;>rfl
 | cat l f=>show W6 _ (T.jO l)=W6 _ (l.map T.l7);rw[T.zA]
 | alt l f=>show W6 _ (T.jO l)=W6 _ (l.map T.l7);rw[T.zA]
 | loop o s f=>induction o using Lk.casesOn<;>rfl
 | _=>rfl
mutual
noncomputable def T.simp:T->T
 | .leaf o f=>.leaf o f
 | .lit r f=>.lit r f
 | .str rs f=>.str rs f
 | .cls g f=>M0 g f
 | .cat l f=>(T.cat l f).re (T.R4 l)
 | .alt l f=>(T.alt l f).re (T.R4 l)
 | .loop o s f=>O3 o s.simp f
 | .rep lo hi s f=>I6 s.simp lo.toNat (E9 hi) f
 | .cap c nm s f=>.cap c nm s.simp f
noncomputable def T.R4:List T->List T
 | []=>[]
 | t::l=>t.simp::T.R4 l
end
theorem T.cK:∀ l:List T,T.R4 l=l.map T.simp:=by
 intro b7
 induction b7 with
 | nil=>exact rfl
 | cons t l ih=>rw[T.R4,ih];rfl
theorem T.aD0 (t:T):t.simp=CB t (t.subs.map T.simp):=by
 induction t using T.casesOn with
 | cat l f=>show(T.cat l f).re (T.R4 l)=(T.cat l f).re (l.map T.simp);rw[T.cK]
 | alt l f=>show(T.alt l f).re (T.R4 l)=(T.alt l f).re (l.map T.simp);rw[T.cK]
 | _=>rfl
inductive k9 (P:T->Prop):T->Prop
 | mk {t:T}:P t->(∀ s,s∈t.subs->k9 P s)->k9 P t
theorem k9.here {P:T->Prop} {t:T} (h:k9 P t):P t:=by cases h with | mk a b=>exact a
theorem k9.sub {P:T->Prop} {t s:T} (h:k9 P t) (hs:s∈t.subs):k9 P s:=by cases h with | mk a b=>exact b s hs
noncomputable def lA (t:T):Prop:=t.subs.length+10<d9
noncomputable def KV (t:T):Prop:=lA t/\∀ lo hi s f,t=.rep lo hi s f->0<=lo/\lo<=1000/\(hi=-1∨lo<=hi/\hi<=1000)/\s.simp.size<=d9
theorem wkC (X:FX G) (hk:7<=k):Wk G k 343 333 T.l7 (k9 lA) where
 c:=.inl rfl
 m:=rfl
 p t v mu ht hv:=by
  have h:=Lg (k:=k) X t (t.subs.map T.l7) v mu hv (i9 _) (by rw[i9];have:=ht.here;unfold lA at this;lia) hk
  rw[<-T.Mf] at h
  exact h
 s t s ht hs:=ht.sub hs
 l t ht:=ht.here
theorem wkS (X:FX G) (hk:8<=k):Wk G k 441 431 T.simp (k9 KV) where
 c:=.inr rfl
 m:=rfl
 p t v mu ht hv:=by
  have h:=Li (k:=k) X t (t.subs.map T.simp) v mu hv (i9 _) hk fun lo hi s f e=>by
   have:=ht.here.2 lo hi s f e
   subst e
   exact this
  rw[<-T.aD0] at h
  exact h
 s t s ht hs:=ht.sub hs
 l t ht:=ht.here.1
theorem As (X:FX G) (t:T) (ht:k9 lA t) (hh:t.h+10<d9):At G 10 352 [t.d] t.l7.d:=by
 refine fnAt X (b:=SQ) (by rfl) (by rfl) fun k h=>?_
 let R:=t.l7.d
 let σ:St:=⟨[v_ t.d],[]⟩
 let K:V->List M->Prop:=fun v m=>P4 G k (wp G k 18) .walk [.var 0,.const .none] (L7 0 v) (laid σ m) fun v σ'=>f6 R (.ret v) σ'
 let KK:Prop:=∃ P,C8 G k (.ref 256) [.loc 0,.val t.d,.val .none] (fY 343 0) P/\∀ r mu,P r mu->f6 R (.ret r) ⟨[v_ t.d],mu⟩
 have kk:KK:=by
  obtain⟨k,rfl⟩:∃ j,k=j+1:=⟨k-1,by lia⟩
  refine⟨_,UM X (wkC X (by lia)) (by lia) ht hh,fun r m e=>?_⟩
  subst e
  exact j6 (f:=fun x=>x.1=R) (x:=(t.l7.d,m)) rfl rfl
 exact kc (vA (k:=k) (n:=2) (K:=K) (ZT X 343 (.inl rfl)) (by lia) (kc kk))
noncomputable def T.simplified (t:T):T:=bif t.l7.simple then t.l7 else t.l7.simp
theorem Xv (X:FX G) (t:T) (ht:k9 lA t) (hh:t.h+10<d9) (hs:t.l7.size<=d9) (ho:k9 KV t.l7) (Rg:t.l7.h+10<d9):At G 11 450 [t.d] t.simplified.d:=by
 refine fnAt X (b:=yR) (by rfl) (by rfl) fun k h=>?_
 let R:=t.simplified.d
 let c:=t.l7
 let σ:St:=⟨[v_ t.d,v_ c.d],[]⟩
 have w (e:c.simple=false):cC G k 441 [] fun v m=>P4 G k (wp G k 16) .walk [.var 1,.const .none] (L7 0 v) (laid σ m) fun v σ'=>f6 R (.ret v) σ':=by
  let K:V->List M->Prop:=fun v m=>P4 G k (wp G k 16) .walk [.var 1,.const .none] (L7 0 v) (laid σ m) fun v σ'=>f6 R (.ret v) σ'
  let KK:Prop:=∃ P,C8 G k (.ref 256) [.loc 0,.val c.d,.val .none] (fY 441 0) P/\∀ r mu,P r mu->f6 R (.ret r) ⟨[v_ t.d,v_ c.d],mu⟩
  have kk:KK:=by
   obtain⟨k,rfl⟩:∃ j,k=j+1:=⟨k-1,by lia⟩
   refine⟨_,UM X (wkS X (by lia)) (by lia) ho Rg,fun r m e2=>?_⟩
   subst e2
   exact j6 (f:=fun x=>x.1=R) (x:=(c.simp.d,m)) rfl (by show c.simp.d=t.simplified.d;unfold T.simplified;rw[show t.l7.simple=false from e];rfl)
  exact vA (k:=k) (n:=2) (K:=K) (ZT X 441 (.inr rfl)) (by lia) (kc kk)
 let Q:Bool->Prop:=fun r=>br r (c.d=R) (cC G k 441 [] fun v m=>P4 G k (wp G k 16) .walk [.var 1,.const .none] (L7 0 v) (laid σ m) fun v σ'=>f6 R (.ret v) σ')
 let K2:D->Prop:=fun d=>oe (V.bool? (.val d)) Q
 have s2:(wp G k 19).x (yR.drop 1) σ (f6 R):=by
  refine kc (e9 K2 (m:=4) (n:=10) (LK X c hs) h (g8 (b:=c.simple) (fun e=>?_) fun e=>w e))
  show c.d=t.simplified.d
  unfold T.simplified
  rw[show t.l7.simple=true from e];rfl
 let K1:D->Prop:=fun d=>j7 true ((wp G k 19).x (yR.drop 1) ⟨[v_ t.d,v_ d],[]⟩ (f6 R))
 exact kc (e9 K1 (m:=10) (n:=10) (As X t ht hh) h s2)
end
section
variable {G:Gd} {k n:Nat}
mutual
noncomputable def noObj:D->Prop
 | .none=>True
 | .bool _=>True
 | .int _=>True
 | .str _=>True
 | .bytes _=>True
 | .tup l=>qN l
 | .lst l=>qN l
 | .D7 _ l=>qN l
 | .obj _ _=>False
noncomputable def qN:List D->Prop
 | []=>True
 | d::l=>noObj d/\qN l
end
mutual
theorem vU:∀ d:D,noObj d->B8 d d=some true
 | .none,_=>rfl
 | .bool b,_=>by show some (b==b)=_;rw[beq_self_eq_true]
 | .int i,_=>by show some (i==i)=_;rw[beq_self_eq_true]
 | .str s,_=>by show some (s==s)=_;rw[beq_self_eq_true]
 | .bytes b,_=>by show some (b==b)=_;rw[beq_self_eq_true]
 | .tup l,h=>by
  show(E7 l l).map (fun r=>r&&l.length==l.length)=_
  rw[BQ l h];show some (true&&l.length==l.length)=_;rw[beq_self_eq_true];rfl
 | .lst l,h=>by
  induction l using List.casesOn with
  | nil=>rfl
  | cons a l=>
   show(bif (a::l).length==(a::l).length then E7 (a::l) (a::l) else some false)=_
   rw[beq_self_eq_true,BQ (a::l) h];rfl
 | .D7 ks l,h=>by
  show(bif ks==ks then E7 l l else none)=_
  rw[beq_self_eq_true,BQ l h];rfl
theorem BQ:∀ l:List D,qN l->E7 l l=some true
 | [],_=>rfl
 | d::l,h=>by
  show(B8 d d).bind (fun x=>(E7 l l).map fun y=>x&&y)=_
  rw[vU d h.1,BQ l h.2];rfl
end
theorem nF:∀{l:List D},(∀ d,d∈l->noObj d)->qN l
 | [],_=>trivial
 | d::l,h=>⟨h d f9,nF fun e he=>h e (l6 _ he)⟩
theorem Vh (l:List Int):noObj (n5 l):=nF fun d h=>by
 obtain⟨i,_,rfl⟩:=j4.mp h;trivial
theorem Vg (l:List (Int×Int)):noObj (A7 l):=nF fun d h=>by
 obtain⟨i,_,rfl⟩:=j4.mp h;exact⟨trivial,trivial,trivial⟩
theorem ZX (b:Bool):noObj (G9 b):=by induction b using Bool.casesOn<;>trivial
theorem Vi (w:Way):noObj (q7 w):=⟨trivial,nF fun d h=>by
 obtain⟨p,_,rfl⟩:=j4.mp h
 exact⟨trivial,trivial,ZX _,trivial⟩,trivial⟩
theorem mL {m:Nat}:∀{l:List D},(∀ d,d∈l->dep d<=m)->deps l<=m
 | [],_=>v7 _
 | d::l,h=>U3.mpr ⟨h d f9,mL fun e he=>h e (l6 _ he)⟩
theorem VK (b:Bool):dep (G9 b)=0:=by induction b using Bool.casesOn<;>rfl
theorem Ng (l:List Way):dep (.lst (l.map q7))<=4:=u6 (mL (m:=3) fun d h=>by
 obtain⟨w,_,rfl⟩:=j4.mp h
 refine u6 (U3.mpr ⟨v7 _,U3.mpr ⟨u6 (mL (m:=1) fun d h=>?_),v7 _⟩⟩)
 obtain⟨p,_,rfl⟩:=j4.mp h
 exact u6 (U3.mpr ⟨v7 _,U3.mpr ⟨v7 _,U3.mpr ⟨I0 (VK _),v7 _⟩⟩⟩))
theorem N.shape (x:N):x.d=nd x.kind x.data (x.subs.map N.d):=by
 induction x using N.casesOn with
 | row l=>show nd _ _ (N.ds l)=_;rw[N.G5];rfl
 | choice l=>show nd _ _ (N.ds l)=_;rw[N.G5];rfl
 | _=>rfl
theorem N.My (x:N):noObj x.data/\dep x.data<=2:=by
 induction x using N.casesOn with
 | text rs f=>exact⟨⟨Vh rs,trivial,trivial⟩,u6 (U3.mpr ⟨u6 (mL (m:=0) fun d h=>by obtain⟨i,_,rfl⟩:=j4.mp h;exact g7 0),v7 _⟩)⟩
 | set g=>exact⟨Vg g,u6 (mL (m:=1) fun d h=>by obtain⟨i,_,rfl⟩:=j4.mp h;exact g7 1)⟩
 | place o=>exact⟨trivial,v7 _⟩
 | times lo hi z s=>exact⟨⟨trivial,trivial,trivial,trivial⟩,J5 1⟩
 | group c nm s=>exact⟨⟨trivial,ZX _,trivial⟩,u6 (U3.mpr ⟨v7 _,U3.mpr ⟨by rw[VK];exact v7 _,v7 _⟩⟩)⟩
 | row l=>exact⟨trivial,v7 _⟩
 | choice l=>exact⟨trivial,v7 _⟩
theorem N.Mx:∀ x:N,noObj x.d/\dep x.d<=2*x.h+1:=mH fun x ih=>by
 rw[N.shape]
 have hd:=x.My
 have hp:=x.h_pos
 refine⟨⟨trivial,hd.1,nF fun d h=>?_,trivial⟩,u6 (U3.mpr ⟨v7 _,U3.mpr ⟨by have:=hd.2;lia,U3.mpr ⟨?_,v7 _⟩⟩⟩)⟩
 ·obtain⟨y,hy,rfl⟩:=j4.mp h
  exact(ih y (N.sub_lt hy)).1
 ·have:deps (x.subs.map N.d)<=2*x.h-1:=mL fun d h=>by
   obtain⟨y,hy,rfl⟩:=j4.mp h
   have:=(ih y (N.sub_lt hy)).2
   have:=N.sub_lt hy
   lia
  show deps _+1<=_
  lia
end
section
variable {G:Gd} {k n:Nat}
theorem Oc {d e:D} {σ:St} {Q:V->St->Prop} {r:Bool} (h:B8 d e=some r) (hd:dep e<=90) (q:Q (.val (.bool r)) σ):S8 .Eq (.val d) (.val e) σ Q:=by
 show oe (some d) fun d=>oe (some e) fun e=>oe (B8 d e) fun r=>j7 (Nat.ble (dep e) 90) (Q (.val (.bool r)) σ)
 exact j6 (x:=d) rfl (j6 (x:=e) rfl (j6 h (s9 (n6.mpr hd) q)))
theorem KJ {d e:D} {σ:St} {Q:V->St->Prop} {r:Bool} (h:B8 d e=some r) (hn:vI d=true) (hd:dep e<=90) (q:Q (.val (.bool (!r))) σ):S8 .NotEq (.val d) (.val e) σ Q:=by
 show oe (some d) fun d=>oe (some e) fun e=>oe (B8 d e) fun r=>j7 (vI d&&Nat.ble (dep e) 90) (Q (.val (.bool (!r))) σ)
 exact j6 (x:=d) rfl (j6 (x:=e) rfl (j6 h (s9 (by rw[hn,n6.mpr hd];rfl) q)))
theorem N.XO {l:List T} (h:∀ t,t∈l->t.read.h<=t.h):N.hs (T.reads l)<=T.hs l:=by
 induction l with
 | nil=>exact g7 _
 | cons t l ih=>exact U3.mpr ⟨k6 (h t f9) (yG _ _),k6 (ih fun s hs=>h s (l6 _ hs)) (yH _ _)⟩
theorem T.MA:∀ t:T,t.read.h<=t.h:=T.aQ fun t ih=>by
 induction t using T.casesOn with
 | leaf o f=>induction o using Lf.casesOn<;>exact g7 _
 | cat l f=>exact u6 (N.XO fun s hs=>ih s (T.h_mem (t:=.cat l f) hs))
 | alt l f=>exact u6 (N.XO fun s hs=>ih s (T.h_mem (t:=.alt l f) hs))
 | loop o s f=>exact u6 (ih s (A1 _))
 | rep lo hi s f=>exact u6 (ih s (A1 _))
 | cap c nm s f=>exact u6 (ih s (A1 _))
 | _=>exact g7 _
noncomputable def aV (la:Bool):Int:=bif la then 255 else 1114111
structure eS (la:Bool) (text:List Int) (p:Nat) (x:N) (t:T):Prop where
 th:t.h<=40
 xh:x.h<=40
 sh:t.simplified.h<=200
 ch:t.l7.h<=200
 tz:t.size<=d9
 sz:t.simplified.size<=d9
 cz:t.l7.size<=d9
 tw:k9 lA t
 cw:k9 KV t.l7
 xg:x.good
 cg:t.l7.read.good
 sg:t.simplified.read.good
 xf:x.fits
 cf:t.l7.read.fits
 sf:t.simplified.read.fits
 ce:(t.l7.read.W text p).map (fun ζ=>ζ.1)=(x.W text p).map (fun ζ=>ζ.1)
 se:(t.simplified.read.W text p).map (fun ζ=>ζ.1)=(x.W text p).map (fun ζ=>ζ.1)
 cm:t.l7.read.many<=x.many
 sm:t.simplified.read.many<=x.many
 cs:x.sure=true->t.l7.read.W text p=x.W text p
 ss:x.sure=true->t.simplified.read.W text p=x.W text p
 p1:t.simplified.G8 (aV la)=true
 p2:t.simplified.simple=true
 p3:t.simple=t.G8 (aV la)
structure Vs where
 a:List (Option V)
 b:List (Option V)
noncomputable def NK (a0 a1 a2 a3 a4 a5:Option V) (text:List Int) (p:Nat) (la:Bool) (a9 oJ:Option V) (x:N) (t:T) (DV oK oM Il Im oN gF:Option V):List (Option V):=
 [a0,a1,a2,a3,a4,a5,v_ (n5 text),v_ (.int (p:Nat)),v_ (.int (fl la).i),a9,oJ,v_ x.d,v_ t.d,DV,oK,oM,Il,Im,oN,gF]
theorem Tu (X:FX G) (la:Bool) (text:List Int) (p:Nat) (x:N) (t:T) (F:eS la text p x t) (a0 a1 a2 a3 a4 a5 a9 oJ oK oM oN gF:Option V) (m0 m1 m2 m3 m4 m5 m6 m7:M) (h:300<=k) :
  (wp G k 7).x (x6.drop 13) ⟨NK a0 a1 a2 a3 a4 a5 text p la a9 oJ x t (v_ t.read.d) oK oM (v_ t.simplified.d) (some (.loc 8)) oN gF,[m0,m1,m2,m3,m4,m5,m6,m7,.list [.val (.tup [.int 0,.int (aV la)])]]⟩ (f6 (.bool true)):=by
 let R:=D.bool true
 let s:=t.simplified
 let vs:=NK a0 a1 a2 a3 a4 a5 text p la a9 oJ x t (v_ t.read.d) oK oM (v_ t.simplified.d) (some (.loc 8)) oN gF
 let Qd:M:=.frozen (A7 [(0,aV la)])
 let σ1:St:=⟨vs,[m0,m1,m2,m3,m4,m5,m6,m7,Qd]⟩
 let lI:Bool->St->Prop:=fun r σ'=>br r ((wp G k 6).x (j8 x6 13).l5 σ' (l8 (wp G k 6) (x6.drop 14) (f6 R))) ((wp G k 6).x [] σ' (l8 (wp G k 6) (x6.drop 14) (f6 R)))
 have last:(wp G k 6).x (x6.drop 14) σ1 (f6 R):=by
  have hd:=t.read.Mx
  have hh:t.read.h<=40:=k6 (T.MA t) F.th
  let K:D->Prop:=fun d=>S8 .Eq (.val d) (.val t.read.d) σ1 fun v σ'=>f6 R (.ret v) σ'
  have kk:K t.read.d:=Oc (vU _ hd.1) (by lia) rfl
  exact kc (e9 K (m:=t.h) (BK X t) h kk (n6.mpr (by have:=F.th;lia)))
 let e2:E:=.not (.call 375 [.var 16])
 let e3:E:=.cmp (.call 375 [.var 12]) [.NotEq] [.call 570 [.var 12,.var 17]]
 let K1:D->Prop:=fun d=>x7 (.val d) σ1 fun b σ'=>br (!b) (lI true σ') (iR (wp G k 5).t [e2,e3] σ' lI)
 let K2:D->Prop:=fun d=>x7 (.val d) σ1 fun b σ'=>br (!b) (lI true σ') (iR (wp G k 5).t [e3] σ' lI)
 let K4 (c:D):D->Prop:=fun d=>S8 .NotEq (.val c) (.val d) σ1 fun v σ'=>x7 v σ' fun b σ''=>br b (lI true σ'') (iR (wp G k 5).t [] σ'' lI)
 let K3:D->Prop:=fun c=>cal G k 570 [t.d,A7 [(0,aV la)]] (K4 c)
 have s4:lI false σ1:=kc (last:j7 true ((wp G k 6).x (x6.drop 14) σ1 (f6 R)))
 have s3:K3 (.bool t.simple):=by
  refine e9 (K4 (.bool t.simple)) (m:=t.h) (n:=300) (Bb X (aV la) t) h ?_ (n6.mpr (by have:=F.th;lia))
  rw[F.p3]
  exact KJ (vU (.bool (t.G8 (aV la))) trivial) rfl (v7 _) (kc s4)
 have s2:cal G k 375 [s.d] K2:=by
  refine e9 K2 (m:=4) (n:=300) (LK X s F.sz) h ?_
  rw[show s.simple=true from F.p2]
  exact kc (e9 K3 (m:=4) (n:=300) (LK X t F.tz) h s3)
 refine kc (e9 K1 (m:=s.h) (n:=300) (Bb X (aV la) s) h ?_ (n6.mpr (k6 F.sh (by decide))))
 rw[show s.G8 (aV la)=true from F.p1]
 exact kc s2
end
section
variable {G:Gd} {k n:Nat}
noncomputable def C9 (m:M):Prop:=∀ n p i q,M.re n p i q m=m
theorem qT (ds:List D):C9 (.list (ds.map V.val)):=fun n p i q=>qW n p i q ds
theorem kM (d:D):C9 (.frozen d):=fun n p i q=>rfl
theorem YO (n:Nat):∀(mu:List M) (i:Nat),(∀ m,m∈mu->C9 m)->keepR n [] i mu=mu.take (n-i):=by
 intro b7
 induction b7 with
 | nil=>intro i _;rw[FA];rfl
 | cons m mu ih=>
  intro i h
  show(bif Nat.blt i n then M.re n [] i i m::keepR n [] (i+1) mu else [])=_
  rw[h m f9,ih (i+1) fun x hx=>h x (l6 _ hx)]
  by_cases e:i<n
  ·rw[show Nat.blt i n=true from n6.mpr e,show n-i=(n-(i+1))+1 by lia];rfl
  ·rw[show Nat.blt i n=false from by rw[sJ];exact fun z=>e (n6.mp z),show n-i=0 by lia];rfl
theorem HN {mu:List M} (h:∀ m,m∈mu->C9 m) (n:Nat):cut n mu=mu.take n:=YO n mu 0 h
theorem Bo {mu:List M} (h:∀ m,m∈mu->C9 m) (n:Nat):cI n [] mu=mu.take n:=by
 show keepR n [] 0 mu++[]=_
 rw[u9,YO n mu 0 h];rfl
theorem NL (text:List Int) (x:N) (p:Nat):wR text x p []=.lst (((x.W text p).map (out [])).map q7):=by unfold wR;rw[A6];rfl
noncomputable def rU (S dg st:D) (la:Bool) (text:List Int) (p:Nat) (x:N) (t:T) (oN gF:Option V):List (Option V):=
 NK (v_ S) (some (.loc 0)) (some (.loc 1)) none (some (.loc 3)) (v_ dg) text p la (v_ st) none x t (v_ t.read.d) (v_ (wR text x p [])) (v_ (.int x.many)) (v_ t.simplified.d) (some (.loc 8)) oN gF
noncomputable def dF:List S:=(j8 x6 12).l5
theorem Tw (X:FX G) (S dg st:D) (la:Bool) (text:List Int) (p:Nat) (x y:N) (t:T) (m0 m1 m2 m3 m4 m5 m6 m7 m8:M) (hm:∀ m,m∈[m0,m1,m2,m3,m4,m5,m6,m7,m8]->C9 m) (h:410<=k)
  (tl:text.length<=3) (pl:p<=text.length) (xh:x.h<=40) (yh:y.h<=200) (yg:y.good) (yf:y.fits) (ye:(y.W text p).map (fun ζ=>ζ.1)=(x.W text p).map (fun ζ=>ζ.1)) (ym:y.many<=x.many) (ys:x.sure=true->y.W text p=x.W text p)
  (Q:Fl->St->Prop) (q:∀ m9 gF,C9 m9->Q .next ⟨rU S dg st la text p x t (v_ y.d) (v_ gF),[m0,m1,m2,m3,m4,m5,m6,m7,m8,m9]⟩) :
  (wp G k 7).x dF ⟨rU S dg st la text p x t (v_ y.d) none,[m0,m1,m2,m3,m4,m5,m6,m7,m8]⟩ Q:=by
 let DN:=wR text y p []
 let mu:List M:=[m0,m1,m2,m3,m4,m5,m6,m7,m8,.frozen (.D7 [] [])]
 let vs:=rU S dg st la text p x t (v_ y.d) (v_ DN)
 let σ:St:=⟨vs,mu⟩
 have V0:∀ m,m∈mu->C9 m:=fun m fJ=>by
  have:mu=[m0,m1,m2,m3,m4,m5,m6,m7,m8]++[.frozen (.D7 [] [])]:=rfl
  rw[this] at fJ
  rcases n7.mp fJ with a | a
  ·exact hm m a
  ·cases j5.mp a;exact kM _
 have mV:cut 10 mu=mu:=HN V0 10
 have s2:(wp G k 5).x (dF.drop 2) σ Q:=by
  let Q2:Bool->St->Prop:=fun r σ'=>br r ((wp G k 4).x (j8 dF 2).l5 σ' (l8 (wp G k 4) [] Q)) ((wp G k 4).x [] σ' (l8 (wp G k 4) [] Q))
  have good:Q2 false σ:=kc (show Q .next σ from q _ _ (kM _))
  let e2:E:=.cmp (.var 19) [.NotEq] [.var 14]
  let K:D->Prop:=fun d=>x7 (.val d) σ fun b σ'=>br b (Y3 (wp G k 3).t [e2] σ' Q2) (Q2 false σ')
  have kk:K (.bool x.sure):=by
   cases e:x.sure with
   | false=>exact kc good
   | true=>
    have hw:DN=wR text x p []:=by show wR text y p []=_;unfold wR;rw[ys e]
    refine kc (show S8 .NotEq (.val DN) (.val (wR text x p [])) σ fun v σ'=>x7 v σ' fun b σ''=>br b (Y3 (wp G k 3).t [] σ'' Q2) (Q2 false σ'') from ?_)
    rw[hw]
    refine KJ (r:=true) (vU _ ?_) (by rw[NL];rfl) (by rw[NL];exact k6 (Ng _) (by decide)) (kc good)
    rw[NL]
    exact nF fun d hd=>by obtain⟨w,_,rfl⟩:=j4.mp hd;exact Vi w
  exact kc (e9 K (m:=x.h+1) (n:=410) (Yk X x) h kk (n6.mpr (by lia)))
 have s1:(wp G k 6).x (dF.drop 1) σ Q:=by
  let Q2:Bool->St->Prop:=fun r σ'=>br r ((wp G k 5).x (j8 dF 1).l5 σ' (l8 (wp G k 5) (dF.drop 2) Q)) ((wp G k 5).x [] σ' (l8 (wp G k 5) (dF.drop 2) Q))
  have good:Q2 false σ:=kc (s2:j7 true ((wp G k 5).x (dF.drop 2) σ Q))
  let e2:E:=.cmp (.call 476 [.var 18]) [.Gt] [.var 15]
  let c2:E:=.comp [] 21 (.idx (.var 20) (.const (.int 0))) (.mk (.var 20) (.var 14) []) []
  let KI:List (Option V):=List.replicate 21 none
  let body:=J3 (wp G k 2) KI 10 (.idx (.var 20) (.const (.int 0))) (.var 20) []
  have turn (w:Nat×List Gs) (acc:List D) (K:List D->List M->Prop) (hk:K (acc++[.int (w.1:Nat)]) mu):body (q7 (out [] w)) acc mu K:=by
   rw[<-mV] at hk
   exact kc hk
  let e1 (z:N):D:=.lst ((z.W text p).map fun w=>D.int (w.1:Nat))
  let K2:List D->List M->Prop:=fun acc mu=>S8 .NotEq (.val (e1 y)) (.val (.lst acc)) ⟨vs,mu⟩ fun v σ''=>x7 v σ'' fun b σ3=>br b (Q2 true σ3) (iR (wp G k 4).t [e2] σ3 Q2)
  let K1:List D->List M->Prop:=fun acc mu=>Y0 (wp G k 3).e [c2] (.val (.lst acc)) [.NotEq] ⟨vs,mu⟩ fun v σ''=>x7 v σ'' fun b σ3=>br b (Q2 true σ3) (iR (wp G k 4).t [e2] σ3 Q2)
  refine kc (show z7 body ((y.W text p).map fun w=>q7 (out [] w)) [] mu K1 from ?_)
  refine Z3 (body:=body) (mu:=mu) (K:=K1) (fun w=>q7 (out [] w)) (fun w=>.int (w.1:Nat)) (y.W text p) (fun w ζ acc K hk=>turn w acc K hk) [] ?_
  refine kc (show z7 body ((x.W text p).map fun w=>q7 (out [] w)) [] mu K2 from ?_)
  refine Z3 (body:=body) (mu:=mu) (K:=K2) (fun w=>q7 (out [] w)) (fun w=>.int (w.1:Nat)) (x.W text p) (fun w ζ acc K hk=>turn w acc K hk) [] ?_
  have he:e1 x=e1 y:=by
   have hz (z:N):e1 z=.lst (((z.W text p).map (fun ζ=>ζ.1)).map fun n=>D.int (n:Nat)):=by show D.lst _=_;rw[A6];rfl
   rw[hz,hz,ye]
  show S8 .NotEq (.val (e1 y)) (.val (e1 x)) σ fun v σ''=>x7 v σ'' fun b σ3=>br b (Q2 true σ3) (iR (wp G k 4).t [e2] σ3 Q2)
  refine he▸?_
  let K3:D->Prop:=fun d=>jV (.val d) (.val (.int x.many)) fun a b=>br (decide (a>b)) (Q2 true σ) (Q2 false σ)
  have k3:K3 (.int y.many):=U8 (b:=decide (y.many>x.many)) (P:=Q2 true σ) (Q:=Q2 false σ) (decide_eq_false (by lia)) good
  refine KJ (r:=true) (vU _ (nF fun d hd=>?_)) rfl (k6 (u6 (mL (m:=0) fun d hd=>?_)) (by decide)) (kc (e9 K3 (m:=y.h) (n:=410) (LL X y yf) h k3 (n6.mpr (by lia))))
  ·obtain⟨w,_,rfl⟩:=j4.mp hd;trivial
  ·obtain⟨w,_,rfl⟩:=j4.mp hd;exact g7 0
 let K1:D->Prop:=fun d=>j7 true ((wp G k 6).x (dF.drop 1) ⟨rU S dg st la text p x t (v_ y.d) (v_ d),mu⟩ Q)
 have k1:cal G k 546 (wA text y p []) K1:=e9 K1 (m:=2*y.h) (n:=410) (Ba X text tl y yg p pl [] ⟨oX,fun ζ hq=>absurd hq A8⟩) h s1 (n6.mpr (by lia))
 exact kc (⟨oX,k1⟩:([]:List Int).Nodup/\cal G k 546 (wA text y p []) K1)
end
section
variable {G:Gd} {k n:Nat}
noncomputable def qG (la:Bool):M:=.list [.val (.tup [.int 0,.int (aV la)])]
theorem Zq (la:Bool):C9 (qG la):=qT [.tup [.int 0,.int (aV la)]]
theorem Tv (X:FX G) (S dg st:D) (la:Bool) (text:List Int) (p:Nat) (x:N) (t:T) (F:eS la text p x t) (m0 m1 m2 m3 m4 m5 m6 m7:M) (hm:∀ m,m∈[m0,m1,m2,m3,m4,m5,m6,m7]->C9 m) (h:410<=k) (tl:text.length<=3) (pl:p<=text.length) :
  (wp G k 8).x (x6.drop 12) ⟨rU S dg st la text p x t none none,[m0,m1,m2,m3,m4,m5,m6,m7,qG la]⟩ (f6 (.bool true)):=by
 let R:=D.bool true
 let c:=t.l7
 let s:=t.simplified
 let mu:List M:=[m0,m1,m2,m3,m4,m5,m6,m7,qG la]
 have V0:∀ m,m∈mu->C9 m:=fun m fJ=>by
  have:mu=[m0,m1,m2,m3,m4,m5,m6,m7]++[qG la]:=rfl
  rw[this] at fJ
  rcases n7.mp fJ with a | a
  ·exact hm m a
  ·cases j5.mp a;exact Zq la
 let vs:=rU S dg st la text p x t none none
 let I:List D->St->Prop:=fun ds σ=>(∀ d,d∈ds->d=c.read.d∨d=s.read.d)/\σ=⟨vs,mu⟩
 let FO (d2 d3:D):Prop:=fo (wp G k 7) (j8 x6 12).tgt dF (x6.drop 13) (f6 R) [d2,d3] ⟨vs,mu⟩
 have lst:FO c.read.d s.read.d:=by
  refine gS [18,19] I ⟨fun d hd=>?_,rfl⟩ ?_ ?_
  ·rcases v5.mp hd with rfl | hd
   ·exact .inl rfl
   ·exact .inr (j5.mp hd)
  ·rintro d rs σ₁ ⟨hd,rfl⟩ _
   let J:=Let mu.length [18,19] (I rs)
   have Bd (y:N) (yh:y.h<=200) (yg:y.good) (yf:y.fits) (ye:(y.W text p).map (fun ζ=>ζ.1)=(x.W text p).map (fun ζ=>ζ.1)) (ym:y.many<=x.many) (ys:x.sure=true->y.W text p=x.W text p) :
     HY (wp G k 7) (j8 x6 12).tgt dF (f6 R) J y.d ⟨vs,mu⟩:=by
    have b:=Tw X S dg st la text p x y t m0 m1 m2 m3 m4 m5 m6 m7 (qG la) V0 h tl pl F.xh yh yg yf ye ym ys (again (f6 R) J) fun m9 gF h9=>by
     refine Z8 [] ⟨vs,mu⟩ rfl ?_ ⟨fun d hd'=>hd d (l6 _ hd'),rfl⟩
     have hall:∀ m,m∈mu++[m9]->C9 m:=fun m fJ=>by
      rcases n7.mp fJ with a | a
      ·exact V0 m a
      ·cases j5.mp a;exact h9
     have e:cI 9 [] (mu++[m9])=mu:=by rw[Bo hall];rfl
     show(⟨_,cI 9 [] (mu++[m9])⟩:St)=_
     rw[e];rfl
    exact s9 (Q:=False) rfl b
   rcases hd d f9 with rfl | rfl
   ·exact Bd c.read (k6 (T.MA c) F.ch) F.cg F.cf F.ce F.cm F.cs
   ·exact Bd s.read (k6 (T.MA s) F.sh) F.sg F.sf F.se F.sm F.ss
  ·rintro σ₁ ⟨_,rfl⟩ _
   exact Tu X la text p x t F (v_ S) (some (.loc 0)) (some (.loc 1)) none (some (.loc 3)) (v_ dg) (v_ st) none (v_ (wR text x p [])) (v_ (.int x.many)) none none m0 m1 m2 m3 m4 m5 m6 m7 (k6 (by decide) h)
 let KC (d2:D):D->Prop:=fun d3=>FO d2 d3
 let KB:D->Prop:=fun d2=>cal G k 515 [s.d] (KC d2)
 let KA:D->Prop:=fun d1=>cal G k 515 [d1] KB
 have a1:KB c.read.d:=e9 (KC c.read.d) (m:=s.h) (n:=410) (BK X s) h lst (n6.mpr (k6 F.sh (by decide)))
 have a2:KA c.d:=e9 KB (m:=c.h) (n:=410) (BK X c) h a1 (n6.mpr (k6 F.ch (by decide)))
 exact kc (e9 KA (m:=10) (n:=410) (As X t F.tw (by have:=F.th;have:d9=1000000:=rfl;lia)) h a2)
end
section
variable {G:Gd} {k n:Nat}
theorem tg3 {i j m:Nat} {a b c:D} {vars:List (Option V)} {mu:List M} {K:St->Prop} (h:(fS [i,j,m]&&[i,j,m].all fun i=>Nat.blt i vars.length)=true) (p:K ⟨bindTo [i,j,m] [.val a,.val b,.val c] vars,mu⟩):C6 (.tup [i,j,m]) (.val (.tup [a,b,c])) ⟨vars,mu⟩ K:=
 j6 (o:=U6 mu (.val (.tup [a,b,c]))) (f:=fun l=>j7 (Nat.beq [i,j,m].length l.length&&(fS [i,j,m]&&[i,j,m].all fun i=>Nat.blt i vars.length)) (K ⟨bindTo [i,j,m] l vars,mu⟩)) (x:=[V.val a,V.val b,V.val c]) rfl (s9 h p)
theorem tgV {i j:Nat} {a b:V} {vars:List (Option V)} {mu:List M} {K:St->Prop} (h:(fS [i,j]&&[i,j].all fun i=>Nat.blt i vars.length)=true) (p:K ⟨bindTo [i,j] [a,b] vars,mu⟩):C6 (.tup [i,j]) (.tup [a,b]) ⟨vars,mu⟩ K:=
 j6 (o:=U6 mu (.tup [a,b])) (f:=fun l=>j7 (Nat.beq [i,j].length l.length&&(fS [i,j]&&[i,j].all fun i=>Nat.blt i vars.length)) (K ⟨bindTo [i,j] l vars,mu⟩)) (x:=[a,b]) rfl (s9 h p)
noncomputable def rV (S dg st:D) (la:Bool) (text:List Int) (p:Nat) (Ij Ik DV oK oM:Option V):List (Option V):=
 [v_ S,some (.loc 0),some (.loc 1),none,some (.loc 3),v_ dg,v_ (n5 text),v_ (.int (p:Nat)),v_ (.int (fl la).i),v_ st,none,Ij,Ik,DV,oK,oM,none,none,none,none]
theorem Tj (X:FX G) (S dg st:D) (la:Bool) (text:List Int) (p:Nat) (x:N) (t:T) (F:eS la text p x t) (m0 m1 m2 m3 m4 m5 m6 m7:M) (hm:∀ m,m∈[m0,m1,m2,m3,m4,m5,m6,m7]->C9 m) (h:410<=k) (tl:text.length<=3) (pl:p<=text.length) :
  (wp G k 9).x (x6.drop 11) ⟨rV S dg st la text p (v_ x.d) (v_ t.d) (v_ t.read.d) (v_ (wR text x p [])) (v_ (.int x.many)),[m0,m1,m2,m3,m4,m5,m6,m7]⟩ (f6 (.bool true)):=by
 let R:=D.bool true
 have z:=Tv X S dg st la text p x t F m0 m1 m2 m3 m4 m5 m6 m7 hm h tl pl
 let vs:=rV S dg st la text p (v_ x.d) (v_ t.d) (v_ t.read.d) (v_ (wR text x p [])) (v_ (.int x.many))
 let K:D->Prop:=fun d=>C6 (.tup [16,17]) (.tup [.val d,.loc 8]) ⟨vs,[m0,m1,m2,m3,m4,m5,m6,m7,qG la]⟩ fun σ=>(wp G k 8).x (x6.drop 12) σ (f6 R)
 have hh:t.h+10<d9:=by have:=F.th;have:d9=1000000:=rfl;lia
 have hc:t.l7.h+10<d9:=by have:=F.ch;have:d9=1000000:=rfl;lia
 have q:cal G k 450 [t.d] K:=e9 K (m:=11) (n:=410) (Xv X t F.tw hh F.cz F.cw hc) h (tgV rfl z)
 induction la using Bool.casesOn with
 | true=>exact kc q
 | false=>exact kc q
theorem Ti (X:FX G) (S dg st:D) (la:Bool) (text:List Int) (p:Nat) (x:N) (t:T) (F:eS la text p x t) (m0 m1 m2 m3 m4 m5 m6:M) (hm:∀ m,m∈[m0,m1,m2,m3,m4,m5,m6]->C9 m) (h:410<=k) (tl:text.length<=3) (pl:p<=text.length) :
  (wp G k 10).x (x6.drop 10) ⟨rV S dg st la text p (v_ x.d) (v_ t.d) none none none,[m0,m1,m2,m3,m4,m5,m6]⟩ (f6 (.bool true)):=by
 let R:=D.bool true
 let m7:M:=.frozen (.D7 [] [])
 have z:=Tj X S dg st la text p x t F m0 m1 m2 m3 m4 m5 m6 m7 (fun m fJ=>by
  have:[m0,m1,m2,m3,m4,m5,m6,m7]=[m0,m1,m2,m3,m4,m5,m6]++[m7]:=rfl
  rw[this] at fJ
  rcases n7.mp fJ with a | a
  ·exact hm m a
  ·cases j5.mp a;exact kM _) h tl pl
 let vs:=rV S dg st la text p (v_ x.d) (v_ t.d) none none none
 let K3 (d1 d2:D):D->Prop:=fun d=>C6 (.tup [13,14,15]) (.val (.tup [d1,d2,d])) ⟨vs,[m0,m1,m2,m3,m4,m5,m6,m7]⟩ fun σ=>(wp G k 9).x (x6.drop 11) σ (f6 R)
 let K2 (d1:D):D->Prop:=fun d2=>cal G k 476 [x.d] (K3 d1 d2)
 let K1:D->Prop:=fun d1=>([]:List Int).Nodup/\cal G k 546 (wA text x p []) (K2 d1)
 have a3:K2 t.read.d (wR text x p []):=e9 (K3 _ _) (m:=x.h) (n:=410) (LL X x F.xf) h (tg3 rfl z) (n6.mpr (k6 F.xh (by decide)))
 have a2:K1 t.read.d:=⟨oX,e9 (K2 _) (m:=2*x.h) (n:=410) (Ba X text tl x F.xg p pl [] ⟨oX,fun ζ hq=>absurd hq A8⟩) h a3 (n6.mpr (by have:=F.xh;lia))⟩
 exact kc (e9 K1 (m:=t.h) (n:=410) (BK X t) h a2 (n6.mpr (k6 F.th (by decide))))
theorem Tr (X:FX G) (S dg:D) (la:Bool) (l:List (N×T)) (text:List Int) (p:Nat) (x:N) (t:T) (F:eS la text p x t) (hl:B5 la l l.length true=[(x,t)]) (h1:1<=l.length) (h2:l.length<=1000) (m0 m1 m2 m3 m4 m5 m6:M) (hm:∀ m,m∈[m0,m1,m2,m3,m4,m5,m6]->C9 m) (h:410<=k) (tl:text.length<=3) (pl:p<=text.length) :
  (wp G k 11).x (x6.drop 9) ⟨rV S dg (w4 l) la text p none none none none none,[m0,m1,m2,m3,m4,m5,m6]⟩ (f6 (.bool true)):=by
 let R:=D.bool true
 have z:=Ti X S dg (w4 l) la text p x t F m0 m1 m2 m3 m4 m5 m6 hm h tl pl
 let σ:St:=⟨rV S dg (w4 l) la text p none none none none none,[m0,m1,m2,m3,m4,m5,m6]⟩
 let K:D->Prop:=fun d=>N1 (.val d) (.val (.int 0)) σ fun v σ'=>C6 (.tup [11,12]) v σ' fun σ''=>(wp G k 10).x (x6.drop 10) σ'' (f6 R)
 have a:=LM X la l l.length h1 true h2
 rw[hl] at a
 have kk:K (w4 [(x,t)]):=by
  refine kc (show C6 (.tup [11,12]) (.val (f7 (x,t))) σ fun σ''=>(wp G k 10).x (x6.drop 10) σ'' (f6 R) from CP rfl z)
 have e:(((l.map f7).map V.val).length:Int)=(l.length:Nat):=by rw[i9,i9]
 have q:cal G k 510 [w4 l,.int (((l.map f7).map V.val).length:Nat),.bool true,.int (fl la).i] K:=by
  rw[e]
  exact e9 K (m:=5) (n:=410) a h kk
 exact kc q
end
section
variable {G:Gd} {k n:Nat}
noncomputable def cD (c:Int):Od where
 kind:=(c.fmod 10).toNat
 what:=((c.fdiv 10).fmod 16).toNat
 low:=(((c.fdiv 10).fdiv 16).fmod 3).toNat
 more:=((((c.fdiv 10).fdiv 16).fdiv 3).fmod 4).toNat
 lz:=(((((c.fdiv 10).fdiv 16).fdiv 3).fdiv 4).fmod 2)==1
 k7:=((((((c.fdiv 10).fdiv 16).fdiv 3).fdiv 4).fdiv 2).fmod 2)==0
theorem jQ (x:Int) (b:Int) (hb:0<b):((x.fmod b).toNat:Int)=x.fmod b/\(x.fmod b).toNat<b.toNat:=by
 have h1:=sO x hb
 have h2:=oR x hb
 exact⟨Int.toNat_of_nonneg h1,(Int.toNat_lt_toNat hb).mpr h2⟩
theorem Oz (x:Int):bI (x.fmod 2==1)=x.fmod 2:=by
 have h1:=sO x (b:=2) (by decide)
 have h2:=oR x (b:=2) (by decide)
 have:x.fmod 2=0∨x.fmod 2=1:=by lia
 rcases this with e | e<;>rw[e]<;>rfl
theorem Pa (x:Int):(bif x.fmod 2==0 then 0 else 1:Int)=x.fmod 2:=by
 have h1:=sO x (b:=2) (by decide)
 have h2:=oR x (b:=2) (by decide)
 have:x.fmod 2=0∨x.fmod 2=1:=by lia
 rcases this with e | e<;>rw[e]<;>rfl
theorem Vo (c:Int):digits c [10,16,3,4,2,2]=(cD c).ds:=by
 show [_,_,_,_,_,_]=[_,_,_,_,_,_]
 congr 1
 ·exact(jQ _ 10 (by decide)).1.symm
 congr 1
 ·exact(jQ _ 16 (by decide)).1.symm
 congr 1
 ·exact(jQ _ 3 (by decide)).1.symm
 congr 1
 ·exact(jQ _ 4 (by decide)).1.symm
 congr 1
 ·exact(Oz _).symm
 congr 1
 exact(Pa _).symm
theorem Vp (c:Int):(cD c).what<16:=(jQ (c.fdiv 10) 16 (by decide)).2
noncomputable def cG (la:Bool):List (N×T)->Nat->List Int->List (N×T)
 | l,_,[]=>l
 | l,i,c::cs=>cG la (R0 la l i (cD c)) (i+1) cs
noncomputable def lH (la:Bool) (m:Nat):List (N×T)->Nat->List Int->Prop
 | _,_,[]=>True
 | l,i,c::cs=>iS m ((cD c).sign la).1/\(∀ x,x∈l->iS m x.1)/\l.length+2<=1000/\lH la m (R0 la l i (cD c)) (i+1) cs
noncomputable def KS (j:Nat) (cs:List Int):List D:=((cs.map D.int).zipIdx j).map fun p=>.tup [.int p.2,p.1]
noncomputable def iP (S dg:D) (la:Bool) (text:List Int) (p:Nat) (a3 v9 oJ:Option V):List (Option V):=
 [v_ S,some (.loc 0),some (.loc 1),a3,some (.loc 3),v_ dg,v_ (n5 text),v_ (.int (p:Nat)),v_ (.int (fl la).i),v9,oJ,none,none,none,none,none,none,none,none,none]
theorem Tq (X:FX G) (S dg:D) (la:Bool) (cs:List Int) (c0:Int) (text:List Int) (p:Nat) (x:N) (t:T) (F:eS la text p x t) (hc:cs≠[]) (hO:lH la 40 [] 1 cs)
  (hl:∀ l,l=cG la [] 1 cs->B5 la l l.length true=[(x,t)]/\1<=l.length/\l.length<=1000) (m0 m1 m2 m4:M) (h0:C9 m0) (h1:C9 m1) (h2:C9 m2) (h4:C9 m4) (h:410<=k) (tl:text.length<=3) (pl:p<=text.length) :
  (wp G k 12).x (x6.drop 8) ⟨iP S dg la text p none (some (.loc 5)) none,[m0,m1,m2,.list (J9 (c0::cs)),m4,.list []]⟩ (f6 (.bool true)):=by
 let R:=D.bool true
 let m3:M:=.list (J9 (c0::cs))
 let m6:M:=.frozen (n5 cs)
 let mu (m5:M):List M:=[m0,m1,m2,m3,m4,m5,m6]
 have V0 (m5:M) (h5:C9 m5):∀ m,m∈mu m5->C9 m:=by
  intro m hm
  simp only[mu,v5,A8,or_false] at hm
  rcases hm with rfl | rfl | rfl | rfl | rfl | rfl | rfl
  ·exact h0
  ·exact h1
  ·exact h2
  ·exact qT _
  ·exact h4
  ·exact h5
  ·exact kM _
 let fin:=cG la [] 1 cs
 let z5:M:=.frozen (.lst [])
 let sh (l:List (N×T)) (v9:Option V) (m5:M):Prop:=(v9=some (.loc 5)/\m5=.list []/\l=[])∨(v9=v_ (w4 l)/\m5=z5)
 let I:List D->St->Prop:=fun ds σ=>∃(cs':List Int) (j:Nat) (l:List (N×T)) (v9:Option V) (m5:M),ds=KS j cs'/\cG la l (j+1) cs'=fin/\lH la 40 l (j+1) cs'/\sh l v9 m5/\(cs'=[]->v9=v_ (w4 l))/\σ=⟨iP S dg la text p none v9 none,mu m5⟩
 have lp:fo (wp G k 11) (j8 x6 8).tgt (j8 x6 8).l5 (x6.drop 9) (f6 R) (numbered (cs.map D.int)) ⟨iP S dg la text p none (some (.loc 5)) none,mu (.list [])⟩:=by
  refine gS [3,10] I ⟨cs,0,[],_,_,rfl,rfl,hO,.inl ⟨rfl,rfl,rfl⟩,fun e=>absurd e hc,rfl⟩ ?_ ?_
  ·rintro d rs σ₁ ⟨cs',j,l,v9,m5,e,e2,e3,e4,e5,rfl⟩ _
   cases cs' with
   | nil=>cases e
   | cons c cs'=>
   have e:d::rs=.tup [.int (j:Nat),.int c]::KS (j+1) cs':=e
   injection e with ea eb
   subst ea eb
   obtain⟨f1,f2,f3,f4⟩:=e3
   let J:=Let 7 [3,10] (I (KS (j+1) cs'))
   let l':=R0 la l (j+1) (cD c)
   have jj:J ⟨iP S dg la text p (v_ (.int c)) (v_ (w4 l')) (v_ (.int (j:Nat))),mu z5⟩:=by
    refine Z8 [] ⟨iP S dg la text p none (v_ (w4 l')) none,mu z5⟩ rfl ?_ ⟨cs',j+1,l',_,z5,rfl,e2,f4,.inr ⟨rfl,rfl⟩,fun ζ=>rfl,rfl⟩
    have e:cI 7 [] (mu z5)=mu z5:=by rw[Bo (V0 z5 (kM _))];rfl
    show(⟨_,cI 7 [] (mu z5)⟩:St)=_
    rw[e];rfl
   have a:=Yd X la l (j+1) c (cD c) (Vo c) (Vp c) 40 (by decide) f1 f2 f3
   let K:D->Prop:=fun d=>j7 true (J ⟨iP S dg la text p (v_ (.int c)) (v_ d) (v_ (.int (j:Nat))),mu z5⟩)
   have q:cal G k 505 [w4 l,.int (((j:Nat):Int)+1),.int c,.int (fl la).i] K:=e9 K (m:=42) (n:=410) a h jj
   refine s9 (Q:=False) rfl ?_
   have q2:(wp G k 11).x (j8 x6 8).l5 ⟨iP S dg la text p (v_ (.int c)) v9 (v_ (.int (j:Nat))),mu m5⟩ (again (f6 R) J):=by
    rcases e4 with⟨rfl,rfl,rfl⟩ |⟨rfl,rfl⟩
    ·exact kc q (by kernel_rfl)
    ·exact kc q (by kernel_rfl)
   exact q2
  ·rintro σ₁ ⟨cs',j,l,v9,m5,e,e2,e3,e4,e5,rfl⟩ _
   cases cs' with
   | cons _ _=>cases e
   | nil=>
   have e5:=e5 rfl
   subst e5
   have e2:l=fin:=e2
   subst e2
   obtain⟨g1,g2,g3⟩:=hl _ rfl
   have h5:C9 m5:=by
    rcases e4 with⟨a,_,_⟩ |⟨_,rfl⟩
    ·cases a
    ·exact kM _
   exact Tr X S dg la _ text p x t F g1 g2 g3 m0 m1 m2 m3 m4 m5 m6 (V0 m5 h5) h tl pl
 let L:=B3 (J9 (c0::cs)) (some 1) none
 have hL:L=(cs.map D.int).map V.val:=VE (J9 (c0::cs)) 1 (u6 (v7 _))
 let Z:D×List M->Prop:=fun y=>oe y.1.E5 fun ds=>fo (wp G k 11) (j8 x6 8).tgt (j8 x6 8).l5 (x6.drop 9) (f6 R) (numbered ds) ⟨iP S dg la text p none (some (.loc 5)) none,y.2⟩
 refine kc (show oe (fz 6 [m0,m1,m2,m3,m4,.list [],.list L] (.loc 6)) Z from ?_)
 refine hL▸?_
 exact j6 (bZ (c:=6) (ds:=cs.map D.int) rfl) (j6 (x:=cs.map D.int) rfl lp)
end
section
variable {G:Gd} {k n:Nat}
noncomputable def qC (d:Int):Int:=bif d==0 then 97 else bif d==1 then 98 else bif d==2 then 65 else 10
noncomputable def W8:M:=.list [.val (.int 97),.val (.int 98),.val (.int 65),.val (.int 10)]
noncomputable def kB:M:=.frozen (n5 [6,6,2,4,4,4,4,4])
noncomputable def kZ (S:D) (a4 a5 a6 a7 a8 a9:Option V):List (Option V):=
 [v_ S,some (.loc 0),some (.loc 1),none,a4,a5,a6,a7,a8,a9,none,none,none,none,none,none,none,none,none,none]
theorem LX:C9 W8:=qT [.int 97,.int 98,.int 65,.int 10]
section
variable {S:D} {d0 d1 d2 d3 d4 d5 d6 d7 c0:Int} {cs:List Int} {m1 m2:M}
theorem Tp (X:FX G) (la:Bool) (text:List Int) (p:Nat) (x:N) (t:T) (F:eS la text p x t) (hc:cs≠[]) (hO:lH la 40 [] 1 cs)
  (hl:∀ l,l=cG la [] 1 cs->B5 la l l.length true=[(x,t)]/\1<=l.length/\l.length<=1000) (h1:C9 m1) (h2:C9 m2) (h:410<=k) (tl:text.length<=3) (hp:d1.fmod ((text.length:Int)+1)=(p:Nat)) (hla:(d2==1)=la) :
  (wp G k 14).x (x6.drop 6) ⟨kZ S (some (.loc 3)) (v_ (n5 [d0,d1,d2,d3,d4,d5,d6,d7])) (v_ (n5 text)) none none none,[W8,m1,m2,.list (J9 (c0::cs)),kB]⟩ (f6 (.bool true)):=by
 let R:=D.bool true
 let dg:=n5 [d0,d1,d2,d3,d4,d5,d6,d7]
 have pl:p<=text.length:=by
  have:=oR d1 (b:=(text.length:Int)+1) (by lia)
  omega
 have z:=Tq X S dg la cs c0 text p x t F hc hO hl W8 m1 m2 kB LX h1 h2 (kM _) h tl pl
 let L:Int:=((text.map D.int).map V.val).length
 have hL:L=(text.length:Nat):=by show(((text.map D.int).map V.val).length:Int)=_;rw[i9,i9]
 let mu:List M:=[W8,m1,m2,.list (J9 (c0::cs)),kB]
 let A (f:Int):Prop:=C6 (.tup [7,8]) (.val (.tup [.int (d1.fmod (L+1)),.int f])) ⟨kZ S (some (.loc 3)) (v_ dg) (v_ (n5 text)) none none none,mu⟩ fun σ=>(wp G k 13).x (x6.drop 7) σ (f6 R)
 have a:A (fl la).i:=by
  refine CP rfl ?_
  rw[hL,hp]
  exact kc (show j7 true ((wp G k 12).x (x6.drop 8) ⟨iP S dg la text p none (some (.loc 5)) none,[W8,m1,m2,.list (J9 (c0::cs)),kB,.list []]⟩ (f6 R)) from z)
 have q:L+1≠0/\br (d2==1) (A 32) (A 0):=by
  refine⟨by rw[hL];lia,?_⟩
  rw[hla]
  induction la using Bool.casesOn with
  | true=>exact a
  | false=>exact a
 exact kc q
theorem To (X:FX G) (la:Bool) (text:List Int) (p:Nat) (x:N) (t:T) (F:eS la text p x t) (hc:cs≠[]) (hO:lH la 40 [] 1 cs)
  (hl:∀ l,l=cG la [] 1 cs->B5 la l l.length true=[(x,t)]/\1<=l.length/\l.length<=1000) (h1:C9 m1) (h2:C9 m2) (h:410<=k) (h0:0<=d0) (hd:∀ d,d∈[d3,d4,d5,d6,d7]->0<=d/\d<4)
  (ht:text=([d3,d4,d5,d6,d7].take (min d0 3).toNat).map qC) (hp:d1.fmod ((text.length:Int)+1)=(p:Nat)) (hla:(d2==1)=la) :
  (wp G k 15).x (x6.drop 5) ⟨kZ S (some (.loc 3)) (v_ (n5 [d0,d1,d2,d3,d4,d5,d6,d7])) none none none none,[W8,m1,m2,.list (J9 (c0::cs)),kB]⟩ (f6 (.bool true)):=by
 let R:=D.bool true
 have tl:text.length<=3:=by rw[ht,i9,eZ];exact k6 (FJ _ _) (Int.toNat_le.mpr (Int.min_le_right _ _))
 have z:=Tp (S:=S) (d0:=d0) (d3:=d3) (d4:=d4) (d5:=d5) (d6:=d6) (d7:=d7) (c0:=c0) X la text p x t F hc hO hl h1 h2 h tl hp hla
 let dl:List D:=[.int d0,.int d1,.int d2,.int d3,.int d4,.int d5,.int d6,.int d7]
 let mu:List M:=[W8,m1,m2,.list (J9 (c0::cs)),kB]
 have V0:∀ m,m∈mu->C9 m:=by
  intro m hm
  simp only[mu,v5,A8,or_false] at hm
  rcases hm with rfl | rfl | rfl | rfl | rfl
  ·exact LX
  ·exact h1
  ·exact h2
  ·exact qT _
  ·exact kM _
 have mV:cut 5 mu=mu:=HN V0 5
 let KI:List (Option V):=none::some (.loc 0)::List.replicate 19 none
 let body:=J3 (wp G k 13) KI 5 (.idx (.var 1) (.var 20)) (.var 20) []
 let K:List D->List M->Prop:=fun acc mu=>C6 (.var 6) (.val (.lst acc)) ⟨kZ S (some (.loc 3)) (v_ (.lst dl)) none none none none,mu⟩ fun σ=>(wp G k 14).x (x6.drop 6) σ (f6 R)
 let CL:=B3 dl (some 3) (some (3+min d0 3))
 let es:=[d3,d4,d5,d6,d7].take (min d0 3).toNat
 have aW:CL=es.map D.int:=by
  have e:(min d0 3)=((min d0 3).toNat:Nat):=by lia
  show B3 dl (some 3) (some (3+min d0 3))=_
  have:=VC dl 3 (min d0 3).toNat (bS 3 5)
  rw[<-e] at this
  refine this.trans ?_
  show List.take _ ([d3,d4,d5,d6,d7].map D.int)=_
  rw[xZ]
 have kk:K (es.map fun d=>.int (qC d)) mu:=by
  have e:D.lst (es.map fun d=>.int (qC d))=n5 text:=by rw[ht];unfold n5;rw[A6];rfl
  refine s9 (Q:=False) rfl ?_
  rw[e]
  exact z
 have g:z7 body (es.map D.int) [] mu K:=Z3 (body:=body) (mu:=mu) (K:=K) D.int (fun d=>.int (qC d)) es (fun d hd' acc K' hk=>by
  have b:=hd d (QD hd')
  have:d=0∨d=1∨d=2∨d=3:=by lia
  rw[<-mV] at hk
  rcases this with rfl | rfl | rfl | rfl<;>exact kc hk (by kernel_rfl)) [] kk
 rw[<-aW] at g
 exact kc g
noncomputable def cellsOf (s:List Int):List Int:=((s.take 6).map fun x=>x.fmod 1000000000000)++([1155,1443,92]:List Int).drop ((s.take 6).map fun x=>x.fmod 1000000000000).length
noncomputable def VO (c0:Int):List Int:=digits c0 [6,6,2,4,4,4,4,4]
noncomputable def textOf (c0:Int):List Int:=(((VO c0).drop 3).take (min (c0.fmod 6) 3).toNat).map qC
noncomputable def yP (c0:Int):Nat:=(((c0.fdiv 6).fmod 6).fmod (((textOf c0).length:Int)+1)).toNat
noncomputable def gZ (c0:Int):Bool:=((c0.fdiv 6).fdiv 6).fmod 2==1
structure Good (c0:Int) (cs:List Int) (x:N) (t:T):Prop where
 f:eS (gZ c0) (textOf c0) (yP c0) x t
 o:lH (gZ c0) 40 [] 1 cs
 p:B5 (gZ c0) (cG (gZ c0) [] 1 cs) (cG (gZ c0) [] 1 cs).length true=[(x,t)]
 l:1<=(cG (gZ c0) [] 1 cs).length/\(cG (gZ c0) [] 1 cs).length<=1000
theorem Tn (X:FX G) {cs:List Int} (hc:cs≠[]) (c0:Int) (x:N) (t:T) (g:Good c0 cs x t) (h1:C9 m1) (h2:C9 m2) (h:410<=k) :
  (wp G k 16).x (x6.drop 4) ⟨kZ S (some (.loc 3)) none none none none none,[W8,m1,m2,.list (J9 (c0::cs))]⟩ (f6 (.bool true)):=by
 let R:=D.bool true
 have z (d:D) (e:d=n5 (VO c0)):(wp G k 15).x (x6.drop 5) ⟨kZ S (some (.loc 3)) (v_ d) none none none none,[W8,m1,m2,.list (J9 (c0::cs)),kB]⟩ (f6 R):=by
  subst e
  have b (x:Int):0<=x.fmod 4/\x.fmod 4<4:=⟨sO x (by decide),oR x (by decide)⟩
  refine To X (gZ c0) (textOf c0) (yP c0) x t g.f hc g.o (fun l e=>?_) h1 h2 h (sO c0 (by decide)) (fun d hd=>?_) rfl ?_ rfl
  ·subst e;exact⟨g.p,g.l⟩
  ·simp only[v5,A8,or_false] at hd
   rcases hd with rfl | rfl | rfl | rfl | rfl<;>exact b _
  ·exact(jQ _ _ (by lia)).1.symm
 let K:D->Prop:=fun d=>j7 true ((wp G k 15).x (x6.drop 5) ⟨kZ S (some (.loc 3)) (v_ d) none none none none,[W8,m1,m2,.list (J9 (c0::cs)),kB]⟩ (f6 R))
 have q:cal G k 457 [.int c0,n5 [6,6,2,4,4,4,4,4]] K:=e9 K (m:=1) (n:=410) (Aw X c0 [6,6,2,4,4,4,4,4] (by decide) (by decide)) h (z _ rfl)
 exact kc q
noncomputable def qF:M:=.list [.val (.int 1155),.val (.int 1443),.val (.int 92)]
theorem Cd:C9 qF:=qT [.int 1155,.int 1443,.int 92]
theorem Yl (X:FX G) (s:List Int) (c0:Int) (cs:List Int) (e:cellsOf s=c0::cs) (hc:cs≠[]) (x:N) (t:T) (g:Good c0 cs x t):At G 411 575 [n5 s] (.bool true):=by
 refine fnAt X (b:=x6) (by rfl) (by rfl) fun k h=>?_
 let R:=D.bool true
 let S:=n5 s
 let c:=(s.take 6).map fun x=>x.fmod 1000000000000
 have hlen:c.length<=6:=by rw[i9,eZ];lia
 let vs (a4:Option V):=kZ S a4 none none none none none
 let cV:List V:=(c.map D.int).map V.val
 let L2:List V:=B3 [V.val (.int 1155),V.val (.int 1443),V.val (.int 92)] (some ((cV.length:Nat):Int)) none
 have XG:cV.length=c.length:=nB c
 have IP:L2=((([1155,1443,92]:List Int).drop c.length).map D.int).map V.val:=by
  show B3 _ (some ((cV.length:Nat):Int)) none=_
  rw[XG,VF,sU,sU];rfl
 have s3:(wp G k 17).x (x6.drop 3) ⟨vs (v_ (n5 c)),[W8,qF]⟩ (f6 R):=by
  have q:j7 (Nat.ble (cV.length+L2.length) d9) (j7 true ((wp G k 16).x (x6.drop 4) ⟨vs (some (.loc 3)),[W8,qF,.list L2,.list (cV++L2)]⟩ (f6 R))):=by
   have e1:cV++L2=J9 (c0::cs):=by
    rw[IP]
    show _=J9 (c0::cs)
    rw[<-e]
    show _=((c++([1155,1443,92]:List Int).drop c.length).map D.int).map V.val
    rw[o4,o4]
   refine s9 (n6.mpr ?_) ?_
   ·rw[XG,IP,nB,cW];have:d9=1000000:=rfl;show c.length+(3-c.length)<=_;lia
   ·rw[e1,IP]
    exact Tn X hc c0 x t g Cd (qT _) h
  exact kc q
 have s2:(wp G k 18).x (x6.drop 2) ⟨vs none,[W8,qF]⟩ (f6 R):=by
  let mu:List M:=[W8,qF]
  have V0:∀ m,m∈mu->C9 m:=by
   intro m hm
   simp only[mu,v5,A8,or_false] at hm
   rcases hm with rfl | rfl
   ·exact LX
   ·exact Cd
  have mV:cut 2 mu=mu:=HN V0 2
  let body:=J3 (wp G k 16) (List.replicate 20 none) 2 (.bin .Mod (.bi .int [.var 3]) (.bin .Pow (.const (.int 10)) (.const (.int 12)))) (.var 3) []
  let K:List D->List M->Prop:=fun acc mu=>C6 (.var 4) (.val (.lst acc)) ⟨vs none,mu⟩ fun σ=>(wp G k 17).x (x6.drop 3) σ (f6 R)
  have kk:K ((s.take 6).map fun x=>.int (x.fmod 1000000000000)) mu:=by
   have e:D.lst ((s.take 6).map fun x=>.int (x.fmod 1000000000000))=n5 c:=by unfold n5;rw[A6];rfl
   refine s9 (Q:=False) rfl ?_
   rw[e]
   exact s3
  have g2:z7 body ((s.take 6).map D.int) [] mu K:=Z3 (body:=body) (mu:=mu) (K:=K) D.int (fun x=>.int (x.fmod 1000000000000)) (s.take 6) (fun x ζ acc K' hk=>by
   rw[<-mV] at hk
   exact kc (⟨rfl,rfl,by decide,hk⟩:(10:Int)=10/\(12:Int)=12/\(1000000000000:Int)≠0/\K' (acc++[.int (x.fmod 1000000000000)]) (cut 2 mu))) [] kk
  have e6:B3 (s.map D.int) none (some 6)=(s.take 6).map D.int:=by rw[xZ];exact Mv _ 6
  rw[<-e6] at g2
  exact kc g2
 exact kc (show j7 true ((wp G k 18).x (x6.drop 2) ⟨vs none,[W8,qF]⟩ (f6 R)) from s2)
end
end
end Rx.Lake
end
section
namespace Rx.Lake
section
section
variable {σ:Type}
theorem tV {α:Type} {s:List Nat} {w:Nat×α} {l:List (Nat×α)} (h:w.1∈s):dd s (w::l)=dd s l:=by
 show(bif decide (w.1∈s) then _ else _)=_
 rw[decide_eq_true h];rfl
theorem tY {α:Type} {s:List Nat} {w:Nat×α} {l:List (Nat×α)} (h:w.1∉s):dd s (w::l)=w::dd (s++[w.1]) l:=by
 show(bif decide (w.1∈s) then _ else _)=_
 rw[decide_eq_false h];rfl
noncomputable abbrev t8 {α:Type} (l:List (Nat×α)):List Nat:=l.map (fun ζ=>ζ.1)
theorem tX {α:Type}:∀(l:List (Nat×α)) {s:List Nat},(t8 l).Nodup->(∀ w,w∈l->w.1∉s)->dd s l=l:=by
 intro b7
 induction b7 with
 | nil=>intro _ _ _;exact rfl
 | cons w l ih=>
  intro s h hs
  have h:(w.1::t8 l).Nodup:=h
  rw[H8] at h
  rw[tY (hs w f9),ih h.2 fun v hv=>?_]
  rw[n7,j5]
  rintro(z | z)
  ·exact hs v (l6 _ hv) z
  ·exact h.1 (j4.mpr ⟨v,hv,z⟩)
theorem Na {α:Type} (l:List (Nat×α)):dd [] (dd [] l)=dd [] l:=tX _ (pN l []) fun ζ ζ h=>absurd h A8
theorem Nb {α:Type}:∀(l:List (Nat×α)) (s t:List Nat),dd (s++t) l=(dd t l).filter fun w=>!decide (w.1∈s):=by
 intro b7
 induction b7 with
 | nil=>intro _ _;exact rfl
 | cons w l ih=>
  intro s t
  by_cases e:w.1∈t
  ·rw[tV e,tV (n7.mpr (.inr e)),ih]
  ·rw[tY e,ES]
   by_cases f:w.1∈s
   ·rw[tV (n7.mpr (.inl f)),decide_eq_true f,<-ih]
    show _=dd _ l
    refine tW l fun x=>?_
    simp only[n7,j5]
    constructor
    ·rintro(h | h)
     ·exact .inl h
     ·exact .inr (.inl h)
    ·rintro(h | h | h)
     ·exact .inl h
     ·exact .inr h
     ·exact .inl (h▸f)
   ·rw[tY (fun z=>(n7.mp z).elim f e),decide_eq_false f,<-ih,D9];rfl
theorem VH {α:Type}:∀(l:List (Nat×α)) (s:List Nat) (x:Nat),x∈t8 (dd s l)↔x∈t8 l/\x∉s:=by
 intro b7
 induction b7 with
 | nil=>intro s x;exact⟨fun h=>absurd h A8,fun h=>absurd h.1 A8⟩
 | cons w l ih=>
  intro s x
  by_cases e:w.1∈s
  ·rw[tV e,ih s x]
   simp only[t8,N5,v5]
   constructor
   ·rintro⟨h,g⟩;exact⟨.inr h,g⟩
   ·rintro⟨h | h,g⟩
    ·exact absurd (h▸e) g
    ·exact⟨h,g⟩
  ·rw[tY e]
   show x∈w.1::t8 (dd (s++[w.1]) l)↔x∈w.1::t8 l/\x∉s
   rw[v5,v5,ih,n7,j5]
   constructor
   ·rintro(h |⟨h,g⟩)
    ·exact⟨.inl h,h▸e⟩
    ·exact⟨.inr h,fun z=>g (.inl z)⟩
   ·rintro⟨h | h,g⟩
    ·exact .inl h
    ·by_cases q:x=w.1
     ·exact .inl q
     ·exact .inr ⟨h,fun z=>z.elim g q⟩
noncomputable def Sm {α:Type} (a b:List (Nat×α)):Prop:=dd [] a=dd [] b
variable {α:Type} {a a' b b' c:List (Nat×α)}
theorem Sm.rfl':Sm a a:=rfl
theorem Sm.of (h:a=b):Sm a b:=by rw[h];exact rfl
theorem Sm.symm (h:Sm a b):Sm b a:=Eq.symm h
theorem Sm.trans (h:Sm a b) (g:Sm b c):Sm a c:=sM h g
theorem Sm.ends (h:Sm a b) (x:Nat):x∈t8 a↔x∈t8 b:=by
 have e1:=VH a [] x
 have e2:=VH b [] x
 rw[show dd [] a=dd [] b from h] at e1
 constructor
 ·exact fun z=>(e2.mp (e1.mpr ⟨z,A8⟩)).1
 ·exact fun z=>(e1.mp (e2.mpr ⟨z,A8⟩)).1
theorem Sm.dd (a:List (Nat×α)):Sm (Lake.dd [] a) a:=Na a
theorem Sm.seen (h:Sm a b) (s:List Nat):Lake.dd s a=Lake.dd s b:=by
 have e (l:List (Nat×α)):Lake.dd s l=(Lake.dd [] l).filter fun w=>!decide (w.1∈s):=by have:=Nb l s [];rwa [u9] at this
 rw[e a,e b,show Lake.dd [] a=Lake.dd [] b from h]
theorem Sm.app (h:Sm a a') (g:Sm b b'):Sm (a++b) (a'++b'):=by
 show Lake.dd [] (a++b)=Lake.dd [] (a'++b')
 rw[gM,gM,show Lake.dd [] a=Lake.dd [] a' from h,g.seen]
 congr 1
 refine tW b' fun x=>?_
 rw[W2,W2]
 exact h.ends x
theorem Sm.pA (h:∀ x,x∈t8 b->x∈t8 a):Sm (a++b) a:=by
 show Lake.dd [] (a++b)=Lake.dd [] a
 rw[gM,HQ b fun w hw=>?_,u9]
 rw[W2]
 exact h _ (j4.mpr ⟨w,hw,rfl⟩)
theorem Sm.idem:Sm (a++a) a:=Sm.pA fun ζ h=>h
end
section
variable {σ:Type}
theorem ends_app {α:Type} (a b:List (Nat×α)):t8 (a++b)=t8 a++t8 b:=o4
theorem WC (u:List σ) (l:List (Nat×List σ)):t8 (l.map (pre u))=t8 l:=by unfold t8;rw[A6];rfl
noncomputable abbrev Pr (σ:Type):=Nat->List (Nat×List σ)
noncomputable def sq (a:List (Nat×List σ)) (g:Pr σ):List (Nat×List σ):=a.flatMap fun w=>(g w.1).map (pre w.2)
noncomputable def one' (p:Nat):List (Nat×List σ):=[(p,[])]
theorem dX (g:Pr σ):sq [] g=[]:=rfl
theorem X6 (w:Nat×List σ) (a:List (Nat×List σ)) (g:Pr σ):sq (w::a) g=(g w.1).map (pre w.2)++sq a g:=rfl
theorem wD (a b:List (Nat×List σ)) (g:Pr σ):sq (a++b) g=sq a g++sq b g:=sR
theorem E8 (p:Nat) (g:Pr σ):sq (one' p) g=g p:=by show(g p).map (pre [])++[]=_;rw[u9,AL]
theorem aE5 (u:List σ):∀(a:List (Nat×List σ)) (g:Pr σ),sq (a.map (pre u)) g=(sq a g).map (pre u):=by
 intro b7
 induction b7 with
 | nil=>intro g;exact rfl
 | cons w a ih=>
  intro g
  rw[N5,X6,X6,ih g,o4,A6]
  congr 2
  funext v
  exact(Cb u w.2 v).symm
theorem V4:∀(a:List (Nat×List σ)) (g h:Pr σ),sq (sq a g) h=sq a fun p=>sq (g p) h:=by
 intro b7
 induction b7 with
 | nil=>intro _ _;exact rfl
 | cons w a ih=>intro g h;rw[X6,wD,ih g h,aE5,X6]
theorem O6:∀ a:List (Nat×List σ),sq a one'=a:=by
 intro b7
 induction b7 with
 | nil=>exact rfl
 | cons w a ih=>
  rw[X6,ih]
  show [(w.1,w.2++[])]++a=_
  rw[u9];rfl
theorem V5 {g h:Pr σ}:∀{a:List (Nat×List σ)},(∀ w,w∈a->g w.1=h w.1)->sq a g=sq a h:=by
 intro b7
 induction b7 with
 | nil=>intro _;exact rfl
 | cons w a ih=>intro e;rw[X6,X6,e w f9,ih fun v hv=>e v (l6 _ hv)]
theorem Sm.pre {a b:List (Nat×List σ)} (h:Sm a b) (u:List σ):Sm (a.map (pre u)) (b.map (pre u)):=by
 have e (l:List (Nat×List σ)):Lake.dd [] (l.map (Lake.pre u))=(Lake.dd [] l).map (Lake.pre u):=HP (fun ζ v=>u++v) l []
 show Lake.dd [] _=Lake.dd [] _
 rw[e,e,show Lake.dd [] a=Lake.dd [] b from h]
theorem Sm.G2 {g h:Pr σ}:∀{a:List (Nat×List σ)},(∀ w,w∈a->Sm (g w.1) (h w.1))->Sm (sq a g) (sq a h):=by
 intro b7
 induction b7 with
 | nil=>intro _;exact rfl
 | cons w a ih=>
  intro e
  rw[X6,X6]
  exact((e w f9).pre w.2).app (ih fun v hv=>e v (l6 _ hv))
theorem kR {g:Pr σ} {a:List (Nat×List σ)} {x:Nat}:x∈t8 (sq a g)↔∃ e,e∈t8 a/\x∈t8 (g e):=by
 constructor
 ·intro h
  obtain⟨v,hv,rfl⟩:=j4.mp h
  obtain⟨w,hw,hv⟩:=cY.mp hv
  obtain⟨z,hz,rfl⟩:=j4.mp hv
  exact⟨w.1,j4.mpr ⟨w,hw,rfl⟩,j4.mpr ⟨z,hz,rfl⟩⟩
 ·rintro⟨e,he,hx⟩
  obtain⟨w,hw,rfl⟩:=j4.mp he
  obtain⟨z,hz,rfl⟩:=j4.mp hx
  exact j4.mpr ⟨Lake.pre w.2 z,cY.mpr ⟨w,hw,j4.mpr ⟨z,hz,rfl⟩⟩,rfl⟩
theorem Nd (g:Pr σ):∀(a:List (Nat×List σ)) (s t:List Nat),(∀ e,e∈s->∀ x,x∈t8 (g e)->x∈t)->dd t (sq a g)=dd t (sq (dd s a) g):=by
 intro b7
 induction b7 with
 | nil=>intro _ _ _;exact rfl
 | cons w a ih=>
  intro s t h
  by_cases e:w.1∈s
  ·rw[tV e,X6,gM]
   have z:dd t ((g w.1).map (pre w.2))=[]:=HQ _ fun v hv=>by
    obtain⟨z,hz,rfl⟩:=j4.mp hv
    exact h _ e _ (j4.mpr ⟨z,hz,rfl⟩)
   rw[z,W2,<-ih s t h]
   refine tW _ fun x=>?_
   rw[n7]
   have:=WC w.2 (g w.1)
   rw[show List.map (fun x=>x.1) (List.map (pre w.2) (g w.1))=t8 (g w.1) from this]
   exact⟨fun z=>z.elim id (h _ e x),.inl⟩
  ·rw[tY e,X6,X6,gM,gM]
   congr 1
   refine ih (s++[w.1]) _ fun y hy x hx=>?_
   rw[n7]
   rw[show List.map (fun x=>x.1) (List.map (pre w.2) (g w.1))=t8 (g w.1) from WC w.2 (g w.1)]
   rcases n7.mp hy with hy | hy
   ·exact .inl (h y hy x hx)
   ·rw[j5] at hy;subst hy;exact .inr hx
theorem Sm.O5 {a b:List (Nat×List σ)} (h:Sm a b) (g:Pr σ):Sm (sq a g) (sq b g):=by
 have e (l:List (Nat×List σ)):Sm (sq l g) (sq (Lake.dd [] l) g):=Nd g l [] [] fun ζ z=>absurd z A8
 exact(e a).trans (by rw[show Lake.dd [] a=Lake.dd [] b from h];exact(e b).symm)
end
end
section
section
variable {σ:Type}
noncomputable def dI (lz:Bool) (p:Nat):List (Nat×List σ):=bif lz then [(p,[])] else []
noncomputable def fO (lz:Bool) (p:Nat):List (Nat×List σ):=bif lz then [] else [(p,[])]
noncomputable def B6 (lz:Bool) (p:Nat) (A:List (Nat×List σ)):List (Nat×List σ):=dI lz p++A++fO lz p
noncomputable def kU (g:Pr σ) (p:Nat) (Y:List (Nat×List σ)):Pr σ:=fun q=>bif decide (q=p) then Y else g q
noncomputable def upd (g:Pr σ) (p:Nat):Pr σ:=kU g p [(p,[])]
theorem V6 (g:Pr σ) (p:Nat) (Y:List (Nat×List σ)):kU g p Y p=Y:=by unfold kU;rw[decide_eq_true rfl];rfl
theorem P0 (g:Pr σ) {p q:Nat} (Y:List (Nat×List σ)) (h:q≠p):kU g p Y q=g q:=by unfold kU;rw[decide_eq_false h];rfl
theorem aJ7 (g:Pr σ) (p:Nat):kU g p (g p)=g:=by
 funext q
 by_cases h:q=p
 ·rw[h,V6]
 ·exact(P0 _ _ h)▸rfl
noncomputable def Ok (n:Nat) (f:Pr σ):Prop:=∀ p,p<=n->∀ w,w∈f p->p<=w.1/\w.1<=n
noncomputable def Hs (n:Nat) (f:Pr σ):Prop:=∀ p,p<=n->∀ w,w∈f p->w.1=p->w.2=[]
noncomputable def isStar (n:Nat) (lz:Bool) (f s:Pr σ):Prop:=∀ p,p<=n->Sm (s p) (B6 lz p (sq (f p) (upd s p)))
theorem aU {lz:Bool} {p:Nat} {A B:List (Nat×List σ)} (h:Sm A B):Sm (B6 lz p A) (B6 lz p B):=(Sm.app Sm.rfl' h).app Sm.rfl'
theorem dG {lz:Bool} {p:Nat} {A:List (Nat×List σ)} {x:Nat}:x∈t8 (B6 lz p A)↔x=p∨x∈t8 A:=by
 unfold B6 dI fO
 induction lz using Bool.casesOn
 ·show x∈t8 ([]++A++[(p,[])])↔_
  rw[W2,ends_app,n7]
  exact⟨fun h=>h.elim .inr fun h=>.inl (j5.mp h),fun h=>h.elim (fun e=>.inr (j5.mpr e)) .inl⟩
 ·show x∈t8 ((p,[])::A++[])↔_
  rw[u9]
  exact v5
theorem pR (lz:Bool) (p:Nat) (A:List (Nat×List σ)):Sm (B6 lz p (B6 lz p A)) (B6 lz p A):=by
 induction lz using Bool.casesOn
 ·show Sm ([]++([]++A++[(p,[])])++[(p,[])]) ([]++A++[(p,[])])
  rw[W2,W2]
  exact Sm.pA fun x h=>by rw[ends_app];exact n7.mpr (.inr h)
 ·show Sm ([(p,[])]++([(p,[])]++A++[])++[]) ([(p,[])]++A++[])
  rw[u9,u9,<-D9]
  exact Sm.app Sm.idem Sm.rfl'
theorem twice (a r:List (Nat×List σ)):Sm (a++(a++r)) (a++r):=by
 rw[<-D9];exact Sm.idem.app Sm.rfl'
theorem aE3 (lz:Bool) (p:Nat) (g:Pr σ):sq (dI lz p) g=bif lz then g p else []:=by
 induction lz using Bool.casesOn
 ·rfl
 ·exact E8 p g
theorem aE4 (lz:Bool) (p:Nat) (g:Pr σ):sq (fO lz p) g=bif lz then [] else g p:=by
 induction lz using Bool.casesOn
 ·exact E8 p g
 ·rfl
theorem nQ (lz:Bool) (p:Nat) (A:List (Nat×List σ)) (g:Pr σ):sq (B6 lz p A) g=(bif lz then g p else [])++sq A g++(bif lz then [] else g p):=by
 unfold B6
 rw[wD,wD,aE3,aE4]
theorem down {n:Nat} {P:Nat->Prop} (h:∀ p,p<=n->(∀ q,p<q->q<=n->P q)->P p):∀ p,p<=n->P p:=by
 have:∀ m p,p<=n->n-p<=m->P p:=fun m=>by
  induction m with
  | zero=>exact fun p hp hm=>h p hp fun q a b=>absurd a (by lia)
  | succ m ih=>exact fun p hp hm=>h p hp fun q a b=>ih q b (by lia)
 exact fun p hp=>this (n-p) p hp (g7 _)
variable {n:Nat} {lz:Bool} {f g s t:Pr σ}
theorem CD (ho:Ok n f) (hfg:∀ p,p<=n->Sm (f p) (g p)) (hs:isStar n lz f s) (ht:isStar n lz g t):∀ p,p<=n->Sm (s p) (t p):=down fun p hp ih=>by
 refine(hs p hp).trans ((aU ?_).trans (ht p hp).symm)
 refine Sm.trans (Sm.G2 (h:=upd t p) fun w hw=>?_) ((hfg p hp).O5 _)
 have:=ho p hp w hw
 by_cases e:w.1=p
 ·rw[e];exact Sm.of ((V6 s p _).trans (V6 t p _).symm)
 ·unfold upd;rw[P0 _ _ e,P0 _ _ e];exact ih w.1 (by lia) this.2
section
variable (ho:Ok n f) (hH:Hs n f) (hs:isStar n lz f s)
include ho hH hs
theorem Dm {p:Nat} (hp:p<=n) {Y T:List (Nat×List σ)} (hY:Sm Y (s p)) (hT:Sm (dI lz p++sq (f p) (upd s p)++T) (s p)):∀ L2 L1:List (Nat×List σ),f p=L1++L2->Sm (dI lz p++sq L1 (upd s p)++(sq L2 (kU s p Y)++T)) (s p):=by
 intro b7
 induction b7 with
 | nil=>
  intro L1 e
  rw[u9] at e
  exact e▸(hT)
 | cons w L2 ih=>
  intro L1 e
  by_cases ew:w.1=p
  ·have hX:=hs p hp
   have hw:w.2=[]:=hH p hp w (by rw[e];exact n7.mpr (.inr f9)) ew
   have IQ:∀ x,x∈t8 T->x∈t8 (s p):=fun x hx=>(hT.ends x).mp (by rw[ends_app];exact n7.mpr (.inr hx))
   rw[X6,hw,ew,V6,AL,D9 Y]
   have hA:∀ x,x∈t8 (sq L2 (kU s p Y)++T)->x∈t8 Y:=fun x hx=>by
    rw[ends_app] at hx
    refine(hY.ends x).mpr ?_
    rcases n7.mp hx with hx | hx
    ·obtain⟨q,hq,hx⟩:=kR.mp hx
     by_cases eq:q=p
     ·rw[eq,V6] at hx;exact(hY.ends x).mp hx
     ·rw[P0 _ _ eq] at hx
      refine(hX.ends x).mpr (dG.mpr (.inr (kR.mpr ⟨q,?_,by unfold upd;rw[P0 _ _ eq];exact hx⟩)))
      rw[e,ends_app]
      exact n7.mpr (.inr (l6 _ hq))
    ·exact IQ x hx
   refine(Sm.app Sm.rfl' (Sm.pA hA)).trans ((Sm.app Sm.rfl' (hY.trans hX)).trans (Sm.trans ?_ hX.symm))
   unfold B6
   rw[e,wD,show dI lz p++(sq L1 (upd s p)++sq (w::L2) (upd s p))++fO lz p=(dI lz p++sq L1 (upd s p))++(sq (w::L2) (upd s p)++fO lz p) by simp only[D9]]
   exact twice _ _
  ·have:=ih (L1++[w]) (by rw[e,D9];rfl)
   rw[wD,X6,dX,u9] at this
   rw[X6,P0 _ _ ew]
   unfold upd at this
   rw[P0 _ _ ew] at this
   unfold upd
   simp only[D9] at this ⊢
   exact this
theorem Dn {p:Nat} (hp:p<=n):Sm (B6 lz p (sq (f p) s)) (s p):=by
 have:=Dm ho hH hs hp (Y:=s p) (T:=fO lz p) Sm.rfl' (hs p hp).symm (f p) [] rfl
 rw[aJ7,dX,u9,<-D9] at this
 exact this
theorem Dt {p:Nat} (hp:p<=n) {q:Pr σ} (hq:Sm (q p) (B6 lz p (f p))):Sm (sq (q p) s) (s p):=by
 have h1:=Dn ho hH hs hp
 refine(hq.O5 s).trans ?_
 rw[nQ]
 induction lz using Bool.casesOn with
 | true=>
  show Sm (s p++sq (f p) s++[]) (s p)
  rw[u9]
  exact Sm.pA fun x hx=>(h1.ends x).mp (dG.mpr (.inr hx))
 | false=>
  show Sm ([]++sq (f p) s++s p) (s p)
  rw[W2]
  refine(Sm.app Sm.rfl' h1.symm).trans (Sm.trans ?_ h1)
  show Sm (sq (f p) s++([]++sq (f p) s++[(p,[])])) ([]++sq (f p) s++[(p,[])])
  rw[W2]
  exact twice _ _
end
theorem Ds (ho:Ok n f) (hs:isStar n lz f s):∀ p,p<=n->∀ x,x∈t8 (s p)->p<=x/\x<=n:=down fun p hp ih x hx=>by
 rcases dG.mp (((hs p hp).ends x).mp hx) with rfl | hx
 ·exact⟨g7 _,hp⟩
 ·obtain⟨q,hq,hx⟩:=kR.mp hx
  obtain⟨w,hw,rfl⟩:=j4.mp hq
  have:=ho p hp w hw
  by_cases e:w.1=p
  ·unfold upd at hx;rw[e,V6] at hx;cases j5.mp hx;exact⟨g7 _,hp⟩
  ·unfold upd at hx;rw[P0 _ _ e] at hx
   have h2:=ih w.1 (by lia) this.2 x hx
   lia
section
variable (ho:Ok n f) (hH:Hs n f) (hs:isStar n lz f s)
include ho hH hs
theorem MP:∀ p,p<=n->Sm (sq (s p) s) (s p):=down fun p hp ih=>by
 refine((hs p hp).O5 s).trans ?_
 rw[nQ,V4]
 have e:Sm (sq (f p) fun q=>sq (upd s p q) s) (sq (f p) s):=Sm.G2 fun w hw=>by
  have:=ho p hp w hw
  by_cases e:w.1=p
  ·rw[e];unfold upd;rw[V6];exact Sm.of (E8 p s)
  ·unfold upd;rw[P0 _ _ e];exact ih w.1 (by lia) this.2
 refine Sm.trans (Sm.app (Sm.app Sm.rfl' e) Sm.rfl') ?_
 have:=Dt ho hH hs hp (q:=fun p=>B6 lz p (f p)) Sm.rfl'
 rw[nQ] at this
 exact this
theorem Dp {p q:Nat} (hpq:p<q) (hq:q<=n):Sm (sq (s q) (upd s p)) (s q):=by
 refine Sm.trans (Sm.of (V5 fun w hw=>?_)) (MP ho hH hs q hq)
 have:=Ds ho hs q hq w.1 (j4.mpr ⟨w,hw,rfl⟩)
 exact P0 _ _ (by lia)
theorem Dq {p:Nat} (hp:p<=n):Sm (sq (s p) (upd s p)) (s p):=by
 refine((hs p hp).O5 _).trans (Sm.trans ?_ (hs p hp).symm)
 rw[nQ,V4]
 have e1:upd s p p=[(p,[])]:=V6 _ _ _
 refine e1▸?_
 have e:Sm (sq (f p) fun q=>sq (upd s p q) (upd s p)) (sq (f p) (upd s p)):=Sm.G2 fun w hw=>by
  have:=ho p hp w hw
  by_cases e:w.1=p
  ·rw[e,e1];exact Sm.of ((E8 p _).trans e1)
  ·have e2:upd s p w.1=s w.1:=P0 _ _ e
   refine e2▸?_
   exact Dp ho hH hs (by lia) this.2
 induction lz using Bool.casesOn
 ·exact(Sm.app (Sm.app (b:=_) Sm.rfl' e) Sm.rfl')
 ·exact(Sm.app (Sm.app (b:=_) Sm.rfl' e) Sm.rfl')
theorem aF1:isStar n lz s s:=fun p hp=>by
 refine(hs p hp).trans ((pR lz p _).symm.trans (aU ?_))
 exact((Dq ho hH hs hp).trans (hs p hp)).symm
theorem aF0 {q:Pr σ} (hq:∀ p,p<=n->Sm (q p) (B6 lz p (f p))):isStar n lz q s:=fun p hp=>by
 refine(hs p hp).trans ((pR lz p _).symm.trans (aU ?_))
 refine Sm.trans ?_ ((hq p hp).symm.O5 _)
 rw[nQ,show upd s p p=[(p,[])] from V6 _ _ _]
 induction lz using Bool.casesOn<;>exact Sm.rfl'
theorem aE9 {q:Pr σ} (hq:∀ p,p<=n->Sm (q p) (sq (f p) s)):isStar n lz q s:=fun p hp=>by
 have c:=Dm ho hH hs hp (Y:=sq (s p) (upd s p)) (T:=fO lz p) (Dq ho hH hs hp) (hs p hp).symm (f p) [] rfl
 rw[dX,u9,<-D9] at c
 refine c.symm.trans (aU ?_)
 refine Sm.trans ?_ ((hq p hp).symm.O5 _)
 rw[V4]
 refine Sm.G2 fun w hw=>?_
 have:=ho p hp w hw
 by_cases e:w.1=p
 ·rw[e,V6];exact Sm.rfl'
 ·exact(P0 _ _ e)▸((Dp ho hH hs (by lia) this.2).symm)
theorem Zi {q:Pr σ} (hq:∀ p,p<=n->Sm (q p) (sq (f p) s)) {p:Nat} (hp:p<=n):Sm (sq (q p) s) (q p):=by
 refine((hq p hp).O5 s).trans (Sm.trans ?_ (hq p hp).symm)
 rw[V4]
 exact Sm.G2 fun w hw=>MP ho hH hs w.1 (ho p hp w hw).2
end
end
end
section
section
variable {σ:Type}
noncomputable def pow (f:Pr σ):Nat->Pr σ
 | 0,p=>one' p
 | k+1,p=>sq (f p) (pow f k)
noncomputable def opt (f:Pr σ) (lz:Bool):Nat->Pr σ
 | 0,p=>one' p
 | k+1,p=>B6 lz p (sq (f p) (opt f lz k))
theorem pS (lz:Bool) (p:Nat):B6 lz p []=(one' p:List (Nat×List σ)):=by induction lz using Bool.casesOn<;>rfl
variable {c:Rd σ}
theorem Rd.ID (c:Rd σ) (p d:Nat) (h:c.lo<=d):(c.fst p [] d).flatMap c.C=dI c.lazy p:=by
 unfold Rd.fst dI
 rw[decide_eq_true h,xN]
 cases c.lazy
 ·rfl
 ·rfl
theorem Rd.JV (c:Rd σ) (p d:Nat) (h:c.lo<=d):(c.lst p [] d).flatMap c.C=fO c.lazy p:=by
 unfold Rd.lst fO
 rw[decide_eq_true h,xN]
 cases c.lazy
 ·rfl
 ·rfl
theorem Rd.xA (hc:c.ok) {p d:Nat} (hp:p<=c.n) (hd:d<=c.B):c.R d p=(c.fst p [] d).flatMap c.C++(c.kids p [] d).flatMap c.C++(c.lst p [] d).flatMap c.C:=by
 rw[c.OH hc hp hd]
 unfold Rd.rows
 rw[sR,sR]
theorem Rd.YQ (c:Rd σ) (p d:Nat) (h1:c.top d=false) (h2:c.O9 d=false):(c.kids p [] d).flatMap c.C=sq (c.f p) (c.R (d+1)):=by
 unfold Rd.kids
 rw[h1]
 show List.flatMap c.C ((c.f p).map (c.kid p [] d))=_
 rw[xU]
 refine pV fun w ζ=>?_
 unfold Rd.kid Rd.C Itm.kW
 rw[h2];rfl
theorem Rd.Gz (hc:c.ok) {p d:Nat} (hp:p<=c.n) (hd:d<c.lo) (hB:c.lo<=c.B) (ht:c.top d=false) (hu:c.O9 d=false):c.R d p=sq (c.f p) (c.R (d+1)):=by
 rw[c.xA hc hp (by lia),c.YQ p d ht hu]
 unfold Rd.fst Rd.lst
 rw[decide_eq_false (by lia)]
 show []++_++[]=_
 rw[u9,W2]
theorem Rd.Hi (hc:c.ok) {p d:Nat} (hp:p<=c.n) (hd:d<=c.B) (hl:c.lo<=d) (ht:c.top d=true):c.R d p=one' p:=by
 rw[c.xA hc hp hd,c.ID p d hl,c.JV p d hl]
 unfold Rd.kids
 rw[ht]
 exact pS c.lazy p
theorem Rd.Hf (hc:c.ok) {p d:Nat} (hp:p<=c.n) (hd:d<=c.B) (hl:c.lo<=d) (ht:c.top d=false) (hu:c.O9 d=false):c.R d p=B6 c.lazy p (sq (c.f p) (c.R (d+1))):=by
 rw[c.xA hc hp hd,c.ID p d hl,c.JV p d hl,c.YQ p d ht hu];rfl
theorem Rd.Hh (hc:c.ok) (hh:c.hi=none):isStar c.n c.lazy c.f (c.R c.lo):=fun p hp=>by
 have hu:c.O9 c.lo=true:=by unfold Rd.O9;rw[hh,decide_eq_true (g7 _)];rfl
 have ht:c.top c.lo=false:=by unfold Rd.top;rw[hh]
 refine Sm.of ?_
 rw[c.xA hc hp (by unfold Rd.B;rw[hh];exact g7 _),c.ID p _ (g7 _),c.JV p _ (g7 _)]
 show _++_++_=dI c.lazy p++_++_
 congr 2
 unfold Rd.kids
 rw[ht]
 show List.flatMap c.C ((c.f p).map (c.kid p [] c.lo))=_
 rw[xU]
 refine pV fun w ζ=>?_
 unfold Rd.kid Rd.C Itm.kW
 rw[hu]
 by_cases e:w.1=p
 ·rw[decide_eq_true e,e]
  unfold upd
  rw[V6]
  show [(p,[]++w.2)]=[(p,w.2++[])]
  rw[u9];rfl
 ·rw[decide_eq_false e]
  unfold upd
  rw[P0 _ _ e];rfl
theorem Rd.OI (hc:c.ok) (hB:c.lo<=c.B) (ht:∀ d,d<c.lo->c.top d=false) (hu:∀ d,d<c.lo->c.O9 d=false):∀(k:Nat),k<=c.lo->∀ p,p<=c.n->c.R (c.lo-k) p=sq (pow c.f k p) (c.R c.lo):=by
 intro b7
 induction b7 with
 | zero=>intro _ p hp;exact(E8 p _).symm
 | succ k ih=>
  intro hk p hp
  rw[c.Gz hc hp (by omega) hB (ht _ (by omega)) (hu _ (by omega)),show c.lo-(k+1)+1=c.lo-k by lia]
  show _=sq (sq (c.f p) (pow c.f k)) _
  rw[V4]
  exact V5 fun w hw=>ih (by lia) w.1 (hc p hp w hw).2
theorem Rd.Hg (hc:c.ok) {h:Nat} (hh:c.hi=some h):∀(k:Nat),k<=h-c.lo->c.lo<=h->∀ p,p<=c.n->c.R (h-k) p=opt c.f c.lazy k p:=by
 intro b7
 induction b7 with
 | zero=>
  intro _ hl p hp
  have ht:c.top h=true:=by unfold Rd.top;rw[hh];exact decide_eq_true rfl
  exact c.Hi hc hp (by unfold Rd.B;rw[hh];exact g7 _) hl ht
 | succ k ih=>
  intro hk hl p hp
  have ht:c.top (h-(k+1))=false:=by unfold Rd.top;rw[hh];exact decide_eq_false (by omega)
  have hu:c.O9 (h-(k+1))=false:=by unfold Rd.O9;rw[hh];rfl
  rw[c.Hf hc hp (by unfold Rd.B;rw[hh];exact RC _ _) (by omega) ht hu,show h-(k+1)+1=h-k from(Dy (k6 hk (RC _ _))).symm]
  show B6 _ _ _=B6 _ _ _
  congr 1
  exact V5 fun w hw=>ih (by lia) hl w.1 (hc p hp w hw).2
theorem Rd.Gy (hc:c.ok) {h:Nat} (hh:c.hi=some h) (hl:c.lo<=h) {p:Nat} (hp:p<=c.n):c.R 0 p=sq (pow c.f c.lo p) (opt c.f c.lazy (h-c.lo)):=by
 have hB:c.lo<=c.B:=by unfold Rd.B;rw[hh];exact hl
 have:=c.OI hc hB (fun d hd=>by unfold Rd.top;rw[hh];exact decide_eq_false (by lia)) (fun d hd=>by unfold Rd.O9;rw[hh];rfl) c.lo (g7 _) p hp
 rw[lZ] at this
 rw[this]
 have pe:∀(k p:Nat),p<=c.n->∀ w,w∈pow c.f k p->w.1<=c.n:=fun k=>by
  induction k with
  | zero=>exact fun p hp w hw=>by cases j5.mp hw;exact hp
  | succ k ih=>
   intro p hp w hw
   obtain⟨v,hv,hw⟩:=cY.mp hw
   obtain⟨z,hz,rfl⟩:=j4.mp hw
   exact ih v.1 (hc p hp v hv).2 z hz
 refine V5 fun w hw=>?_
 have e:=c.Hg hc hh (h-c.lo) (g7 _) hl w.1 (pe _ _ hp w hw)
 rwa [show h-(h-c.lo)=c.lo by omega] at e
theorem Rd.Hj (hc:c.ok) (hh:c.hi=none) {p:Nat} (hp:p<=c.n):c.R 0 p=sq (pow c.f c.lo p) (c.R c.lo):=by
 have:=c.OI hc (by unfold Rd.B;rw[hh];exact g7 _) (fun d hd=>by unfold Rd.top;rw[hh]) (fun d hd=>by unfold Rd.O9;rw[hh];exact decide_eq_false (by omega)) c.lo (g7 _) p hp
 rwa [lZ] at this
end
noncomputable def er (m:Bool) (w:Nat×List Gs):Nat×List Gs:=(w.1,bif m then w.2 else [])
theorem Oi (w:Nat×List Gs):er true w=w:=rfl
theorem mQ (m:Bool) (l:List (Nat×List Gs)):t8 (l.map (er m))=t8 l:=by unfold t8;rw[A6];rfl
theorem Sm.er {a b:List (Nat×List Gs)} (h:Sm a b) (m:Bool):Sm (a.map (er m)) (b.map (er m)):=by
 have e (l:List (Nat×List Gs)):Lake.dd [] (l.map (Lake.er m))=(Lake.dd [] l).map (Lake.er m):=HP (fun ζ v=>bif m then v else []) l []
 show Lake.dd [] _=Lake.dd [] _
 rw[e,e,show Lake.dd [] a=Lake.dd [] b from h]
theorem Of (m:Bool) (u:List Gs) (w:Nat×List Gs):er m (pre u w)=pre (bif m then u else []) (er m w):=by
 induction m using Bool.casesOn<;>rfl
theorem pP (m:Bool) (a:List (Nat×List Gs)) (g:Pr Gs):(sq a g).map (er m)=sq (a.map (er m)) fun p=>(g p).map (er m):=by
 unfold sq
 rw[EW,xU]
 refine pV fun w ζ=>?_
 rw[A6,A6]
 refine xY fun v ζ=>?_
 exact Of m w.2 v
theorem gQ (m:Bool) (p:Nat):(one' p).map (er m)=(one' p:List (Nat×List Gs)):=by induction m using Bool.casesOn<;>rfl
theorem WG (m lz:Bool) (p:Nat) (A:List (Nat×List Gs)):(B6 lz p A).map (er m)=B6 lz p (A.map (er m)):=by
 unfold B6 dI fO
 rw[o4,o4]
 induction lz using Bool.casesOn<;>induction m using Bool.casesOn<;>rfl
theorem Oj (m:Bool) (s:Pr Gs) (p q:Nat):(upd s p q).map (er m)=upd (fun p=>(s p).map (er m)) p q:=by
 by_cases e:q=p
 ·unfold upd;rw[e,V6,V6];exact gQ m p
 ·unfold upd;rw[P0 _ _ e,P0 _ _ e]
theorem WH (m:Bool) (f:Pr Gs):∀(k p:Nat),(pow f k p).map (er m)=pow (fun p=>(f p).map (er m)) k p:=by
 intro b7
 induction b7 with
 | zero=>intro p;exact gQ m p
 | succ k ih=>
  intro p
  show(sq (f p) (pow f k)).map (er m)=sq _ _
  rw[pP]
  exact V5 fun w ζ=>ih w.1
theorem Oe (m:Bool) (f:Pr Gs) (lz:Bool):∀(k p:Nat),(opt f lz k p).map (er m)=opt (fun p=>(f p).map (er m)) lz k p:=by
 intro b7
 induction b7 with
 | zero=>intro p;exact gQ m p
 | succ k ih=>
  intro p
  show(B6 lz p (sq (f p) (opt f lz k))).map (er m)=B6 lz p (sq _ _)
  rw[WG,pP]
  congr 1
  exact V5 fun w ζ=>ih w.1
theorem Oh {n:Nat} {lz:Bool} {f s:Pr Gs} (m:Bool) (h:isStar n lz f s):isStar n lz (fun p=>(f p).map (er m)) (fun p=>(s p).map (er m)):=fun p hp=>by
 refine((h p hp).er m).trans (Sm.of ?_)
 rw[WG,pP]
 congr 1
 exact V5 fun w ζ=>Oj m s p w.1
end
section
theorem AX {α:Type} (l:List (Nat×α)) (h:l.length<=1):(t8 l).Nodup:=by
 match l,h with
 | [],_=>exact .nil
 | [w],_=>exact H8.mpr ⟨A8,.nil⟩
section
variable (text:List Int)
theorem Hu:∀(l:List N) (ws:List (Nat×List Gs)),(t8 ws).Nodup->(t8 (N.Wr text l ws)).Nodup:=by
 intro b7
 induction b7 with
 | nil=>intro _ h;exact h
 | cons x l ih=>intro ws _;exact ih _ (pN _ _)
theorem N.xE (x:N) (p:Nat):(t8 (x.W text p)).Nodup:=by
 induction x using N.casesOn with
 | text rs f=>exact AX _ (by show(bif (bif f then _ else _) then _ else _:List (Nat×List Gs)).length<=1;cases(bif f then _ else _)<;>simp)
 | set g=>
  refine AX _ ?_
  rw[xF]
  cases text[p]? with
  | none=>exact v7 _
  | some c=>show(bif _ then _ else _:List (Nat×List Gs)).length<=1;cases g.any (fun q=>decide (q.1<=c)&&decide (c<=q.2))<;>simp
 | place o=>exact AX _ (by show(bif stands o text p then _ else _:List (Nat×List Gs)).length<=1;cases stands o text p<;>simp)
 | times lo hi z s=>exact pN _ _
 | group c nm s=>
  show(List.map _ (List.map _ _)).Nodup
  rw[A6]
  exact pN _ _
 | row l=>exact Hu text l _ (AX _ (g7 _))
 | choice l=>exact pN _ _
noncomputable def N.V (m:Bool) (x:N) (p:Nat):List (Nat×List Gs):=(x.W text p).map (er m)
theorem cR {m:Bool} {x y:N} {p:Nat} (h:Sm (x.V text m p) (y.V text m p)):x.V text m p=y.V text m p:=by
 have e (z:N):dd [] (z.V text m p)=z.V text m p:=tX _ (by unfold N.V;rw[mQ];exact N.xE text z p) fun ζ ζ h=>absurd h A8
 rw[<-e x,<-e y];exact h
theorem Mz (x:N) (p:Nat):dd [] (x.W text p)=x.W text p:=tX _ (N.xE text x p) fun ζ ζ h=>absurd h A8
variable {text}
theorem N.F9 {m:Bool} {x:N} (hx:x.good):Ok text.length (x.V text m):=fun p hp w hw=>by
 obtain⟨v,hv,rfl⟩:=j4.mp hw
 exact(N.nJ text x hx).r p hp v hv
theorem uG {hi:Int} (h:0<=hi):E9 hi=some hi.toNat:=by
 unfold E9
 rw[show(hi==-1)=false from beq_eq_false_iff_ne.mpr (by lia)];rfl
theorem lK (m:Bool) {lo hi:Int} {z:Bool} {s:N} (hs:s.good) (h1:0<=lo) (h2:lo<=hi) {p:Nat} (hp:p<=text.length) :
  Sm ((N.times lo hi z s).V text m p) (sq (pow (s.V text m) lo.toNat p) (opt (s.V text m) z (hi.toNat-lo.toNat))):=by
 let c:Rd Gs:=⟨lo.toNat,E9 hi,z,s.W text,text.length⟩
 have hc:c.ok:=(N.nJ text s hs).r
 have e:(N.times lo hi z s).W text p=dd [] (c.R 0 p):=rfl
 unfold N.V
 rw[e]
 refine((Sm.dd _).er m).trans (Sm.of ?_)
 rw[c.Gy hc (h:=hi.toNat) (uG (by lia)) (by show lo.toNat<=hi.toNat;lia) hp,pP,WH]
 exact V5 fun w ζ=>Oe m _ z _ w.1
theorem jA (m:Bool) {lo:Int} {z:Bool} {s:N} (hs:s.good):∃ st,isStar text.length z (s.V text m) st/\∀ p,p<=text.length->Sm ((N.times lo (-1) z s).V text m p) (sq (pow (s.V text m) lo.toNat p) st):=by
 let c:Rd Gs:=⟨lo.toNat,none,z,s.W text,text.length⟩
 have hc:c.ok:=(N.nJ text s hs).r
 refine⟨fun p=>(c.R c.lo p).map (er m),Oh m (c.Hh hc rfl),fun p hp=>?_⟩
 have e:(N.times lo (-1) z s).W text p=dd [] (c.R 0 p):=rfl
 unfold N.V
 rw[e]
 refine((Sm.dd _).er m).trans (Sm.of ?_)
 rw[c.Hj hc rfl hp,pP,WH]
theorem DM (m:Bool) {c:Int} {nm:Bool} {s:N} {p:Nat}:(N.group c nm s).V text m p=(s.V text m p).map fun w=>(w.1,w.2++bif m then [(c,p,w.1,nm)] else []):=by
 unfold N.V
 show List.map _ (List.map _ (dd [] (s.W text p)))=_
 rw[Mz,A6,A6]
 refine xY fun w ζ=>?_
 induction m using Bool.casesOn<;>rfl
noncomputable def C0:List (Pr Gs)->Pr Gs
 | [],p=>one' p
 | f::fs,p=>sq (f p) (C0 fs)
theorem Hv:∀(l:List N) (ws:List (Nat×List Gs)),Sm (N.Wr text l ws) (sq ws (C0 (l.map fun x=>x.W text))):=by
 intro b7
 induction b7 with
 | nil=>intro ws;exact Sm.of (O6 ws).symm
 | cons x l ih=>
  intro ws
  refine(ih _).trans (((Sm.dd _).O5 _).trans (Sm.of ?_))
  show sq (sq ws (x.W text)) _=sq ws _
  rw[V4];rfl
theorem Og (m:Bool):∀(fs:List (Pr Gs)) (p:Nat),(C0 fs p).map (er m)=C0 (fs.map fun f p=>(f p).map (er m)) p:=by
 intro b7
 induction b7 with
 | nil=>intro p;exact gQ m p
 | cons f fs ih=>
  intro p
  show(sq (f p) (C0 fs)).map (er m)=sq _ _
  rw[pP]
  exact V5 fun w ζ=>ih w.1
theorem lM (m:Bool) (l:List N) (p:Nat):Sm ((N.row l).V text m p) (C0 (l.map fun x=>x.V text m) p):=by
 refine((Hv l [(p,[])]).er m).trans (Sm.of ?_)
 rw[show sq [(p,[])] (C0 (l.map fun x=>x.W text))=C0 (l.map fun x=>x.W text) p from E8 p _,Og,A6]
 rfl
theorem Hl:∀(l:List N) (p:Nat),N.Wc text l p=l.flatMap fun x=>x.W text p:=by
 intro b7
 induction b7 with
 | nil=>intro _;exact rfl
 | cons x l ih=>intro p;show x.W text p++N.Wc text l p=_;rw[ih p];rfl
theorem xD (m:Bool) (l:List N) (p:Nat):Sm ((N.choice l).V text m p) (l.flatMap fun x=>x.V text m p):=by
 refine((Sm.dd (N.Wc text l p)).er m).trans (Sm.of ?_)
 rw[Hl,EW];rfl
theorem Bx {n:Nat} {f g:Pr Gs} (ho:Ok n f) (h:∀ p,p<=n->Sm (f p) (g p)):∀(k p:Nat),p<=n->Sm (pow f k p) (pow g k p):=by
 intro b7
 induction b7 with
 | zero=>intro _ _;exact Sm.rfl'
 | succ k ih=>intro p hp;exact(Sm.G2 fun w hw=>ih w.1 (ho p hp w hw).2).trans ((h p hp).O5 _)
theorem Vx {n:Nat} {f g:Pr Gs} {lz:Bool} (ho:Ok n f) (h:∀ p,p<=n->Sm (f p) (g p)):∀(k p:Nat),p<=n->Sm (opt f lz k p) (opt g lz k p):=by
 intro b7
 induction b7 with
 | zero=>intro _ _;exact Sm.rfl'
 | succ k ih=>intro p hp;exact aU ((Sm.G2 fun w hw=>ih w.1 (ho p hp w hw).2).trans ((h p hp).O5 _))
theorem kK {n:Nat} {f:Pr Gs} (ho:Ok n f):∀(k:Nat),Ok n (pow f k):=by
 intro b7
 induction b7 with
 | zero=>intro p hp w hw;cases j5.mp hw;exact⟨g7 _,hp⟩
 | succ k ih=>
  intro p hp w hw
  obtain⟨v,hv,hw⟩:=cY.mp hw
  obtain⟨z,hz,rfl⟩:=j4.mp hw
  have a:=ho p hp v hv
  have b:=ih v.1 a.2 z hz
  exact⟨k6 a.1 b.1,b.2⟩
noncomputable def Al (text:List Int) (m:Bool) (x y:N):Prop:=∀ p,p<=text.length->x.V text m p=y.V text m p
theorem Al.rfl' {m:Bool} {x:N}:Al text m x x:=fun ζ ζ=>rfl
theorem Al.trans {m:Bool} {x y z:N} (h:Al text m x y) (g:Al text m y z):Al text m x z:=fun p hp=>(h p hp).trans (g p hp)
theorem Al.times {m:Bool} {x y:N} (hx:x.good) (hy:y.good) (h:Al text m x y) {lo hi:Int} {z:Bool} (h1:0<=lo) (h2:hi=-1∨lo<=hi):Al text m (.times lo hi z x) (.times lo hi z y):=fun p hp=>by
 refine cR text ?_
 rcases h2 with rfl | h2
 ·obtain⟨st,a1,a2⟩:=jA (text:=text) (lo:=lo) (z:=z) m hx
  obtain⟨su,b1,b2⟩:=jA (text:=text) (lo:=lo) (z:=z) m hy
  refine(a2 p hp).trans (Sm.trans ?_ (b2 p hp).symm)
  have hu:=CD (N.F9 hx) (fun p hp=>Sm.of (h p hp)) a1 b1
  refine(Sm.G2 fun w hw=>hu w.1 ?_).trans ((Bx (N.F9 hx) (fun p hp=>Sm.of (h p hp)) _ p hp).O5 _)
  exact(kK (N.F9 hx) _ p hp w hw).2
 ·refine(lK m hx h1 h2 hp).trans (Sm.trans ?_ (lK m hy h1 h2 hp).symm)
  refine(Sm.G2 fun w hw=>Vx (N.F9 hx) (fun p hp=>Sm.of (h p hp)) _ w.1 ?_).trans ((Bx (N.F9 hx) (fun p hp=>Sm.of (h p hp)) _ p hp).O5 _)
  exact(kK (N.F9 hx) _ p hp w hw).2
theorem Al.group {m:Bool} {x y:N} (h:Al text m x y) {c:Int} {nm:Bool}:Al text m (.group c nm x) (.group c nm y):=fun p hp=>by rw[DM,DM,h p hp]
inductive lC (text:List Int) (m:Bool):List N->List N->Prop
 | nil:lC text m [] []
 | cons {x y:N} {l k:List N}:Al text m x y->lC text m l k->lC text m (x::l) (y::k)
theorem aE7 {m:Bool} {l k:List N} (hl:N.A3 l) (h:lC text m l k):∀ p,p<=text.length->Sm (C0 (l.map fun x=>x.V text m) p) (C0 (k.map fun x=>x.V text m) p):=by
 induction h with
 | nil=>exact fun ζ ζ=>Sm.rfl'
 | cons a _ ih=>
  intro p hp
  refine Sm.trans (Sm.G2 fun w hw=>ih hl.2 w.1 (N.F9 hl.1 p hp w hw).2) ?_
  exact(Sm.of (a p hp)).O5 _
theorem Al.row {m:Bool} {l k:List N} (hl:N.A3 l) (h:lC text m l k):Al text m (.row l) (.row k):=fun p hp=>cR text ((lM m l p).trans ((aE7 hl h p hp).trans (lM m k p).symm))
theorem Al.choice {m:Bool} {l k:List N} (h:lC text m l k):Al text m (.choice l) (.choice k):=fun p hp=>by
 refine cR text ((xD m l p).trans (Sm.trans ?_ (xD m k p).symm))
 induction h with
 | nil=>exact Sm.rfl'
 | cons a _ ih=>rw[cU,cU];exact(Sm.of (a p hp)).app ih
end
end
section
section
variable {text:List Int} {m:Bool}
noncomputable def Y7 (text:List Int) (m:Bool) (x:N):Prop:=∀ p,p<=text.length->∀ w,w∈x.V text m p->w.1≠p
noncomputable def Hy (text:List Int) (m:Bool) (x:N):Prop:=m=false∨Y7 text m x
theorem Hy.hs {x:N} (h:Hy text m x):Hs text.length (x.V text m):=fun p hp w hw e=>by
 rcases h with rfl | h
 ·obtain⟨v,_,rfl⟩:=j4.mp hw;rfl
 ·exact absurd e (h p hp w hw)
theorem Y7.ends {x:N} (h:Y7 text m x) {p:Nat} (hp:p<=text.length):p∉t8 (x.V text m p):=fun hm=>by
 obtain⟨w,hw,e⟩:=j4.mp hm
 exact h p hp w hw e
theorem Y7.of {x:N} (h:∀ p,p<=text.length->p∉t8 (x.V text m p)):Y7 text m x:=fun p hp w hw e=>h p hp (j4.mpr ⟨w,hw,e⟩)
theorem isStar.sm {n:Nat} {lz:Bool} {f s s':Pr Gs} (ho:Ok n f) (hs:isStar n lz f s) (h:∀ p,p<=n->Sm (s p) (s' p)):isStar n lz f s':=fun p hp=>by
 refine(h p hp).symm.trans ((hs p hp).trans (aU (Sm.G2 fun w hw=>?_)))
 by_cases e:w.1=p
 ·rw[e];exact Sm.of ((V6 s p _).trans (V6 s' p _).symm)
 ·unfold upd;rw[P0 _ _ e,P0 _ _ e];exact h w.1 (ho p hp w hw).2
noncomputable def lk (o:Lk) (z:Bool) (s:N):N:=.times o.lo o.hi z s
theorem uW {o:Lk} {z:Bool} {s:N} (h:s.good):(lk o z s).good:=by
 induction o using Lk.casesOn
 ·exact⟨by decide,by decide,by decide,by decide,h⟩
 ·exact⟨by decide,by decide,by decide,by decide,h⟩
 ·exact⟨by decide,by decide,by decide,by decide,h⟩
theorem oF (m:Bool) {z:Bool} {s:N} (hs:s.good):isStar text.length z (s.V text m) ((lk .star z s).V text m):=by
 obtain⟨st,a1,a2⟩:=jA (text:=text) (lo:=0) (z:=z) m hs
 refine a1.sm (N.F9 hs) fun p hp=>((a2 p hp).trans (Sm.of ?_)).symm
 exact E8 p st
theorem iZ (m:Bool) {z:Bool} {s:N} (hs:s.good) {p:Nat} (hp:p<=text.length):Sm ((lk .plus z s).V text m p) (sq (s.V text m p) ((lk .star z s).V text m)):=by
 obtain⟨st,a1,a2⟩:=jA (text:=text) (lo:=1) (z:=z) m hs
 refine(a2 p hp).trans ?_
 have e:pow (s.V text m) (1:Int).toNat p=s.V text m p:=O6 _
 rw[e]
 have ho:=N.F9 (text:=text) (m:=m) hs
 exact Sm.G2 fun w hw=>CD ho (fun ζ ζ=>Sm.rfl') a1 (oF m hs) w.1 (ho p hp w hw).2
theorem aG (m:Bool) {z:Bool} {s:N} (hs:s.good) {p:Nat} (hp:p<=text.length):Sm ((lk .quest z s).V text m p) (B6 z p (s.V text m p)):=by
 refine(lK m hs (by decide) (by decide) hp).trans (Sm.of ?_)
 show sq (one' p) (opt (s.V text m) z 1)=_
 rw[E8]
 show B6 z p (sq (s.V text m p) (opt (s.V text m) z 0))=_
 rw[show opt (s.V text m) z 0=one' from rfl,O6]
noncomputable def Lk.with (o o':Lk):Lk:=Lk.casesOn o' .star (Lk.casesOn o .star .plus .star) (Lk.casesOn o .star .star .quest)
section
variable {z:Bool} {s:N} (hs:s.good)
include hs
theorem MQ {q:N} (hq:q.good) {t:Pr Gs} (h:isStar text.length z (q.V text m) t) {p:Nat} (hp:p<=text.length):Sm ((lk .star z q).V text m p) (t p):=
 CD (N.F9 hq) (fun ζ ζ=>Sm.rfl') (oF m hq) h p hp
theorem Uj (o o':Lk) (H:(o=.quest/\o'=.quest)∨Hy text m s):Al text m (lk o z (lk o' z s)) (lk (o.with o') z s):=fun p hp=>by
 refine cR text ?_
 have ho:=N.F9 (text:=text) (m:=m) hs
 have st:=oF (text:=text) m (z:=z) hs
 have gq:(lk .quest z s).good:=uW hs
 have gs:(lk .star z s).good:=uW hs
 have gp:(lk .plus z s).good:=uW hs
 rcases H with⟨rfl,rfl⟩ | H
 ·exact(aG m gq hp).trans ((aU (aG m hs hp)).trans ((pR z p _).trans (aG m hs hp).symm))
 ·have hH:=H.hs
  have one:∀ p,p<=text.length->Sm ((lk .star z (lk .star z s)).V text m p) ((lk .star z s).V text m p):=fun p hp=>MQ (z:=z) gs gs (aF1 ho hH st) hp
  have two:∀ p,p<=text.length->Sm ((lk .star z (lk .plus z s)).V text m p) ((lk .star z s).V text m p):=fun p hp=>MQ (z:=z) gp gp (aE9 ho hH st fun p hp=>iZ m hs hp) hp
  have three:∀ p,p<=text.length->Sm ((lk .star z (lk .quest z s)).V text m p) ((lk .star z s).V text m p):=fun p hp=>MQ (z:=z) gq gq (aF0 ho hH st fun p hp=>aG m hs hp) hp
  cases o' with
  | star=>
   induction o using Lk.casesOn with
   | star=>exact one p hp
   | plus=>exact(iZ m gs hp).trans ((Sm.G2 fun w hw=>one w.1 (N.F9 gs p hp w hw).2).trans (MP ho hH st p hp))
   | quest=>exact(aG m gs hp).trans ((aU (st p hp)).trans ((pR z p _).trans (st p hp).symm))
  | plus=>
   induction o using Lk.casesOn with
   | star=>exact two p hp
   | plus=>exact(iZ m gp hp).trans ((Sm.G2 fun w hw=>two w.1 (N.F9 gp p hp w hw).2).trans (Zi ho hH st (fun p hp=>iZ m hs hp) hp))
   | quest=>exact(aG m gp hp).trans ((aU (iZ m hs hp)).trans (Dn ho hH st hp))
  | quest=>
   induction o using Lk.casesOn with
   | star=>exact three p hp
   | plus=>exact(iZ m gq hp).trans ((Sm.G2 fun w hw=>three w.1 (N.F9 gq p hp w hw).2).trans (Dt ho hH st hp (q:=(lk .quest z s).V text m) (aG m hs hp)))
   | quest=>exact(aG m gq hp).trans ((aU (aG m hs hp)).trans ((pR z p _).trans (aG m hs hp).symm))
theorem Hy.sub {o:Lk} (h:Hy text m (lk o z s)):Hy text m s:=by
 rcases h with h | h
 ·exact .inl h
 ·refine .inr (Y7.of fun p hp hm=>?_)
  induction o using Lk.casesOn with
  | star=>exact h.ends hp (((oF m hs p hp).ends p).mpr (dG.mpr (.inl rfl)))
  | quest=>exact h.ends hp (((aG m hs hp).ends p).mpr (dG.mpr (.inl rfl)))
  | plus=>
   refine h.ends hp (((iZ m hs hp).ends p).mpr (kR.mpr ⟨p,hm,?_⟩))
   exact((oF m hs p hp).ends p).mpr (dG.mpr (.inl rfl))
end
mutual
noncomputable def N.su (text:List Int) (m:Bool):N->Prop
 | .text _ _=>True
 | .set _=>True
 | .place _=>True
 | .times _ hi _ s=>(hi=-1->Hy text m s)/\N.su text m s
 | .group _ _ s=>N.su text m s
 | .row l=>N.I5 text m l
 | .choice l=>N.I5 text m l
noncomputable def N.I5 (text:List Int) (m:Bool):List N->Prop
 | []=>True
 | x::l=>N.su text m x/\N.I5 text m l
end
structure Kp (text:List Int) (m:Bool) (x y:N):Prop where
 g:y.good
 s:y.su text m
 a:Al text m x y
 n:y.many<=x.many
theorem Rh {o:Lk} (h:o.hi=-1):o≠.quest:=by rintro rfl;cases h
theorem zS {o:Lk} (h:o≠.quest):o.hi=-1:=by induction o using Lk.casesOn<;>first | rfl | exact absurd rfl h
theorem pY {α:Type} {P:α->Prop} {c:Prop} [Decidable c] {a b:α} (h1:P a) (h2:P b):P (if c then a else b):=by
 by_cases z:c
 ·rw[if_pos z];exact h1
 ·rw[if_neg z];exact h2
theorem rM (o o':Lk) (s:T) (f f':Fg):u7 o (.loop o' s f') f=if f'.lazy=f.lazy then(if o'=o∨o'=.star then .loop o' s f' else .loop .star s f) else .loop o (.loop o' s f') f:=rfl
theorem Ei (o:Lk) (t:T) (f:Fg):(∃ o' s f',t=.loop o' s f'/\f'.lazy=f.lazy/\(u7 o t f).read=lk (o.with o') f.lazy s.read)∨(u7 o t f=.loop o t f/\∀ o' s f',t=.loop o' s f'->f'.lazy≠f.lazy):=by
 induction t using T.casesOn with
 | loop o' s f'=>
  by_cases e:f'.lazy=f.lazy
  ·refine .inl ⟨o',s,f',rfl,e,?_⟩
   rw[rM,if_pos e]
   induction o using Lk.casesOn<;>cases o'<;>first
    |(rw[if_pos (by first | exact .inl rfl | exact .inr rfl)];show lk _ f'.lazy _=_;rw[e];rfl)
    |(rw[if_neg (by rintro(h | h)<;>cases h)];rfl)
  ·refine .inr ⟨?_,fun o2 s2 f2 h=>?_⟩
   ·rw[rM,if_neg e]
   ·injection h with _ _ h;rw[<-h];exact e
 | _=>exact .inr ⟨rfl,fun ζ ζ ζ h=>by cases h⟩
theorem W9 {lo hi:Int} {z:Bool} {s:N}:(N.times lo hi z s).many=s.many*F6 lo hi:=rfl
mutual
theorem N.kC:∀ x:N,x.good->0<=x.many
 | .text rs _,_=>gG _
 | .set _,_=>by show(0:Int)<=1;decide
 | .place _,_=>by show(0:Int)<=1;decide
 | .times lo hi z s,h=>by
  rw[W9]
  refine Int.mul_nonneg (N.kC s h.2.2.2.2) ?_
  unfold F6
  cases e:hi==-1 with
  | true=>show 0<=max lo 1;lia
  | false=>show 0<=hi;have:=beq_eq_false_iff_ne.mp e;have:=h.2.2.1;lia
 | .group _ _ s,h=>N.kC s h.2.2
 | .row l,h=>N.AK l h
 | .choice l,h=>N.AK l h.2
theorem N.AK:∀ l:List N,N.A3 l->0<=(N.y9 l).sum
 | [],_=>by show(0:Int)<=0;decide
 | x::l,h=>by
  show 0<=(x.many::N.y9 l).sum
  rw[u0]
  exact EF (N.kC x h.1) (N.AK l h.2)
end
theorem bG {o:Lk} {z:Bool} {s:N}:(lk o z s).many=s.many:=by
 unfold lk
 rw[W9]
 induction o using Lk.casesOn<;>exact lU _
theorem rL {x:N} {o:Lk} {t:T} {f:Fg} (hx:x.good) (h:Kp text m x t.read) (H:o≠.quest->Hy text m x):Kp text m (lk o f.lazy x) (u7 o t f).read:=by
 have base:Kp text m (lk o f.lazy x) (lk o f.lazy t.read):=by
  refine⟨uW h.g,⟨fun e=>?_,h.s⟩,?_,?_⟩
  ·rcases H (Rh e) with e | q
   ·exact .inl e
   ·exact .inr fun p hp w hw=>q p hp w (by rw[h.a p hp];exact hw)
  ·induction o using Lk.casesOn
   ·exact Al.times hx h.g h.a (by decide) (.inl rfl)
   ·exact Al.times hx h.g h.a (by decide) (.inl rfl)
   ·exact Al.times hx h.g h.a (by decide) (.inr (by decide))
  ·rw[bG,bG];exact h.n
 rcases Ei o t f with⟨o',s,f',rfl,e,e2⟩ |⟨e,_⟩
 ·rw[e2]
  have er:(T.loop o' s f').read=lk o' f.lazy s.read:=by show N.times _ _ f'.lazy _=_;rw[e];rfl
  rw[er] at base h
  have gs:s.read.good:=h.g.2.2.2.2
  have ss:s.read.su text m:=h.s.2
  have H2:(o=.quest/\o'=.quest)∨Hy text m s.read:=by
   by_cases q:o=.quest
   ·by_cases q':o'=.quest
    ·exact .inl ⟨q,q'⟩
    ·exact .inr (h.s.1 (zS q'))
   ·exact .inr (Hy.sub gs (base.s.1 (zS q)))
  refine⟨uW gs,⟨fun e=>?_,ss⟩,base.a.trans (Uj gs o o' H2),?_⟩
  ·rcases H2 with⟨rfl,rfl⟩ | H2
   ·cases e
   ·exact H2
  ·have:=base.n
   rw[bG,bG,bG] at this
   rw[bG,bG];exact this
 ·rw[e];exact base
end
end
section
section
variable {text:List Int} {m:Bool}
theorem rH:∀(a b:List (Pr Gs)) (p:Nat),C0 (a++b) p=sq (C0 a p) (C0 b):=by
 intro b7
 induction b7 with
 | nil=>intro b p;exact(E8 p (C0 b)).symm
 | cons f a ih=>
  intro b p
  show sq (f p) (C0 (a++b))=sq (sq (f p) (C0 a)) (C0 b)
  rw[V4]
  exact V5 fun w ζ=>ih b w.1
theorem ML (f:Pr Gs):∀(k p:Nat),C0 (List.replicate k f) p=pow f k p:=by
 intro b7
 induction b7 with
 | zero=>intro _;exact rfl
 | succ k ih=>
  intro p
  show sq (f p) (C0 (List.replicate k f))=sq (f p) (pow f k)
  exact V5 fun w ζ=>ih w.1
theorem CC (f:Pr Gs) (p:Nat):C0 [f] p=f p:=O6 _
noncomputable def VT (text:List Int) (m:Bool) (t:T):Pr Gs:=t.read.V text m
theorem oE {f:Fg} {p:Nat} (hp:p<=text.length):VT text m (.leaf .empty f) p=one' p:=by
 show List.map (er m) (bif (text.drop p).take 0==[] then [(p+0,[])] else [])=_
 rw[QN]
 exact gQ m p
theorem CH (ts:List T) (f:Fg) {p:Nat} (hp:p<=text.length):Sm (VT text m (C5 ts f) p) (C0 (ts.map (VT text m)) p):=by
 match ts with
 | []=>exact Sm.of (oE hp)
 | [x]=>exact Sm.of (CC _ p).symm
 | x::y::l=>
  refine(lM m (T.reads (x::y::l)) p).trans (Sm.of ?_)
  rw[T.bL,A6];rfl
theorem CJ {ts:List T} {f:Fg} (h:N.A3 (T.reads ts)):(C5 ts f).read.good:=by
 match ts with
 | []=>exact trivial
 | [x]=>exact h.1
 | x::y::l=>exact h
theorem CN {ts:List T} {f:Fg} (h:N.I5 text m (T.reads ts)):(C5 ts f).read.su text m:=by
 match ts with
 | []=>exact trivial
 | [x]=>exact h.1
 | x::y::l=>exact h
theorem CM {ts:List T} {f:Fg}:(C5 ts f).read.many=(N.y9 (T.reads ts)).sum:=by
 match ts with
 | []=>rfl
 | [x]=>show x.read.many=[x.read.many].sum;rw[u0,N6,aI]
 | x::y::l=>rfl
theorem K6 (a b:List T):T.reads (a++b)=T.reads a++T.reads b:=by rw[T.bL,T.bL,T.bL,o4]
theorem zK:∀{a b:List N},N.A3 a->N.A3 b->N.A3 (a++b):=by
 intro b7
 induction b7 with
 | nil=>intro _ _ h;exact h
 | cons _ _ ih=>intro _ h g;exact⟨h.1,ih h.2 g⟩
theorem CF:∀{a b:List N},N.I5 text m a->N.I5 text m b->N.I5 text m (a++b):=by
 intro b7
 induction b7 with
 | nil=>intro _ _ h;exact h
 | cons _ _ ih=>intro _ h g;exact⟨h.1,ih h.2 g⟩
theorem qH:∀(a b:List N),(N.y9 (a++b)).sum=(N.y9 a).sum+(N.y9 b).sum:=by
 intro b7
 induction b7 with
 | nil=>intro b;exact(EM _).symm
 | cons x a ih=>
  intro b
  show(x.many::N.y9 (a++b)).sum=(x.many::N.y9 a).sum+_
  rw[u0,u0,ih b,sN]
theorem IJ {t:T} (h:t.read.good):∀ k,N.A3 (T.reads (List.replicate k t)):=by
 intro b7
 induction b7 with
 | zero=>exact trivial
 | succ k ih=>exact⟨h,ih⟩
theorem MW {t:T} (h:t.read.su text m):∀ k,N.I5 text m (T.reads (List.replicate k t)):=by
 intro b7
 induction b7 with
 | zero=>exact trivial
 | succ k ih=>exact⟨h,ih⟩
theorem JZ {t:T}:∀ k:Nat,(N.y9 (T.reads (List.replicate k t))).sum=k*t.read.many:=by
 intro b7
 induction b7 with
 | zero=>show(0:Int)=_;rw[show((0:Nat):Int)=0 from rfl,PO]
 | succ k ih=>
  show(t.read.many::N.y9 (T.reads (List.replicate k t))).sum=_
  rw[u0,ih,show((k+1:Nat):Int)=(k:Int)+1 from rfl,PI,eX,EE]
noncomputable def Pl (n:Nat) (f:Pr Gs):Prop:=∀ p,p<=n->f p=[]∨f p=one' p
theorem WI (z:Bool) (p:Nat):Sm (B6 z p (one' p)) (one' p:List (Nat×List Gs)):=by
 have:=pR z p ([]:List (Nat×List Gs))
 rw[pS] at this;exact this
theorem Pl.pow {n:Nat} {f:Pr Gs} (h:Pl n f) {p:Nat} (hp:p<=n):∀ k,pow f (k+1) p=f p
 | 0=>O6 _
 | k+1=>by
  show sq (f p) (Lake.pow f (k+1))=_
  rcases h p hp with e | e
  ·rw[e];rfl
  ·rw[e,E8,Pl.pow h hp k,e]
theorem Pl.opt {n:Nat} {f:Pr Gs} (h:Pl n f) {z:Bool} {p:Nat} (hp:p<=n):∀ k,Sm (opt f z k p) (one' p)
 | 0=>Sm.rfl'
 | k+1=>by
  show Sm (B6 z p (sq (f p) (Lake.opt f z k))) _
  rcases h p hp with e | e
  ·rw[e,dX,pS];exact Sm.rfl'
  ·rw[e,E8];exact(aU (Pl.opt h hp k)).trans (WI z p)
theorem Pl.star {n:Nat} {f s:Pr Gs} (h:Pl n f) {z:Bool} (hs:isStar n z f s) {p:Nat} (hp:p<=n):Sm (s p) (one' p):=by
 refine(hs p hp).trans ?_
 rcases h p hp with e | e
 ·rw[e,dX,pS];exact Sm.rfl'
 ·rw[e,E8,show upd s p p=one' p from V6 _ _ _];exact WI z p
theorem Pl.times {x:N} (hx:x.good) (h:Pl text.length (x.V text m)) {lo hi:Int} {z:Bool} (h1:0<=lo) (h2:hi=-1∨lo<=hi) {p:Nat} (hp:p<=text.length) :
  Sm ((N.times lo hi z x).V text m p) (bif lo==0 then one' p else x.V text m p):=by
 have fin (q:Pr Gs) (hq:∀ p,p<=text.length->Sm (q p) (one' p)):Sm (sq (Lake.pow (x.V text m) lo.toNat p) q) (bif lo==0 then one' p else x.V text m p):=by
  refine(Sm.G2 (h:=one') fun w hw=>hq w.1 (kK (N.F9 hx) _ p hp w hw).2).trans (Sm.of ?_)
  rw[O6]
  cases e:lo==0 with
  | true=>rw[eq_of_beq e];rfl
  | false=>
   have:=beq_eq_false_iff_ne.mp e
   obtain⟨k,hk⟩:∃ k,lo.toNat=k+1:=⟨lo.toNat-1,by lia⟩
   exact hk▸(h.pow hp k)
 rcases h2 with rfl | h2
 ·obtain⟨st,a1,a2⟩:=jA (text:=text) (lo:=lo) (z:=z) m hx
  exact(a2 p hp).trans (fin st fun p hp=>h.star a1 hp)
 ·exact(lK m hx h1 h2 hp).trans (fin _ fun p hp=>h.opt hp _)
theorem Bp (f:Fg):Pl text.length (VT text m (.leaf .empty f)):=fun p hp=>.inr (oE hp)
theorem Zg (o:Int):Pl text.length ((N.place o).V text m):=fun p ζ=>by
 have e:(N.place o).V text m p=List.map (er m) (bif stands o text p then [(p,[])] else []):=rfl
 refine e▸?_
 cases stands o text p
 ·exact .inl rfl
 ·exact .inr (gQ m p)
theorem Zd {f g:Pr Gs} (h:Pl text.length f) {x:N} (hx:∀ p,p<=text.length->Sm (x.V text m p) (f p)):Pl text.length (x.V text m):=fun p hp=>by
 have e:x.V text m p=dd [] (f p):=by rw[<-show dd [] (x.V text m p)=dd [] (f p) from hx p hp];exact(tX _ (by unfold N.V;rw[mQ];exact N.xE text x p) fun ζ ζ h=>absurd h A8).symm
 rcases h p hp with q | q
 ·exact .inl (by rw[e,q];rfl)
 ·exact .inr (by rw[e,q];rfl)
theorem Zf:∀{l:List (Pr Gs)},(∀ f,f∈l->Pl text.length f)->Pl text.length (C0 l):=by
 intro b7
 induction b7 with
 | nil=>intro _ p _;exact .inr rfl
 | cons f l ih=>
  intro h p hp
  rcases h f f9 p hp with e | e
  ·exact .inl (by show sq (f p) _=_;rw[e];rfl)
  ·rcases ih (fun g hg=>h g (l6 _ hg)) p hp with e2 | e2
   ·exact .inl (by show sq (f p) _=_;rw[e,E8];exact e2)
   ·exact .inr (by show sq (f p) _=_;rw[e,E8];exact e2)
theorem T.Br:∀{l:List T} {t:T},T.places l=true->t∈l->t.place=true:=by
 intro b7
 induction b7 with
 | nil=>intro b8 b9 e8;first | exact nomatch e8 | exact nomatch b9 | exact nomatch b8 | cases e8 | cases b9 | cases b8
 | cons x l IH=>
  intro t h ht
  have h:(x.place&&T.places l)=true:=h
  rw[N3] at h
  rcases v5.mp ht with rfl | ht
  ·exact h.1
  ·exact IH h.2 ht
theorem Zc {l:List N} (h:∀ x,x∈l->Pl text.length (x.V text m)) {p:Nat} (hp:p<=text.length):Sm (l.flatMap fun x=>x.V text m p) []∨Sm (l.flatMap fun x=>x.V text m p) (one' p):=by
 induction l with
 | nil=>exact .inl Sm.rfl'
 | cons x l ih=>
  refine cU▸?_
  rcases h x f9 p hp with e | e
  ·rw[e];exact ih fun y hy=>h y (l6 _ hy)
  ·rw[e]
   rcases ih fun y hy=>h y (l6 _ hy) with q | q
   ·exact .inr (Sm.app Sm.rfl' q)
   ·exact .inr ((Sm.app Sm.rfl' q).trans Sm.idem)
theorem Ze:∀ t:T,t.place=true->Pl text.length (VT text m t):=T.aQ fun t ih h=>by
 induction t using T.casesOn with
 | leaf o f=>induction o using Lf.casesOn<;>first | exact Zg _ | exact ft h
 | cat l f=>
  have hl (f:Pr Gs) (hf:f∈l.map (VT text m)):Pl text.length f:=by
   obtain⟨t,ht,rfl⟩:=j4.mp hf
   exact ih t (T.h_mem (t:=.cat l f) ht) (T.Br h ht)
  refine Zd (g:=one') (Zf hl) fun p hp=>(lM m (T.reads l) p).trans (Sm.of ?_)
  rw[T.bL,A6];rfl
 | alt l f=>
  intro p hp
  have hl (x:N) (hx:x∈T.reads l):Pl text.length (x.V text m):=by
   rw[T.bL] at hx
   obtain⟨t,ht,rfl⟩:=j4.mp hx
   exact ih t (T.h_mem (t:=.alt l f) ht) (T.Br h ht)
  have e:VT text m (.alt l f) p=dd [] ((T.reads l).flatMap fun x=>x.V text m p):=by
   rw[<-show dd [] (VT text m (.alt l f) p)=_ from xD m (T.reads l) p]
   exact(tX _ (by unfold VT N.V;rw[mQ];exact N.xE text _ p) fun ζ ζ h=>absurd h A8).symm
  rcases Zc hl hp with q | q
  ·exact .inl (by rw[e,show dd [] _=dd [] [] from q];rfl)
  ·exact .inr (by rw[e,show dd [] _=dd [] (one' p) from q];rfl)
 | _=>exact ft h
end
end
section
section
variable {text:List Int} {m:Bool}
theorem Kp.refl {x:N} (g:x.good) (s:x.su text m):Kp text m x x:=⟨g,s,Al.rfl',z0 _⟩
theorem Kp.trans {x y z:N} (h:Kp text m x y) (g:Kp text m y z):Kp text m x z:=⟨g.g,g.s,h.a.trans g.a,o9 g.n h.n⟩
theorem Hy.al {x y:N} (h:Hy text m x) (a:Al text m x y):Hy text m y:=by
 rcases h with e | q
 ·exact .inl e
 ·exact .inr fun p hp w hw=>q p hp w (by rw[a p hp];exact hw)
variable {t:T} {f:Fg}
theorem aH4 (hg:t.read.good) (hs:t.read.su text m):∀ k:Nat,(z9 t f k).read.good/\(z9 t f k).read.su text m/\(∀ p,p<=text.length->Sm (VT text m (z9 t f k) p) (opt (VT text m t) f.lazy (k+1) p))/\(z9 t f k).read.many<=((k+1:Nat):Int)*t.read.many:=by
 intro b7
 induction b7 with
 | zero=>
  have h:=rL (f:=f) (o:=.quest) hg (Kp.refl hg hs) fun e=>absurd rfl e
  refine⟨h.g,h.s,fun p hp=>(Sm.of (h.a p hp).symm).trans ((aG m hg hp).trans (Sm.of ?_)),?_⟩
  ·show _=B6 f.lazy p (sq (VT text m t p) one')
   rw[O6];rfl
  ·have:=h.n
   rw[bG] at this
   rw[show((0+1:Nat):Int)=1 from rfl,eX];exact this
 | succ k ih=>
  obtain⟨a,b,c,d⟩:=ih
  let r:N:=.row [t.read,(z9 t f k).read]
  have gr:r.good:=⟨hg,a,trivial⟩
  have sr:r.su text m:=⟨hs,b,trivial⟩
  have h:=rL (t:=.cat [t,z9 t f k] f) (f:=f) (o:=.quest) gr (Kp.refl gr sr) fun e=>absurd rfl e
  refine⟨h.g,h.s,fun p hp=>(Sm.of (h.a p hp).symm).trans ((aG m gr hp).trans (aU ((lM m _ p).trans ?_))),?_⟩
  ·show Sm (sq (VT text m t p) fun p=>sq (VT text m (z9 t f k) p) one') (sq (VT text m t p) (opt (VT text m t) f.lazy (k+1)))
   refine Sm.G2 fun w hw=>?_
   show Sm (sq (VT text m (z9 t f k) w.1) one') _
   rw[O6]
   exact c w.1 (N.F9 hg p hp w hw).2
  ·have:=h.n
   rw[bG] at this
   refine o9 this ?_
   show(N.y9 [t.read,(z9 t f k).read]).sum<=_
   show [t.read.many,(z9 t f k).read.many].sum<=_
   rw[u0,u0,N6,show((k+1+1:Nat):Int)=((k+1:Nat):Int)+1 from rfl,PI,eX]
   lia
theorem aG4 (hg:t.read.good) (hs:t.read.su text m) (lo:Nat) (H:Hy text m t.read):Kp text m (.times lo (-1) f.lazy t.read) (dY t lo f).read:=by
 have P:=rL (t:=t) (f:=f) (o:=.plus) hg (Kp.refl hg hs) fun ζ=>H
 match lo with
 | 0=>exact rL (t:=t) (f:=f) (o:=.star) hg (Kp.refl hg hs) fun ζ=>H
 | 1=>exact P
 | k+2=>
  let L:List T:=List.replicate (k+1) t++[u7 .plus t f]
  have gL:N.A3 (T.reads L):=by rw[K6];exact zK (IJ hg _) ⟨P.g,trivial⟩
  have sL:N.I5 text m (T.reads L):=by rw[K6];exact CF (MW hs _) ⟨P.s,trivial⟩
  have hp0:=bG (o:=.plus) (z:=f.lazy) (s:=t.read)
  refine⟨CJ (ts:=L) gL,CN (ts:=L) sL,fun p hp=>cR text ?_,?_⟩
  ·obtain⟨st,a1,a2⟩:=jA (text:=text) (lo:=((k+2:Nat):Int)) (z:=f.lazy) m hg
   refine(a2 p hp).trans (Sm.trans ?_ (CH L f hp).symm)
   have ho:=N.F9 (text:=text) (m:=m) hg
   rw[o4,oW,rH,ML]
   have split:∀(k p:Nat),sq (pow (VT text m t) (k+1) p) st=sq (pow (VT text m t) k p) fun p=>sq (VT text m t p) st:=fun k=>by
    induction k with
    | zero=>
     intro p
     show sq (sq (VT text m t p) one') st=sq (one' p) _
     rw[O6,E8]
    | succ k ih=>
     intro p
     show sq (sq (VT text m t p) (pow (VT text m t) (k+1))) st=sq (sq (VT text m t p) (pow (VT text m t) k)) _
     rw[V4,V4]
     exact V5 fun w ζ=>ih w.1
   show Sm (sq (pow (VT text m t) (k+2) p) st) _
   rw[split]
   refine Sm.G2 fun w hw=>?_
   have mX:=(kK ho (k+1) p hp w hw).2
   show Sm _ (C0 [VT text m (u7 .plus t f)] w.1)
   rw[CC]
   refine Sm.trans ?_ (Sm.of (P.a w.1 mX))
   refine Sm.trans ?_ (iZ m hg mX).symm
   exact Sm.G2 fun v hv=>CD ho (fun ζ ζ=>Sm.rfl') a1 (oF m hg) v.1 (ho w.1 mX v hv).2
  ·show(C5 L f).read.many<=_
   rw[CM,K6,qH,JZ,W9]
   have e:(N.y9 (T.reads [u7 .plus t f])).sum=(u7 .plus t f).read.many:=by show [_].sum=_;rw[u0,N6,aI]
   have:=P.n
   rw[bG] at this
   have e2:F6 ((k+2:Nat):Int) (-1)=((k+1:Nat):Int)+1:=by show max ((k+2:Nat):Int) 1=_;lia
   rw[e,e2,PL,lU,xO]
   lia
theorem Ej (hg:t.read.good) (hs:t.read.su text m) (lo hi:Nat) (hl:lo<=hi):Kp text m (.times lo hi f.lazy t.read) (C5 (O7 t lo hi f) f).read:=by
 have ho:=N.F9 (text:=text) (m:=m) hg
 have tb:F6 (lo:Int) (hi:Int)=hi:=by unfold F6;rw[show((hi:Int)==-1)=false from beq_eq_false_iff_ne.mpr (by lia)];rfl
 have go (p:Nat) (hp:p<=text.length) (q:Pr Gs) (hq:∀ p,p<=text.length->Sm (q p) (opt (VT text m t) f.lazy (hi-lo) p)):Sm ((N.times lo hi f.lazy t.read).V text m p) (sq (pow (VT text m t) lo p) q):=by
  refine(lK m hg (by lia) (by lia) hp).trans ?_
  exact Sm.G2 fun w hw=>(hq w.1 (kK ho _ p hp w hw).2).symm
 by_cases e:lo<hi
 ·obtain⟨k,hk⟩:∃ k,hi-lo=k+1:=⟨hi-lo-1,by lia⟩
  obtain⟨a,b,c,d⟩:=aH4 (f:=f) hg hs k
  have eL:O7 t lo hi f=List.replicate lo t++[z9 t f k]:=by
   unfold O7
   rw[show Nat.blt lo hi=true from n6.mpr e,hk];rfl
  refine eL▸?_
  refine⟨CJ (by rw[K6];exact zK (IJ hg _) ⟨a,trivial⟩),CN (by rw[K6];exact CF (MW hs _) ⟨b,trivial⟩),fun p hp=>cR text ?_,?_⟩
  ·refine(go p hp (VT text m (z9 t f k)) (by rw[hk];exact c)).trans (Sm.trans ?_ (CH _ f hp).symm)
   rw[o4,oW,rH,ML]
   exact Sm.of (V5 fun w ζ=>(CC _ w.1).symm)
  ·rw[CM,K6,qH,JZ,W9,tb]
   have e1:(N.y9 (T.reads [z9 t f k])).sum=(z9 t f k).read.many:=by show [_].sum=_;rw[u0,N6,aI]
   have e2:(hi:Int)=(lo:Int)+((k+1:Nat):Int):=by lia
   rw[e1,e2,PL,xO t.read.many,xO t.read.many]
   lia
 ·have eq:hi=lo:=by lia
  subst eq
  have eL:O7 t hi hi f=List.replicate hi t:=by
   unfold O7
   rw[show Nat.blt hi hi=false from by rw[sJ];exact fun z=>e (n6.mp z)]
   show _++[]=_
   rw[u9]
  refine eL▸?_
  refine⟨CJ (IJ hg _),CN (MW hs _),fun p hp=>cR text ?_,?_⟩
  ·refine(go p hp one' (by rw[lZ];exact fun ζ ζ=>Sm.rfl')).trans (Sm.trans ?_ (CH _ f hp).symm)
   rw[oW,ML,O6];exact Sm.rfl'
  ·rw[CM,JZ,W9,tb,xO];exact z0 _
theorem JC {t:T} (h:t.B4=true):∃ f,t=.leaf .empty f:=by
 induction t using T.casesOn with
 | leaf o f=>induction o using Lf.casesOn<;>first | exact⟨f,rfl⟩ | exact ft h
 | _=>exact ft h
theorem Ew {lo hi:Int} (h1:0<=lo) (h2:hi=-1∨lo<=hi):0<=F6 lo hi:=by
 unfold F6
 cases e:hi==-1 with
 | true=>show 0<=max lo 1;lia
 | false=>have:=beq_eq_false_iff_ne.mp e;show 0<=hi;lia
theorem aG7 {x:N} {lo hi:Int} (hx:x.good) (h:Kp text m x t.read) (h1:0<=lo) (h2:hi=-1∨lo<=hi) (H:hi=-1->Hy text m x):Kp text m (.times lo hi f.lazy x) (I6 t lo.toNat (E9 hi) f).read:=by
 have hg:=h.g
 have hs:=h.s
 have b1:Al text m (.times lo hi f.lazy x) (.times lo hi f.lazy t.read):=Al.times hx hg h.a h1 h2
 have b2:(N.times lo hi f.lazy t.read).many<=(N.times lo hi f.lazy x).many:=by
  rw[W9,W9]
  exact lT h.n (Ew h1 h2)
 suffices k:Kp text m (.times lo hi f.lazy t.read) (I6 t lo.toNat (E9 hi) f).read from⟨k.g,k.s,b1.trans k.a,o9 k.n b2⟩
 have VZ:((lo.toNat:Nat):Int)=lo:=by lia
 have npos:=N.kC t.read hg
 unfold I6
 cases he:t.B4 with
 | true=>
  obtain⟨f',rfl⟩:=JC he
  refine⟨trivial,trivial,fun p hp=>cR text ?_,?_⟩
  ·refine((Bp (text:=text) (m:=m) f').times hg h1 h2 hp).trans (Sm.of ?_)
   show _=VT text m (.leaf .empty f') p
   have e:(T.leaf .empty f').read.V text m p=one' p:=oE (f:=f') hp
   rw[e,oE hp]
   cases lo==0<;>rfl
  ·show(0:Int)<=0*_;rw[PO];exact z0 _
 | false=>
  show Kp text m _ (Option.casesOn (motive:=fun ζ=>T) (D8 t lo.toNat (E9 hi)).2 _ _).read
  unfold D8
  cases hpl:t.place with
  | true=>
   have pl:=Ze (text:=text) (m:=m) t hpl
   show Kp text m _ (C5 (O7 t (min lo.toNat 1) (Option.casesOn (motive:=fun ζ=>Nat) (E9 hi) 1 fun h=>min h 1) f) f).read
   obtain⟨b,hb,hb2⟩:∃ b,(Option.casesOn (motive:=fun ζ=>Nat) (E9 hi) 1 fun h=>min h 1)=b/\min lo.toNat 1<=b/\b<=1/\(b:Int)<=F6 lo hi:=by
    refine⟨_,rfl,?_⟩
    rcases h2 with rfl | h2
    ·exact⟨FL _ _,g7 1,by show((1:Nat):Int)<=max lo 1;lia⟩
    ·rw[uG (by lia)]
     have tb:F6 lo hi=hi:=by unfold F6;rw[show(hi==-1)=false from beq_eq_false_iff_ne.mpr (by lia)];rfl
     rw[tb]
     show min lo.toNat 1<=min hi.toNat 1/\min hi.toNat 1<=1/\((min hi.toNat 1:Nat):Int)<=hi
     omega
   refine hb▸?_
   have k:=Ej (text:=text) (m:=m) (f:=f) hg hs (min lo.toNat 1) b hb2.1
   refine⟨k.g,k.s,fun p hp=>cR text ?_,o9 k.n ?_⟩
   ·refine(pl.times hg h1 h2 hp).trans (Sm.trans ?_ (Sm.of (k.a p hp)))
    refine Sm.trans (Sm.of ?_) (pl.times hg (z:=f.lazy) (lo:=((min lo.toNat 1:Nat):Int)) (hi:=(b:Int)) (by lia) (by lia) hp).symm
    rw[show((((min lo.toNat 1:Nat):Int))==0)=(lo==0) from ?_]
    rw[EA,beq_iff_eq,beq_iff_eq];lia
   ·have tb:F6 ((min lo.toNat 1:Nat):Int) (b:Int)=b:=by unfold F6;rw[show((b:Int)==-1)=false from beq_eq_false_iff_ne.mpr (by lia)];rfl
    rw[W9,W9,tb]
    exact xP hb2.2.2 npos
  | false=>
   show Kp text m _ (Option.casesOn (motive:=fun ζ=>T) (E9 hi) (dY t lo.toNat f) fun h=>C5 (O7 t lo.toNat h f) f).read
   rcases h2 with rfl | h2
   ·have k:=aG4 (f:=f) hg hs lo.toNat ((H rfl).al h.a)
    rw[VZ] at k
    exact k
   ·rw[uG (by lia)]
    have k:=Ej (text:=text) (m:=m) (f:=f) hg hs lo.toNat hi.toNat (by lia)
    rw[VZ,show((hi.toNat:Nat):Int)=hi by lia] at k
    exact k
end
end
section
section
variable {text:List Int} {m:Bool}
structure I8 (text:List Int) (m:Bool) (l k:List N):Prop where
 g:N.A3 k
 s:N.I5 text m k
 a:lC text m l k
 n:(N.y9 k).sum<=(N.y9 l).sum
 z:k.length=l.length
theorem I8.nil:I8 text m [] []:=⟨trivial,trivial,.nil,z0 _,rfl⟩
theorem I8.cons {x y:N} {l k:List N} (h:Kp text m x y) (hs:I8 text m l k):I8 text m (x::l) (y::k):=
 ⟨⟨h.g,hs.g⟩,⟨h.s,hs.s⟩,.cons h.a hs.a,by show(y.many::N.y9 k).sum<=(x.many::N.y9 l).sum;rw[u0,u0];exact eW h.n hs.n,congrArg (fun ζ=>ζ+1) hs.z⟩
theorem I8.row {l k:List N} (hl:N.A3 l) (h:I8 text m l k):Kp text m (.row l) (.row k):=⟨h.g,h.s,Al.row hl h.a,h.n⟩
theorem I8.choice {l k:List N} (hz:l.length<=10000) (h:I8 text m l k):Kp text m (.choice l) (.choice k):=⟨⟨by rw[h.z];exact hz,h.g⟩,h.s,Al.choice h.a,h.n⟩
theorem I8.of {F:T->T}:∀{l:List T},N.A3 (T.reads l)->N.I5 text m (T.reads l)->(∀ t,t∈l->t.read.good->t.read.su text m->Kp text m t.read (F t).read)->I8 text m (T.reads l) (T.reads (l.map F)):=by
 intro b7
 induction b7 with
 | nil=>intro _ _ _;exact .nil
 | cons t l ih=>intro hg hs h;exact .cons (h t f9 hg.1 hs.1) (ih hg.2 hs.2 fun s hm=>h s (l6 _ hm))
theorem Kp.times {x y:N} (hx:x.good) (h:Kp text m x y) {lo hi:Int} {z:Bool} (h1:0<=lo) (pX:lo<=1000) (h2:hi=-1∨lo<=hi) (h2':hi<=1000) (H:hi=-1->Hy text m x):Kp text m (.times lo hi z x) (.times lo hi z y):=
 ⟨⟨h1,pX,by lia,h2',h.g⟩,⟨fun e=>(H e).al h.a,h.s⟩,Al.times hx h.g h.a h1 h2,by rw[W9,W9];exact lT h.n (Ew h1 h2)⟩
theorem Kp.group {x y:N} (h:Kp text m x y) {c:Int} {nm:Bool} (hc:0<=c/\c<10):Kp text m (.group c nm x) (.group c nm y):=⟨⟨hc.1,hc.2,h.g⟩,h.s,Al.group h.a,h.n⟩
noncomputable def tO (t:T):Prop:=∀ lo hi s f,t=.rep lo hi s f->0<=lo/\lo<=1000/\(hi=-1∨lo<=hi)/\hi<=1000
theorem Py (ht:∀ c,c∈text->0<=c/\c<=255) {x y:Int} (hx:255<=x) (hy:255<=y):Al text m (.set [(0,x)]) (.set [(0,y)]):=fun p hp=>by
 have e (x:Int) (hx:255<=x):(N.set [(0,x)]).V text m p=List.map (er m) (Option.casesOn text[p]? [] fun ζ=>[(p+1,[])]):=by
  show List.map (er m) (Option.casesOn text[p]? [] fun c=>bif [((0:Int),x)].any (fun q=>decide (q.1<=c)&&decide (c<=q.2)) then [(p+1,[])] else [])=_
  cases h:text[p]? with
  | none=>rfl
  | some c=>
   have:=ht c (aL h)
   show List.map (er m) (bif (decide ((0:Int)<=c)&&decide (c<=x))||false then [(p+1,[])] else [])=_
   rw[decide_eq_true this.1,decide_eq_true (by lia:c<=x)];rfl
 rw[e x hx,e y hy]
theorem aA9 {x:N} {o:Lk} {t:T} {f:Fg} (hx:x.good) (h:Kp text m x t.read) (H:o≠.quest->Hy text m x):Kp text m (lk o f.lazy x) (O3 o t f).read:=by
 unfold O3
 cases he:t.B4 with
 | false=>exact rL hx h H
 | true=>
  obtain⟨f',rfl⟩:=JC he
  refine⟨h.g,h.s,fun p hp=>cR text ?_,by rw[bG];exact h.n⟩
  have e:(T.leaf .empty f').read.V text m p=one' p:=oE (f:=f') hp
  have px:Pl text.length (x.V text m):=fun p hp=>by rw[h.a p hp];exact Bp f' p hp
  have q:=px.times hx (z:=f.lazy) (lo:=o.lo) (hi:=o.hi) (by induction o using Lk.casesOn<;>decide) (by induction o using Lk.casesOn<;>decide) hp
  refine q.trans (Sm.of ?_)
  rw[h.a p hp]
  show(bif o.lo==0 then one' p else(T.leaf .empty f').read.V text m p)=(T.leaf .empty f').read.V text m p
  rw[e]
  cases o.lo==0<;>rfl
theorem aD2 (ht:∀ c,c∈text->0<=c/\c<=255):∀ t:T,k9 tO t->t.read.good->t.read.su text m->Kp text m t.read t.simp.read:=T.aQ fun t ih hb hg hs=>by
 have sub (s:T) (hs:s∈t.subs):s.read.good->s.read.su text m->Kp text m s.read s.simp.read:=ih s (T.h_mem hs) (hb.sub hs)
 induction t using T.casesOn with
 | leaf o f=>exact Kp.refl hg hs
 | lit r f=>exact Kp.refl hg hs
 | str rs f=>exact Kp.refl hg hs
 | cls g f=>
  show Kp text m (.set g) (M0 g f).read
  unfold M0
  cases e:g.isEmpty with
  | true=>
   have:g=[]:=by induction g using List.casesOn<;>first | rfl | exact ft e
   subst this
   exact Kp.refl hg hs
  | false=>
   cases e2:(T.cls g f).isFull with
   | false=>exact Kp.refl hg hs
   | true=>
    have:g=[(0,bif f.E4 then 255 else 1114111)]:=eq_of_beq e2
    subst this
    exact⟨trivial,trivial,Py ht (by cases f.E4<;>decide) (by decide),z0 _⟩
 | cat l f=>
  show Kp text m (.row (T.reads l)) ((T.cat l f).re (T.R4 l)).read
  rw[T.cK]
  induction l using List.casesOn with
  | nil=>exact Kp.refl hg hs
  | cons a l=>exact I8.row hg (I8.of (F:=T.simp) hg hs sub)
 | alt l f=>
  show Kp text m (.choice (T.reads l)) ((T.alt l f).re (T.R4 l)).read
  rw[T.cK]
  induction l using List.casesOn with
  | nil=>exact Kp.refl hg hs
  | cons a l=>exact I8.choice hg.1 (I8.of (F:=T.simp) hg.2 hs sub)
 | loop o s f=>
  have hs':(o.hi=-1->Hy text m s.read)/\s.read.su text m:=hs
  exact aA9 hg.2.2.2.2 (sub s f9 hg.2.2.2.2 hs'.2) fun e=>hs'.1 (zS e)
 | rep lo hi s f=>
  have hs':(hi=-1->Hy text m s.read)/\s.read.su text m:=hs
  obtain⟨b1,b2,b3,b4⟩:=hb.here lo hi s f rfl
  exact aG7 hg.2.2.2.2 (sub s f9 hg.2.2.2.2 hs'.2) b1 b3 hs'.1
 | cap c nm s f=>exact Kp.group (sub s f9 hg.2.2 hs) ⟨hg.1,hg.2.1⟩
end
end
section
section
variable {n:Nat} {f:Pr Gs}
noncomputable def Sn (n:Nat) (f:Pr Gs):Prop:=∀ p,p<=n->f p=[]∨(f p=one' (p+1)/\p+1<=n)
theorem LB (f:Pr Gs) (z:Bool) (p:Nat):opt f z 0 p=one' p:=rfl
theorem iJ {z:Bool} {p:Nat} (h:f p=[]):∀ k,opt f z k p=one' p:=by
 intro b7
 induction b7 with
 | zero=>exact rfl
 | succ k ih=>show B6 z p (sq (f p) _)=_;rw[h,dX,pS]
theorem kG {z:Bool} {p:Nat} (h:f p=one' (p+1)) (k:Nat):opt f z (k+1) p=B6 z p (opt f z k (p+1)):=by
 show B6 z p (sq (f p) _)=_;rw[h,E8]
theorem pow_step {p:Nat} (h:f p=one' (p+1)) (k:Nat):pow f (k+1) p=pow f k (p+1):=by show sq (f p) _=_;rw[h,E8]
theorem Ca {p:Nat} (h:f p=[]) (k:Nat):pow f (k+1) p=[]:=by show sq (f p) _=_;rw[h,dX]
theorem pow_add (f:Pr Gs):∀(a b p:Nat),sq (pow f a p) (pow f b)=pow f (a+b) p:=by
 intro b7
 induction b7 with
 | zero=>intro b p;rw[W4];exact E8 p _
 | succ a ih=>
  intro b p
  rw[show a+1+b=(a+b)+1 by lia]
  show sq (sq (f p) (pow f a)) _=sq (f p) (pow f (a+b))
  rw[V4]
  exact V5 fun w ζ=>ih b w.1
theorem Sn.pow (h:Sn n f):∀(k p:Nat),p<=n->pow f k p=[]∨(pow f k p=one' (p+k)/\p+k<=n):=by
 intro b7
 induction b7 with
 | zero=>intro p hp;exact .inr ⟨rfl,hp⟩
 | succ k ih=>
  intro p hp
  rcases h p hp with e |⟨e,e2⟩
  ·exact .inl (Ca e k)
  ·rw[pow_step e]
   rcases ih (p+1) e2 with q |⟨q,q2⟩
   ·exact .inl q
   ·exact .inr ⟨by rw[q,gI,lW 1 k],by lia⟩
theorem Sn.ok (h:Sn n f):Ok n f:=fun p hp w hw=>by
 rcases h p hp with e |⟨e,e2⟩
 ·rw[e] at hw;cases hw
 ·rw[e] at hw;cases j5.mp hw;exact⟨J5 p,e2⟩
theorem Sn.star (h:Sn n f) {z:Bool} {st:Pr Gs} (hs:isStar n z f st):∀ p,p<=n->∀ M,n-p<=M->Sm (st p) (opt f z M p):=down fun p hp ih M hM=>by
 refine(hs p hp).trans ?_
 rcases h p hp with e |⟨e,e2⟩
 ·rw[e,dX,iJ e,pS];exact Sm.rfl'
 ·obtain⟨k,rfl⟩:∃ k,M=k+1:=⟨M-1,by lia⟩
  rw[e,E8,kG e]
  refine aU ?_
  show Sm (upd st p (p+1)) _
  unfold upd;rw[P0 _ _ (by lia)]
  exact ih (p+1) (by lia) e2 k (by lia)
theorem Sn.comm (h:Sn n f) (z:Bool) (b:Nat):∀(k p:Nat),p<=n->Sm (sq (opt f z k p) (Lake.pow f b)) (sq (Lake.pow f b p) (opt f z k)):=by
 intro b7
 induction b7 with
 | zero=>intro p hp;exact Sm.of (by rw[LB,E8];exact(O6 _).symm)
 | succ k ih=>
  intro p hp
  rcases h p hp with e |⟨e,e2⟩
  ·rw[iJ e,E8]
   induction b using Nat.casesOn with
   | zero=>exact Sm.of (by show one' p=sq (one' p) _;rw[E8,iJ e])
   | succ b=>rw[Ca e];exact Sm.rfl'
  ·rw[kG e,nQ]
   have ih:=ih (p+1) e2
   have q:Sm ((bif z then Lake.pow f b p else [])++sq (opt f z k (p+1)) (Lake.pow f b)++(bif z then [] else Lake.pow f b p)) ((bif z then Lake.pow f b p else [])++sq (Lake.pow f b (p+1)) (opt f z k)++(bif z then [] else Lake.pow f b p)):=(Sm.app Sm.rfl' ih).app Sm.rfl'
   refine q.trans ?_
   have pe:Lake.pow f b (p+1)=sq (Lake.pow f b p) f:=by
    rw[<-pow_step e]
    have:=pow_add f b 1 p
    refine this▸?_
    exact V5 fun w ζ=>O6 _
   rcases h.pow b p hp with a |⟨a,a2⟩
   ·rw[pe,a,dX,dX,dX]
    induction z using Bool.casesOn<;>exact Sm.rfl'
   ·rw[pe,a,E8,E8]
    exact Sm.of rfl
theorem Vv {z:Bool} (h:Sn n f):∀(j k p:Nat),p<=n->j<=k->∀ x,x∈t8 (opt f z j p)->x∈t8 (opt f z k p):=by
 intro b7
 induction b7 with
 | zero=>
  intro k p hp _ x hx
  cases j5.mp hx
  induction k using Nat.casesOn with
  | zero=>exact hx
  | succ k=>exact dG.mpr (.inl rfl)
 | succ j ih=>
  intro k p hp hjk x hx
  obtain⟨k,rfl⟩:∃ i,k=i+1:=⟨k-1,by lia⟩
  rcases h p hp with e |⟨e,e2⟩
  ·rw[iJ e] at hx ⊢;exact hx
  ·rw[kG e] at hx ⊢
   rcases dG.mp hx with hx | hx
   ·exact dG.mpr (.inl hx)
   ·exact dG.mpr (.inr (ih k (p+1) e2 (by lia) x hx))
theorem Vw (h:Sn n f):∀(j k p:Nat),p<=n->j<=k->Sm (opt f true j p++opt f true k p) (opt f true k p):=by
 intro b7
 induction b7 with
 | zero=>
  intro k p hp _
  induction k using Nat.casesOn with
  | zero=>exact Sm.idem
  | succ k=>
   show Sm ([(p,[])]++([(p,[])]++sq (f p) _++[])) ([(p,[])]++sq (f p) _++[])
   rw[D9]
   exact twice _ _
 | succ j ih=>
  intro k p hp hjk
  obtain⟨k,rfl⟩:∃ i,k=i+1:=⟨k-1,by lia⟩
  rcases h p hp with e |⟨e,e2⟩
  ·rw[iJ e,iJ e];exact Sm.idem
  ·rw[kG e,kG e]
   have ih:=ih k (p+1) e2 (by lia)
   show Sm ([(p,[])]++opt f true j (p+1)++[]++([(p,[])]++opt f true k (p+1)++[])) ([(p,[])]++opt f true k (p+1)++[])
   simp only[u9]
   refine Sm.trans ?_ (Sm.app (a:=[(p,[])]) Sm.rfl' ih)
   rw[<-D9,<-D9]
   refine Sm.app (Sm.pA fun x hx=>?_) Sm.rfl'
   rw[ends_app]
   exact n7.mpr (.inl hx)
theorem Sn.opt (h:Sn n f) (z:Bool) (k':Nat):∀(k p:Nat),p<=n->Sm (sq (opt f z k p) (opt f z k')) (opt f z (k+k') p)
 | 0,p,hp=>by rw[W4,LB,E8];exact Sm.rfl'
 | k+1,p,hp=>by
  rw[show k+1+k'=(k+k')+1 by lia]
  rcases h p hp with e |⟨e,e2⟩
  ·rw[iJ e,iJ e,E8,iJ e];exact Sm.rfl'
  ·rw[kG e,kG e,nQ]
   have ih:=Sn.opt h z k' k (p+1) e2
   let O:=Lake.opt f z (k+k') (p+1)
   have q:Sm ((bif z then Lake.opt f z k' p else [])++sq (Lake.opt f z k (p+1)) (Lake.opt f z k')++(bif z then [] else Lake.opt f z k' p)) ((bif z then Lake.opt f z k' p else [])++O++(bif z then [] else Lake.opt f z k' p)):=(Sm.app Sm.rfl' ih).app Sm.rfl'
   refine q.trans ?_
   cases k' with
   | zero=>
    rw[LB]
    induction z using Bool.casesOn<;>exact Sm.rfl'
   | succ j=>
    rw[kG e]
    induction z using Bool.casesOn with
    | false=>
     show Sm ([]++O++([]++Lake.opt f false j (p+1)++[(p,[])])) ([]++O++[(p,[])])
     rw[W2,W2,<-D9]
     exact Sm.app (Sm.pA fun x hx=>Vv h j (k+(j+1)) (p+1) e2 (by lia) x hx) Sm.rfl'
    | true=>
     show Sm ([(p,[])]++Lake.opt f true j (p+1)++[]++O++[]) ([(p,[])]++O++[])
     simp only[u9]
     rw[D9]
     exact Sm.app Sm.rfl' (Vw h j (k+(j+1)) (p+1) e2 (by lia))
noncomputable def rg (f:Pr Gs) (z:Bool) (a k:Nat):Pr Gs:=fun p=>sq (Lake.pow f a p) (Lake.opt f z k)
theorem Sn.rg (h:Sn n f) (z:Bool) (a k b k':Nat) {p:Nat} (hp:p<=n):Sm (sq (rg f z a k p) (rg f z b k')) (rg f z (a+b) (k+k') p):=by
 unfold Lake.rg
 rw[V4,<-pow_add,V4]
 have po:=kK h.ok
 refine Sm.G2 fun w hw=>?_
 have hw:=(po a p hp w hw).2
 rw[show(fun p=>sq (Lake.pow f b p) (Lake.opt f z k'))=fun p=>sq (Lake.pow f b p) (Lake.opt f z k') from rfl,<-V4]
 refine((h.comm z b k w.1 hw).O5 _).trans ?_
 rw[V4]
 exact Sm.G2 fun v hv=>h.opt z k' k v.1 (po b w.1 hw v hv).2
end
end
section
section
variable {text:List Int} {m:Bool}
theorem Sg.one (s:Sg) (p:Nat):∃ b:Bool,VT text m s.t p=bif b then one' (p+1) else []:=by
 have fin (x:N) (h:∃ b:Bool,x.W text p=bif b then one' (p+1) else []):∃ b:Bool,x.V text m p=bif b then one' (p+1) else []:=by
  obtain⟨b,e⟩:=h
  refine⟨b,?_⟩
  unfold N.V
  rw[e]
  induction b using Bool.casesOn
  ·rfl
  ·exact gQ m (p+1)
 have set (g:List (Int×Int)):∃ b:Bool,(N.set g).W text p=bif b then one' (p+1) else []:=by
  rw[xF]
  cases text[p]? with
  | none=>exact⟨false,rfl⟩
  | some c=>exact⟨_,rfl⟩
 induction s using Sg.casesOn with
 | lit r f=>exact fin _ ⟨_,rfl⟩
 | cls g f=>exact fin _ (set g)
 | any b f=>induction b using Bool.casesOn<;>exact fin _ (set _)
theorem Sg.good (s:Sg):s.t.read.good:=by
 induction s using Sg.casesOn with
 | any b f=>induction b using Bool.casesOn<;>exact trivial
 | _=>exact trivial
theorem Sg.sn (s:Sg):Sn text.length (VT text m s.t):=fun p hp=>by
 obtain⟨b,e⟩:=s.one (text:=text) (m:=m) p
 induction b using Bool.casesOn with
 | false=>exact .inl e
 | true=>
  refine .inr ⟨e,?_⟩
  exact(N.F9 s.good p hp (p+1,[]) (by rw[show s.t.read.V text m p=one' (p+1) from e];exact j5.mpr rfl)).2
theorem Sg.su (s:Sg):s.t.read.su text m:=by
 induction s using Sg.casesOn with
 | any b f=>induction b using Bool.casesOn<;>exact trivial
 | _=>exact trivial
theorem Sg.hy (s:Sg):Hy text m s.t.read:=.inr fun p hp w hw e=>by
 rcases s.sn (text:=text) (m:=m) p hp with q |⟨q,_⟩
 ·rw[show s.t.read.V text m p=[] from q] at hw;cases hw
 ·rw[show s.t.read.V text m p=one' (p+1) from q] at hw
  cases j5.mp hw
  exact absurd e (by show p+1≠p;lia)
theorem Sg.many (s:Sg):s.t.read.many=1:=by
 induction s using Sg.casesOn with
 | any b f=>induction b using Bool.casesOn<;>rfl
 | _=>rfl
theorem Sg.load (s:Sg):s.t.read.load=1:=by
 induction s using Sg.casesOn with
 | lit r f=>show max 1 (([r].length:Nat):Int)=1;rfl
 | any b f=>induction b using Bool.casesOn<;>rfl
 | _=>rfl
theorem Sg.eq {a b:Sg} (h:V3 a b=true):a.t.read=b.t.read:=by
 induction a using Sg.casesOn with
 | lit r f=>induction b using Sg.casesOn with
  | lit r' f'=>
   have h:(f.fold==f'.fold&&r==r')=true:=h
   rw[N3] at h
   show N.text [r] f.fold=N.text [r'] f'.fold
   rw[eq_of_beq h.1,eq_of_beq h.2]
  | _=>exact ft h
 | cls g f=>induction b using Sg.casesOn with
  | cls g' f'=>show N.set g=N.set g';rw[eq_of_beq (h:(g==g')=true)]
  | _=>exact ft h
 | any x f=>induction b using Sg.casesOn with
  | any y f'=>induction x using Bool.casesOn<;>induction y using Bool.casesOn<;>first | rfl | exact nn h
  | _=>exact ft h
theorem MH {t:T} {s:Sg} (h:t.sg=some s):t=s.t:=by
 induction t using T.casesOn with
 | leaf o f=>induction o using Lf.casesOn<;>first |(have h:=si h;subst h;rfl) | exact nn h
 | lit r f=>have h:=si h;subst h;rfl
 | cls g f=>have h:=si h;subst h;rfl
 | _=>exact nn h
noncomputable def AD (n:Nat) (lo hi:Int) (k:Nat):Prop:=(hi=-1/\n<=k)∨(hi≠-1/\k=hi.toNat-lo.toNat)
theorem NC {x:N} (hx:x.good) (h:Sn text.length (x.V text m)) {lo hi:Int} {z:Bool} (h1:0<=lo) (h2:hi=-1∨lo<=hi) {k:Nat} (hk:AD text.length lo hi k) {p:Nat} (hp:p<=text.length) :
  Sm ((N.times lo hi z x).V text m p) (rg (x.V text m) z lo.toNat k p):=by
 rcases hk with⟨rfl,hk⟩ |⟨h3,rfl⟩
 ·obtain⟨st,a1,a2⟩:=jA (text:=text) (lo:=lo) (z:=z) m hx
  refine(a2 p hp).trans (Sm.G2 fun w hw=>?_)
  exact h.star a1 w.1 (kK h.ok _ p hp w hw).2 k (by lia)
 ·exact lK m hx h1 (by lia) hp
theorem aC6 (f:Pr Gs) (z:Bool) (p:Nat):f p=rg f z 1 0 p:=by
 show _=sq (sq (f p) one') one'
 rw[O6,O6]
structure Rp (t:T) (s:Sg):Prop where
 e:(t.isSign=true/\t=s.t)∨(t.D6=true/\t.isSign=false/\t.read=.times t.bnd.1 t.bnd.2 t.fg.lazy s.t.read/\t.size=2/\t.h=2)
 l:0<=t.bnd.1
 b:t.bnd.2=-1∨t.bnd.1<=t.bnd.2
theorem nO (s:Sg):s.t.size=1/\s.t.h=1:=by
 induction s using Sg.casesOn with
 | any b f=>induction b using Bool.casesOn<;>exact⟨rfl,rfl⟩
 | _=>exact⟨rfl,rfl⟩
theorem Sg.bnd (s:Sg):s.t.bnd=(1,1):=by
 induction s using Sg.casesOn with
 | any b f=>induction b using Bool.casesOn<;>rfl
 | _=>rfl
theorem UB (o:Lk) (s:T) (f:Fg):(T.loop o s f).bnd=(o.lo,o.hi):=by induction o using Lk.casesOn<;>rfl
theorem Rp.of {t:T} {s:Sg} (h:t.I4=some s) (hb:tO t):Rp t s:=by
 unfold T.I4 at h
 cases e:t.isSign with
 | true=>
  rw[e] at h
  have:=MH (h:t.sg=some s)
  refine⟨.inl ⟨e,this⟩,?_,?_⟩
  ·rw[this,s.bnd];decide
  ·rw[this,s.bnd];exact .inr (by decide)
 | false=>
  rw[e] at h
  cases e2:t.D6 with
  | false=>rw[e2] at h;exact nn h
  | true=>
   rw[e2] at h
   have h:t.subs.head?.bind T.sg=some s:=h
   induction t using T.casesOn with
   | loop o x f=>
    have h:=MH (h:x.sg=some s)
    subst h
    refine⟨.inr ⟨e2,e,by induction o using Lk.casesOn<;>rfl,?_,?_⟩,by rw[UB];induction o using Lk.casesOn<;>decide,by rw[UB];induction o using Lk.casesOn<;>decide⟩
    ·show s.t.size+1=2;rw[(nO s).1]
    ·show s.t.h+1=2;rw[(nO s).2]
   | rep lo hi x f=>
    have h:=MH (h:x.sg=some s)
    subst h
    have b:=hb lo hi _ f rfl
    refine⟨.inr ⟨e2,e,rfl,?_,?_⟩,b.1,b.2.2.1⟩
    ·show s.t.size+1=2;rw[(nO s).1]
    ·show s.t.h+1=2;rw[(nO s).2]
   | _=>exact ft e2
theorem Rp.rg {t:T} {s:Sg} (h:Rp t s) {z:Bool} (hz:t.isSign=false->z=t.fg.lazy) {k:Nat} (hk:AD text.length t.bnd.1 t.bnd.2 k) {p:Nat} (hp:p<=text.length):Sm (VT text m t p) (Lake.rg (VT text m s.t) z t.bnd.1.toNat k p):=by
 rcases h.e with⟨a,e⟩ |⟨_,a,e,_⟩
 ·subst e
  rw[s.bnd] at hk ⊢
  rcases hk with⟨c,_⟩ |⟨_,rfl⟩
  ·cases c
  ·exact Sm.of (aC6 (VT text m s.t) z p)
 ·refine(hz a)▸?_
  have:=NC (text:=text) (m:=m) s.good s.sn (z:=t.fg.lazy) h.l h.b hk hp
  rw[<-e] at this
  exact this
theorem Rp.many {t:T} {s:Sg} (h:Rp t s):t.read.many=F6 t.bnd.1 t.bnd.2:=by
 rcases h.e with⟨_,e⟩ |⟨_,_,e,_⟩
 ·subst e;rw[s.bnd,s.many];rfl
 ·rw[e,W9,s.many,eX]
theorem iB {lo hi:Int} {z:Bool} {s:N}:(N.times lo hi z s).load=s.load*max (max lo hi) 1:=rfl
theorem Rp.load {t:T} {s:Sg} (h:Rp t s):t.read.load=max (max t.bnd.1 t.bnd.2) 1:=by
 rcases h.e with⟨_,e⟩ |⟨_,_,e,_⟩
 ·subst e;rw[s.bnd,s.load];rfl
 ·rw[e,iB,s.load,eX]
theorem aF5 (r:Int) (rs:List Int) (fo:Bool) (p:Nat):(N.text (r::rs) fo).V text m p=sq ((N.text [r] fo).V text m p) ((N.text rs fo).V text m):=by
 have wv (rs:List Int) (p:Nat):(N.text rs fo).V text m p=bif (bif fo then((text.drop p).take rs.length).map small==rs.map small else(text.drop p).take rs.length==rs) then one' (p+rs.length) else []:=by
  show List.map (er m) (bif _ then [(p+rs.length,[])] else [])=_
  cases(bif fo then((text.drop p).take rs.length).map small==rs.map small else(text.drop p).take rs.length==rs)
  ·rfl
  ·exact gQ m _
 rw[wv,wv]
 cases e:text.drop p with
 | nil=>
  rw[FA,FA]
  induction fo using Bool.casesOn<;>rfl
 | cons c tl=>
  have e2:text.drop (p+1)=tl:=by
   have:=congrArg (List.drop 1) e
   rwa [List.drop_drop] at this
  have e3 (b:Bool) (k:Pr Gs):sq (bif b then one' (p+[r].length) else []) k=bif b then k (p+1) else []:=by
   induction b using Bool.casesOn
   ·rfl
   ·exact E8 (p+1) k
  rw[e3,wv,e2]
  have hp:p+(r::rs).length=p+1+rs.length:=by show p+(rs.length+1)=_;lia
  rw[hp]
  show(bif (bif fo then(c::tl.take rs.length).map small==(r::rs).map small else c::tl.take rs.length==r::rs) then _ else _)=bif (bif fo then [c].map small==[r].map small else [c]==[r]) then _ else _
  induction fo using Bool.casesOn with
  | true=>
   show(bif (small c==small r&&(tl.take rs.length).map small==rs.map small) then _ else _)=bif (small c==small r&&true) then(bif (tl.take rs.length).map small==rs.map small then _ else _) else _
   cases small c==small r<;>rfl
  | false=>
   show(bif (c==r&&tl.take rs.length==rs) then _ else _)=bif (c==r&&true) then(bif tl.take rs.length==rs then _ else _) else _
   cases c==r<;>rfl
theorem aF6 (r:Int) (fo:Bool) (rest:List Int):∀(k p:Nat),(N.text (List.replicate k r++rest) fo).V text m p=sq (pow ((N.text [r] fo).V text m) k p) ((N.text rest fo).V text m):=by
 intro b7
 induction b7 with
 | zero=>intro p;exact(E8 p _).symm
 | succ k ih=>
  intro p
  show(N.text (r::(List.replicate k r++rest)) fo).V text m p=sq (sq _ _) _
  rw[aF5,V4]
  exact V5 fun w ζ=>ih w.1
theorem MU (fo:Bool) (p:Nat):(N.text [] fo).V text m p=one' p:=by
 show List.map (er m) (bif (bif fo then((text.drop p).take 0).map small==[] else(text.drop p).take 0==[]) then [(p+0,[])] else [])=_
 rw[QN]
 induction fo using Bool.casesOn<;>exact gQ m p
theorem aH1 (rs:List Int) (g:Fg) (p:Nat):VT text m (aB rs g) p=(N.text rs g.fold).V text m p:=by
 match rs with
 | []=>exact(MU false p).trans (MU g.fold p).symm
 | [r]=>rfl
 | a::b::l=>rfl
theorem aH8 {r:Int}:∀ rs:List Int,rs=List.replicate (rs.takeWhile (·==r)).length r++rs.drop (rs.takeWhile (·==r)).length:=by
 intro b7
 induction b7 with
 | nil=>exact rfl
 | cons a l ih=>
  cases e:a==r with
  | true=>
   rw[yC,e]
   show a::l=r::(List.replicate _ r++l.drop _)
   rw[<-ih,eq_of_beq e]
  | false=>rw[yC,e];rfl
theorem aH9 {s:Sg} {rs:List Int} {g:Fg} (h:0<taken s rs g):∃ r f0,s=.lit r f0/\f0.fold=g.fold/\rs=List.replicate (taken s rs g) r++rs.drop (taken s rs g):=by
 induction s using Sg.casesOn with
 | lit r f0=>
  have e:taken (.lit r f0) rs g=bif f0.fold==g.fold&&f0.E4==g.E4 then(rs.takeWhile (·==r)).length else 0:=rfl
  cases q:(f0.fold==g.fold&&f0.E4==g.E4) with
  | false=>rw[e,q] at h;exact absurd h (aM 0)
  | true=>
   rw[q] at e
   have e:taken (.lit r f0) rs g=(rs.takeWhile (·==r)).length:=e
   rw[N3] at q
   refine⟨r,f0,rfl,eq_of_beq q.1,?_⟩
   exact e▸(aH8 rs)
 | _=>exact absurd h (aM 0)
end
end
section
noncomputable def P1 (la:Bool) (t:T):Prop:=tO t/\∀ g f,t=.cls g f->f.E4=la
structure N2 (la:Bool) (h0:Nat) (n0:Int) (t:T):Prop where
 p:k9 (P1 la) t
 h:t.h<=h0
 n:t.read.nest<=n0
section
variable {text:List Int} {m la:Bool} {h0:Nat} {n0:Int}
structure KL (text:List Int) (m la:Bool) (h0:Nat) (n0:Int) (l k:List T):Prop where
 g:N.A3 (T.reads k)
 s:N.I5 text m (T.reads k)
 a:∀ p,p<=text.length->Sm (C0 (l.map (VT text m)) p) (C0 (k.map (VT text m)) p)
 n:(N.y9 (T.reads k)).sum<=(N.y9 (T.reads l)).sum
 ld:(N.n8 (T.reads k)).sum<=(N.n8 (T.reads l)).sum
 sz:T.sizes k<=T.sizes l
 e:∀ t,t∈k->N2 la h0 n0 t
theorem uP (a b:Int):I1 a b=if a=-1∨b=-1 then -1 else a+b:=by
 unfold I1
 by_cases ha:a=-1
 ·subst ha;rw[if_pos (.inl rfl)];rfl
 ·rw[show(a==-1)=false from beq_eq_false_iff_ne.mpr ha]
  by_cases hb:b=-1
  ·subst hb;rw[if_pos (.inr rfl)];rfl
  ·rw[show(b==-1)=false from beq_eq_false_iff_ne.mpr hb,if_neg (fun h=>h.elim ha hb)];rfl
theorem Eu (lo hi:Int):F6 lo hi=if hi=-1 then max lo 1 else hi:=by
 unfold F6
 by_cases h:hi=-1
 ·subst h;rw[if_pos rfl];rfl
 ·rw[show(hi==-1)=false from beq_eq_false_iff_ne.mpr h,if_neg h];rfl
theorem Df {t:T} (h:t.isSign=true):t.D6=false:=by
 induction t using T.casesOn with
 | leaf o f=>rfl
 | lit r f=>rfl
 | cls g f=>rfl
 | _=>exact ft h
theorem Rp.nL {t:T} {s:Sg} (h:Rp t s):t.D6=!t.isSign:=by
 rcases h.e with⟨a,_⟩ |⟨a,b,_⟩
 ·rw[a,Df a];rfl
 ·rw[a,b];rfl
noncomputable def fM (n:Nat) (lo hi:Int):Nat:=if hi=-1 then n else hi.toNat-lo.toNat
theorem JN (n:Nat) (lo hi:Int):AD n lo hi (fM n lo hi):=by
 unfold fM
 by_cases h:hi=-1
 ·rw[if_pos h];exact .inl ⟨h,g7 n⟩
 ·rw[if_neg h];exact .inr ⟨h,rfl⟩
theorem ZP {lo hi:Int} (l:0<=lo) (b:lo<=hi):∃ a c:Nat,lo=a/\hi=((a+c:Nat):Int):=by
 obtain⟨a,rfl⟩:=PJ l
 obtain⟨c,e⟩:=PJ (Int.sub_nonneg_of_le b)
 exact⟨a,c,rfl,(Int.sub_eq_iff_eq_add'.mp e).trans (EK a c).symm⟩
theorem YK {n:Nat} {lo hi lo' hi':Int} (l1:0<=lo) (l2:0<=lo') (b1:hi=-1∨lo<=hi) (b2:hi'=-1∨lo'<=hi'):AD n (lo+lo') (I1 hi hi') (fM n lo hi+fM n lo' hi'):=by
 rw[uP]
 unfold fM
 by_cases c1:hi=-1
 ·rw[if_pos (.inl c1),if_pos c1];exact .inl ⟨rfl,H9 _ _⟩
 ·by_cases c2:hi'=-1
  ·rw[if_pos (.inr c2),if_pos c2];exact .inl ⟨rfl,bS _ _⟩
  ·rw[if_neg (fun h=>h.elim c1 c2),if_neg c1,if_neg c2]
   obtain⟨a,c,rfl,rfl⟩:=ZP l1 (b1.resolve_left c1)
   obtain⟨a',c',rfl,rfl⟩:=ZP l2 (b2.resolve_left c2)
   refine .inr ⟨(fun e=>by cases e),?_⟩
   show a+c-a+(a'+c'-a')=a+c+(a'+c')-(a+a')
   rw[cZ,cZ,Nat.add_add_add_comm,cZ]
theorem wU {lo hi:Int}:lo<=max (max lo hi) 1/\hi<=max (max lo hi) 1/\1<=max (max lo hi) 1:=⟨o9 (jC _ _) (jC _ _),o9 (cT _ _) (jC _ _),cT _ _⟩
theorem YJ (a b:Int):I1 a b=-1∨(a≠-1/\b≠-1/\I1 a b=a+b):=by
 rw[uP]
 by_cases h:a=-1∨b=-1
 ·exact .inl (if_pos h)
 ·exact .inr ⟨fun e=>h (.inl e),fun e=>h (.inr e),if_neg h⟩
section
variable {lo hi lo' hi':Int}
theorem JF:max (max (lo+lo') (I1 hi hi')) 1<=max (max lo hi) 1+max (max lo' hi') 1:=by
 obtain⟨a1,a2,a3⟩:=@wU lo hi
 obtain⟨b1,b2,b3⟩:=@wU lo' hi'
 have h1:(1:Int)<=max (max lo hi) 1+max (max lo' hi') 1:=o9 a3 (EG (o9 (by decide) b3))
 refine sP.mpr ⟨sP.mpr ⟨eW a1 b1,?_⟩,h1⟩
 rcases YJ hi hi' with e |⟨_,_,e⟩
 ·rw[e];exact o9 (by decide) h1
 ·rw[e];exact eW a2 b2
theorem YH (l1:0<=lo) (l2:0<=lo') (b1:hi=-1∨lo<=hi) (b2:hi'=-1∨lo'<=hi') (h:max (max lo hi) 1+max (max lo' hi') 1<=1000):0<=lo+lo'/\lo+lo'<=1000/\(I1 hi hi'=-1∨lo+lo'<=I1 hi hi')/\I1 hi hi'<=1000/\-1<=I1 hi hi':=by
 have w:=@JF lo hi lo' hi'
 obtain⟨a1,a2,_⟩:=@wU (lo+lo') (I1 hi hi')
 have h0:=EF l1 l2
 have hj:I1 hi hi'=-1∨lo+lo'<=I1 hi hi':=(YJ hi hi').imp id fun Ys=>by obtain⟨c1,c2,e⟩:=Ys;rw[e];exact eW (b1.resolve_left c1) (b2.resolve_left c2)
 refine⟨h0,o9 a1 (o9 w h),hj,o9 a2 (o9 w h),?_⟩
 rcases hj with e | e
 ·rw[e];exact z0 _
 ·exact o9 (by decide) (o9 h0 e)
theorem CO (lo:Int) {hi:Int} (h:hi≠-1):F6 lo hi=hi:=by rw[Eu,if_neg h]
theorem Et (l1:0<=lo) (b1:hi=-1∨lo<=hi):lo<=F6 lo hi:=by
 rcases b1 with rfl | b1
 ·exact jC _ _
 ·rw[CO lo (fun e=>absurd (o9 l1 b1) (by rw[e];decide))];exact b1
theorem YI (l1:0<=lo) (l2:0<=lo') (b1:hi=-1∨lo<=hi) (b2:hi'=-1∨lo'<=hi'):F6 (lo+lo') (I1 hi hi')<=F6 lo hi+F6 lo' hi':=by
 have g1:=Et l1 b1
 have g2:=Et l2 b2
 by_cases c1:hi=-1
 ·have e:I1 hi hi'=-1:=by rw[uP];exact if_pos (.inl c1)
  have h:1<=F6 lo hi:=by rw[c1];exact cT _ _
  rw[e]
  exact sP.mpr ⟨eW g1 g2,o9 h (EG (o9 l2 g2))⟩
 ·by_cases c2:hi'=-1
  ·have e:I1 hi hi'=-1:=by rw[uP];exact if_pos (.inr c2)
   have h:1<=F6 lo' hi':=by rw[c2];exact cT _ _
   rw[e]
   exact sP.mpr ⟨eW g1 g2,o9 h (Int.le_add_of_nonneg_left (o9 l1 g1))⟩
  ·have e:I1 hi hi'=hi+hi':=by rw[uP];exact if_neg fun h=>h.elim c1 c2
   have n:hi+hi'≠-1:=fun q=>absurd (o9 (EF l1 l2) (eW (b1.resolve_left c1) (b2.resolve_left c2))) (by rw[q];decide)
   rw[e,CO _ n,CO _ c1,CO _ c2]
   exact z0 _
end
theorem Rp.Er {t:T} {s:Sg} (h:Rp t s) (hp:k9 (P1 la) t) (hs:t.I4=some s):k9 (P1 la) s.t:=by
 rcases h.e with⟨_,e⟩ |⟨a,b,_⟩
 ·rw[<-e];exact hp
 ·obtain⟨s',e,_⟩:=BW a
  have:s'=s:=by
   have q:t.subs.head?.bind T.sg=some s:=by unfold T.I4 at hs;rw[b,a] at hs;exact hs
   rw[e] at q
   have q:s'.t.sg=some s:=q
   rw[Sg.sg] at q
   injection q
  subst this
  exact hp.sub (by rw[e];exact j5.mpr rfl)
theorem Ck {s:Sg} {lo hi:Int} {f:Fg} (hs:k9 (P1 la) s.t) (h1:0<=lo) (h2:lo<=1000) (h3:hi=-1∨lo<=hi) (h4:hi<=1000) (hh:2<=h0) (hn:1<=n0):N2 la h0 n0 (.rep lo hi s.t f):=by
 refine⟨.mk ⟨fun lo' hi' s' f' e=>?_,fun g f e=>by cases e⟩ fun x hx=>?_,?_,?_⟩
 ·injection e with e1 e2 _ _;subst e1 e2;exact⟨h1,h2,h3,h4⟩
 ·cases j5.mp hx;exact hs
 ·show s.t.h+1<=h0;rw[(nO s).2];exact hh
 ·show most [s.t.read.nest]+1<=n0
  have:s.t.read.nest=0:=by induction s using Sg.casesOn with
   | any b f=>induction b using Bool.casesOn<;>rfl
   | _=>rfl
  rw[this];exact hn
theorem Rp.low {t:T} {s:Sg} (h:Rp t s) (e:N2 la h0 n0 t) (hr:t.D6=true):2<=h0/\1<=n0:=by
 rcases h.e with⟨a,_⟩ |⟨_,_,er,_,eh⟩
 ·rw[Df a] at hr;exact ft hr
 ·refine⟨by rw[<-eh];exact e.h,?_⟩
  have:=e.n
  rw[er] at this
  have h2:most [s.t.read.nest]+1<=n0:=this
  have:(0:Int)<=most [s.t.read.nest]:=by
   have:s.t.read.nest=0:=by induction s using Sg.casesOn with
    | any b f=>induction b using Bool.casesOn<;>rfl
    | _=>rfl
   rw[this];decide
  lia
theorem Vu {lo hi:Int} {z:Bool} {x:N} (l:0<=lo) (b:hi=-1∨lo<=hi) (h:max (max lo hi) 1<=1000) (g:x.good):(N.times lo hi z x).good:=by
 obtain⟨a1,a2,_⟩:=@wU lo hi
 refine⟨l,o9 a1 h,?_,o9 a2 h,g⟩
 rcases b with e | e
 ·rw[e];exact z0 _
 ·exact o9 (by decide) (o9 l e)
theorem sum2 (a b:Int):[a,b].sum=a+b:=by rw[u0,u0,N6,aI]
theorem Su {one other:T} (hc:G4 one other=true) (hs:other.isStr=false) (E1:N2 la h0 n0 one) (E2:N2 la h0 n0 other) (gV:one.read.load+other.read.load<=1000):KL text m la h0 n0 [one,other] (bB one other):=by
 unfold G4 at hc
 rw[hs] at hc
 cases e1:one.I4 with
 | none=>rw[e1] at hc;revert hc;cases !one.D6&&!other.D6<;>exact fun h=>nomatch h
 | some a=>
 cases e2:other.I4 with
 | none=>rw[e1,e2] at hc;revert hc;cases !one.D6&&!other.D6<;>exact fun h=>nomatch h
 | some b=>
 rw[e1,e2] at hc
 have hc:(bif !one.D6&&!other.D6 then false else bif V3 a b then one.isSign||(other.isSign||one.fg.lazy==other.fg.lazy) else false)=true:=hc
 have R1:=Rp.of e1 E1.p.here.1
 have R2:=Rp.of e2 E2.p.here.1
 rw[R1.nL,R2.nL] at hc
 have hq:(one.isSign=false∨other.isSign=false)/\V3 a b=true/\(one.isSign=true∨other.isSign=true∨one.fg.lazy=other.fg.lazy):=by
  revert hc
  cases one.isSign<;>cases other.isSign<;>cases V3 a b<;>simp
 obtain⟨q1,q2,q3⟩:=hq
 let f:=nA one other
 have jf:f=bif one.D6 then one.fg else other.fg:=rfl
 have z1:one.isSign=false->f.lazy=one.fg.lazy:=fun h=>by rw[jf,R1.nL,h];rfl
 have z2:other.isSign=false->f.lazy=other.fg.lazy:=fun h=>by
  rw[jf,R1.nL]
  cases h1:one.isSign with
  | true=>rfl
  | false=>
   rcases q3 with c | c | c
   ·rw[h1] at c;exact ft c
   ·rw[h] at c;exact ft c
   ·exact c
 have hlow:2<=h0/\1<=n0:=by
  rcases q1 with c | c
  ·exact R1.low E1 (by rw[R1.nL,c];rfl)
  ·exact R2.low E2 (by rw[R2.nL,c];rfl)
 have jT:bB one other=[.rep (one.bnd.1+other.bnd.1) (I1 one.bnd.2 other.bnd.2) a.t f]:=by
  unfold bB
  rw[e1]
  show joined a one other=_
  unfold joined uQ joinRest bA
  rw[hs];rfl
 rw[R1.load,R2.load] at gV
 have l1:=R1.l
 have l2:=R2.l
 have b1:=R1.b
 have b2:=R2.b
 have hb:=YH l1 l2 b1 b2 gV
 rw[jT]
 refine⟨⟨⟨hb.1,hb.2.1,hb.2.2.2.2,hb.2.2.2.1,a.good⟩,trivial⟩,⟨⟨fun ζ=>a.hy,a.su⟩,trivial⟩,fun p hp=>?_,?_,?_,?_,fun t ht=>?_⟩
 ·let n:=text.length
  let k1:=fM n one.bnd.1 one.bnd.2
  let k2:=fM n other.bnd.1 other.bnd.2
  have eb:VT text m b.t=VT text m a.t:=by unfold VT;rw[Sg.eq q2]
  have ho:Ok text.length (VT text m a.t):=a.sn.ok
  have v1:Sm (VT text m one p) (Lake.rg (VT text m a.t) f.lazy one.bnd.1.toNat k1 p):=R1.rg (z:=f.lazy) z1 (JN n _ _) hp
  have v2 (q:Nat) (hq:q<=text.length):Sm (VT text m other q) (Lake.rg (VT text m a.t) f.lazy other.bnd.1.toNat k2 q):=by
   have:=R2.rg (text:=text) (m:=m) (z:=f.lazy) z2 (JN n _ _) hq
   rw[eb] at this;exact this
  have rok:∀ w,w∈Lake.rg (VT text m a.t) f.lazy one.bnd.1.toNat k1 p->w.1<=text.length:=fun w hw=>by
   have h1:=(v1.ends w.1).mpr (j4.mpr ⟨w,hw,rfl⟩)
   obtain⟨v,hv,e⟩:=j4.mp h1
   rw[<-e]
   rcases R1.e with⟨_,eo⟩ |⟨_,_,eo,_⟩
   ·exact(N.F9 (text:=text) (m:=m) (x:=one.read) (by rw[eo];exact a.good) p hp v hv).2
   ·exact(N.F9 (text:=text) (m:=m) (x:=one.read) (by rw[eo];exact Vu l1 b1 (o9 (EG (o9 (by decide) wU.2.2)) gV) a.good) p hp v hv).2
  show Sm (sq (VT text m one p) fun q=>sq (VT text m other q) one') (sq _ one')
  rw[O6,show(fun q=>sq (VT text m other q) one')=VT text m other from funext fun q=>O6 _]
  refine(v1.O5 _).trans ((Sm.G2 fun w hw=>v2 w.1 (rok w hw)).trans ((a.sn.rg f.lazy _ k1 _ k2 hp).trans ?_))
  have v3:=NC (text:=text) (m:=m) a.good a.sn (lo:=one.bnd.1+other.bnd.1) (hi:=I1 one.bnd.2 other.bnd.2) (z:=f.lazy) (k:=k1+k2) hb.1 hb.2.2.1 (YK l1 l2 b1 b2) hp
  rw[PN l1 l2] at v3
  exact v3.symm
 ·show [(N.times _ _ f.lazy a.t.read).many].sum<=[one.read.many,other.read.many].sum
  rw[sum2,u0,N6,aI,W9,a.many,R1.many,R2.many,eX]
  exact YI l1 l2 b1 b2
 ·show [(N.times _ _ f.lazy a.t.read).load].sum<=[one.read.load,other.read.load].sum
  rw[sum2,u0,N6,aI,iB,a.load,R1.load,R2.load,eX]
  exact JF
 ·show a.t.size+1+0<=one.size+(other.size+0)
  rw[(nO a).1]
  have p1:=T.dW one
  have p2:=T.dW other
  lia
 ·cases j5.mp ht
  exact Ck (R1.Er E1.p e1) hb.1 hb.2.1 hb.2.2.1 hb.2.2.2.1 hlow.1 hlow.2
end
end
section
section
variable {text:List Int} {m la:Bool} {h0:Nat} {n0:Int}
noncomputable def cJ (rest:List Int) (g:Fg):List T:=List.casesOn rest [] fun ζ ζ=>[aB rest g]
theorem aH2 (rs:List Int) (g:Fg) (hh:1<=h0) (hn:0<=n0):N2 la h0 n0 (aB rs g):=by
 have fin (t:T) (h1:t.subs=[]) (h2:t.h<=1) (h3:t.read.nest=0) (h4:P1 la t):N2 la h0 n0 t:=⟨.mk h4 (fun s hs=>by rw[h1] at hs;cases hs),k6 h2 hh,by rw[h3];exact hn⟩
 match rs with
 | []=>exact fin _ rfl (g7 1) rfl ⟨(fun ζ ζ ζ ζ e=>by cases e),(fun ζ ζ e=>by cases e)⟩
 | [r]=>exact fin _ rfl (g7 1) rfl ⟨(fun ζ ζ ζ ζ e=>by cases e),(fun ζ ζ e=>by cases e)⟩
 | a::b::l=>exact fin _ rfl (g7 1) rfl ⟨(fun ζ ζ ζ ζ e=>by cases e),(fun ζ ζ e=>by cases e)⟩
theorem aH0 (rs:List Int) (g:Fg):(aB rs g).read.good/\(aB rs g).read.su text m/\(aB rs g).read.many=rs.length/\(aB rs g).read.load=max 1 (rs.length:Int)/\(aB rs g).size=1:=by
 match rs with
 | []=>exact⟨trivial,trivial,rfl,rfl,rfl⟩
 | [r]=>exact⟨trivial,trivial,rfl,rfl,rfl⟩
 | a::b::l=>exact⟨trivial,trivial,rfl,rfl,rfl⟩
theorem aA1 (rest:List Int) (g:Fg) (p:Nat):C0 ((cJ rest g).map (VT text m)) p=(N.text rest g.fold).V text m p:=by
 induction rest using List.casesOn with
 | nil=>exact(MU g.fold p).symm
 | cons a l=>show C0 [VT text m (aB (a::l) g)] p=_;rw[CC,aH1]
theorem Sv {one:T} {rs:List Int} {g:Fg} (hc:G4 one (.str rs g)=true) (E1:N2 la h0 n0 one) (gV:one.read.load+max 1 (rs.length:Int)<=1000):KL text m la h0 n0 [one,.str rs g] (bB one (.str rs g)):=by
 have hc:(bif one.D6 then Option.casesOn one.I4 false fun a=>decide ((taken a rs g:Int)>0) else false)=true:=hc
 cases e0:one.D6 with
 | false=>rw[e0] at hc;exact ft hc
 | true=>
 cases e1:one.I4 with
 | none=>rw[e0,e1] at hc;exact ft hc
 | some s=>
 rw[e0,e1] at hc
 have hk:0<taken s rs g:=by
  have:decide ((taken s rs g:Int)>0)=true:=hc
  have:=of_decide_eq_true this
  omega
 obtain⟨r,f0,es,ef,er⟩:=aH9 hk
 let k:=taken s rs g
 let rest:=rs.drop k
 have R1:=Rp.of e1 E1.p.here.1
 have hlow:=R1.low E1 e0
 have hns:one.isSign=false:=by have:=R1.nL;rw[e0] at this;revert this;cases one.isSign<;>simp
 let f:=nA one (.str rs g)
 have jf:f=one.fg:=by show(bif one.D6 then one.fg else _)=_;rw[e0];rfl
 have jT:bB one (.str rs g)=.rep (one.bnd.1+(k:Nat)) (I1 one.bnd.2 (k:Nat)) s.t f::cJ rest g:=by
  unfold bB
  rw[e1];rfl
 rw[R1.load] at gV
 have l1:=R1.l
 have b1:=R1.b
 have IT:k+rest.length=rs.length:=by
  have:rest.length=rs.length-k:=cW
  have:=Ep s rs g
  lia
 have hk1:(1:Int)<=(k:Nat):=PM.mpr hk
 have wk:max (max ((k:Nat):Int) ((k:Nat):Int)) 1=(k:Nat):=by rw[Int.max_self,EI hk1]
 have wr:((k:Nat):Int)<=max 1 (rs.length:Int):=o9 (PM.mpr (IT▸H9 k _)) (cT _ _)
 have hb:=YH (lo':=(k:Nat)) (hi':=(k:Nat)) l1 (gG k) b1 (.inr (z0 _)) (by rw[wk];exact o9 (PF wr _) gV)
 have vW:N.A3 (T.reads (cJ rest g))/\N.I5 text m (T.reads (cJ rest g))/\(N.y9 (T.reads (cJ rest g))).sum=rest.length/\(N.n8 (T.reads (cJ rest g))).sum=rest.length/\T.sizes (cJ rest g)<=1:=by
  cases er2:rest with
  | nil=>exact⟨trivial,trivial,rfl,rfl,v7 _⟩
  | cons a l=>
   obtain⟨q1,q2,q3,q4,q5⟩:=aH0 (text:=text) (m:=m) (a::l) g
   refine⟨⟨q1,trivial⟩,⟨q2,trivial⟩,?_,?_,?_⟩
   ·show [(aB (a::l) g).read.many].sum=_;rw[u0,N6,aI,q3]
   ·show [(aB (a::l) g).read.load].sum=_;rw[u0,N6,aI,q4,eY];lia
   ·show(aB (a::l) g).size+0<=1;rw[q5];exact g7 _
 refine jT▸?_
 refine⟨⟨⟨hb.1,hb.2.1,hb.2.2.2.2,hb.2.2.2.1,s.good⟩,vW.1⟩,⟨⟨fun ζ=>s.hy,s.su⟩,vW.2.1⟩,fun p hp=>?_,?_,?_,?_,fun t ht=>?_⟩
 ·let n:=text.length
  let k1:=fM n one.bnd.1 one.bnd.2
  have v1:Sm (VT text m one p) (Lake.rg (VT text m s.t) f.lazy one.bnd.1.toNat k1 p):=R1.rg (z:=f.lazy) (fun ζ=>by rw[jf]) (JN n _ _) hp
  have ef:(N.text [r] g.fold).V text m=VT text m s.t:=by rw[es,<-ef];rfl
  have v2:VT text m (.str rs g)=fun q=>sq (Lake.rg (VT text m s.t) f.lazy k 0 q) ((N.text rest g.fold).V text m):=by
   funext q
   show(N.text rs g.fold).V text m q=_
   have e2:rs=List.replicate k r++rest:=er
   rw[e2,aF6,ef]
   show _=sq (sq (Lake.pow _ k q) one') _
   rw[O6]
  show Sm (sq (VT text m one p) fun q=>sq (VT text m (.str rs g) q) one') (sq (VT text m (.rep (one.bnd.1+(k:Nat)) (I1 one.bnd.2 (k:Nat)) s.t f) p) fun q=>C0 ((cJ rest g).map (VT text m)) q)
  rw[show(fun q=>sq (VT text m (.str rs g) q) one')=VT text m (.str rs g) from funext fun q=>O6 _,v2,show(fun q=>C0 ((cJ rest g).map (VT text m)) q)=(N.text rest g.fold).V text m from funext fun q=>aA1 rest g q,<-V4]
  refine Sm.O5 ?_ _
  refine(v1.O5 _).trans ((s.sn.rg f.lazy _ k1 _ 0 hp).trans ?_)
  have ka:=YK (n:=n) l1 (lo':=(k:Nat)) (hi':=(k:Nat)) (gG k) b1 (.inr (z0 _))
  rw[show fM n (k:Nat) (k:Nat)=0 by unfold fM;rw[if_neg (fun e=>by cases e)];exact lZ _] at ka
  have v3:=NC (text:=text) (m:=m) s.good s.sn (lo:=one.bnd.1+(k:Nat)) (hi:=I1 one.bnd.2 (k:Nat)) (z:=f.lazy) (k:=k1+0) hb.1 hb.2.2.1 ka hp
  rw[PN l1 (gG k)] at v3
  exact v3.symm
 ·show((N.times _ _ f.lazy s.t.read).many::N.y9 (T.reads (cJ rest g))).sum<=[one.read.many,((rs.length:Nat):Int)].sum
  rw[sum2,u0,vW.2.2.1,W9,s.many,R1.many,eX]
  have h:=YI (lo':=(k:Nat)) (hi':=(k:Nat)) l1 (gG k) b1 (.inr (z0 _))
  have e:F6 ((k:Nat):Int) ((k:Nat):Int)=(k:Nat):=rfl
  rw[e] at h
  rw[<-IT,EK,<-sN]
  exact PG h _
 ·show((N.times _ _ f.lazy s.t.read).load::N.n8 (T.reads (cJ rest g))).sum<=[one.read.load,max 1 ((rs.length:Nat):Int)].sum
  rw[sum2,u0,vW.2.2.2.1,iB,s.load,R1.load,eX]
  have h:=@JF one.bnd.1 one.bnd.2 (k:Nat) (k:Nat)
  rw[wk] at h
  refine o9 (PG h _) ?_
  rw[sN,<-EK,IT]
  exact PF (cT _ _) _
 ·show s.t.size+1+T.sizes (cJ rest g)<=one.size+(1+0)
  rw[(nO s).1]
  rcases R1.e with⟨q,_⟩ |⟨_,_,_,q,_⟩
  ·rw[hns] at q;exact ft q
  ·have:=vW.2.2.2.2;lia
 ·rcases v5.mp ht with rfl | ht
  ·exact Ck (R1.Er E1.p e1) hb.1 hb.2.1 hb.2.2.1 hb.2.2.2.1 hlow.1 hlow.2
  ·revert ht
   induction rest using List.casesOn with
   | nil=>exact fun h=>nomatch h
   | cons a l=>exact fun h=>by cases j5.mp h;exact aH2 _ _ (by lia) (by lia)
theorem Sx {one other:T} (hc:G4 one other=true) (E1:N2 la h0 n0 one) (E2:N2 la h0 n0 other) (gV:one.read.load+other.read.load<=1000):KL text m la h0 n0 [one,other] (bB one other):=by
 cases hs:other.isStr with
 | false=>exact Su hc hs E1 E2 gV
 | true=>
  obtain⟨rs,g,rfl⟩:=isStr_of hs
  exact Sv hc E1 gV
end
end
section
theorem Pg (n:Int):∀(l:List Int) (a:Int),a<=n->(∀ x,x∈l->x<=n)->l.foldl max a<=n:=by
 intro b7
 induction b7 with
 | nil=>intro a h _;exact h
 | cons x l ih=>intro a h hl;exact ih (max a x) (by have:=hl x f9;lia) fun y hy=>hl y (l6 _ hy)
theorem WQ:∀(l:List Int) (a:Int),a<=l.foldl max a:=by
 intro b7
 induction b7 with
 | nil=>intro a;exact z0 a
 | cons x l ih=>intro a;exact o9 (by lia:a<=max a x) (ih (max a x))
theorem Ph:∀(l:List Int) (a x:Int),x∈l->x<=l.foldl max a:=by
 intro b7
 induction b7 with
 | nil=>intro b8 b9 e8;first | exact nomatch e8 | exact nomatch b9 | exact nomatch b8 | cases e8 | cases b9 | cases b8
 | cons y l IH=>
  intro a x h
  rcases v5.mp h with rfl | h
  ·exact o9 (by lia:x<=max a x) (WQ l (max a x))
  ·exact IH _ x h
theorem vE {l:List Int} {n:Int} (h0:0<=n) (h:∀ x,x∈l->x<=n):most l<=n:=Pg n l 0 h0 h
theorem fQ (l:List Int):0<=most l:=WQ l 0
theorem vF {l:List Int} {x:Int} (h:x∈l):x<=most l:=Ph l 0 x h
section
variable {text:List Int} {m la:Bool} {h0:Nat} {n0:Int}
theorem N2.up {h1:Nat} {n1:Int} {t:T} (h:N2 la h0 n0 t) (a:h0<=h1) (b:n0<=n1):N2 la h1 n1 t:=⟨h.p,k6 h.h a,o9 h.n b⟩
theorem nC:∀(a b:List N),(N.n8 (a++b)).sum=(N.n8 a).sum+(N.n8 b).sum:=by
 intro b7
 induction b7 with
 | nil=>intro b;exact(EM _).symm
 | cons x a ih=>
  intro b
  show(x.load::N.n8 (a++b)).sum=(x.load::N.n8 a).sum+_
  rw[u0,u0,ih b,sN]
theorem XA:∀{a b:List N},N.A3 (a++b)->N.A3 a:=by
 intro b7
 induction b7 with
 | nil=>intro _ _;exact trivial
 | cons _ _ ih=>intro _ h;exact⟨h.1,ih h.2⟩
theorem zL:∀{a b:List N},N.A3 (a++b)->N.A3 b:=by
 intro b7
 induction b7 with
 | nil=>intro _ h;exact h
 | cons _ _ ih=>intro _ h;exact ih h.2
theorem aG0:∀{a b:List N},N.I5 text m (a++b)->N.I5 text m a:=by
 intro b7
 induction b7 with
 | nil=>intro _ _;exact trivial
 | cons _ _ ih=>intro _ h;exact⟨h.1,ih h.2⟩
theorem Ec:∀{a b:List N},N.I5 text m (a++b)->N.I5 text m b:=by
 intro b7
 induction b7 with
 | nil=>intro _ h;exact h
 | cons _ _ ih=>intro _ h;exact ih h.2
mutual
theorem N.P9:∀ x:N,x.good->1<=x.load
 | .text rs _,_=>by show 1<=max 1 (rs.length:Int);lia
 | .set _,_=>z0 1
 | .place _,_=>z0 1
 | .times lo hi z s,h=>by
  refine iB▸?_
  have h1:=N.P9 s h.2.2.2.2
  have h2:1<=max (max lo hi) 1:=by lia
  calc (1:Int)=1*1:=rfl
   _<=s.load*max (max lo hi) 1:=Int.mul_le_mul h1 h2 (by decide) (by lia)
 | .group _ _ s,h=>by show 1<=max 1 _;lia
 | .row l,h=>by show 1<=max 1 _;lia
 | .choice l,h=>by show 1<=max 1 _;lia
theorem N.jY:∀ l:List N,N.A3 l->0<=(N.n8 l).sum:=by
 intro b7
 induction b7 with
 | nil=>intro _;exact z0 0
 | cons x l ih=>
  intro h
  show 0<=(x.load::N.n8 l).sum
  rw[u0]
  have:=N.P9 x h.1
  have:=ih h.2
  lia
end
theorem aE6:∀{l:List T},N.A3 (T.reads l)->Ok text.length (C0 (l.map (VT text m))):=by
 intro b7
 induction b7 with
 | nil=>intro _ p hp w hw;cases j5.mp hw;exact⟨g7 p,hp⟩
 | cons t l ih=>
  intro h p hp w hw
  obtain⟨v,hv,hw⟩:=cY.mp hw
  obtain⟨z,hz,rfl⟩:=j4.mp hw
  have a:=N.F9 (text:=text) (m:=m) h.1 p hp v hv
  have b:=ih h.2 v.1 a.2 z hz
  exact⟨k6 a.1 b.1,b.2⟩
theorem KL.trans {l k j:List T} (a:KL text m la h0 n0 l k) (b:KL text m la h0 n0 k j):KL text m la h0 n0 l j:=
 ⟨b.g,b.s,fun p hp=>(a.a p hp).trans (b.a p hp),o9 b.n a.n,o9 b.ld a.ld,k6 b.sz a.sz,b.e⟩
structure bN (text:List Int) (m la:Bool) (h0:Nat) (n0:Int) (l:List T):Prop where
 g:N.A3 (T.reads l)
 s:N.I5 text m (T.reads l)
 ld:(N.n8 (T.reads l)).sum<=1000
 e:∀ t,t∈l->N2 la h0 n0 t
theorem KL.refl {l:List T} (h:bN text m la h0 n0 l):KL text m la h0 n0 l l:=⟨h.g,h.s,fun ζ ζ=>Sm.rfl',z0 _,z0 _,g7 _,h.e⟩
theorem KL.pre {l k:List T} (h:bN text m la h0 n0 l) (a:KL text m la h0 n0 l k):bN text m la h0 n0 k:=⟨a.g,a.s,o9 a.ld h.ld,a.e⟩
theorem KL.frame {A R a b:List T} (h:bN text m la h0 n0 (A++(a++R))) (k:KL text m la h0 n0 a b):KL text m la h0 n0 (A++(a++R)) (A++(b++R)):=by
 have hg:=h.g
 have hs:=h.s
 rw[K6,K6] at hg hs
 have gA:=XA hg
 have gR:=zL (zL hg)
 refine⟨?_,?_,fun p hp=>?_,?_,?_,?_,fun t ht=>?_⟩
 ·rw[K6,K6];exact zK gA (zK k.g gR)
 ·rw[K6,K6];exact CF (aG0 hs) (CF k.s (Ec (Ec hs)))
 ·rw[o4,o4,o4,o4,rH,rH]
  refine Sm.G2 fun w hw=>?_
  have:=(aE6 (text:=text) (m:=m) gA p hp w hw).2
  rw[rH,rH]
  exact(k.a w.1 this).O5 _
 ·rw[K6,K6,K6,K6,qH,qH,qH,qH]
  have:=k.n;lia
 ·rw[K6,K6,K6,K6,nC,nC,nC,nC]
  have:=k.ld;lia
 ·rw[T.cL,T.cL,T.cL,T.cL]
  have:=k.sz;lia
 ·rcases n7.mp ht with ht | ht
  ·exact h.e t (n7.mpr (.inl ht))
  ·rcases n7.mp ht with ht | ht
   ·exact k.e t ht
   ·exact h.e t (n7.mpr (.inr (n7.mpr (.inr ht))))
theorem Ug {A R:List T} {x t:T} (h:bN text m la h0 n0 (A++([x,t]++R))):x.read.load+t.read.load<=1000:=by
 have hl:=h.ld
 have hg:=h.g
 rw[K6,K6] at hl hg
 rw[nC,nC] at hl
 have e:(N.n8 (T.reads [x,t])).sum=x.read.load+t.read.load:=sum2 _ _
 have:=N.jY _ (XA hg)
 have:=N.jY _ (zL (zL hg))
 lia
theorem zH:∀(rest:List T) (acc:List T×Bool),bN text m la h0 n0 (acc.1++rest)->KL text m la h0 n0 (acc.1++rest) (rest.foldl V1 acc).1
 | [],acc,h=>by rw[u9] at h ⊢;exact KL.refl h
 | t::rest,(l,jn),h=>by
  rw[PT]
  rcases qM l with rfl |⟨l',x,rfl⟩
  ·exact zH rest ([t],jn) h
  ·rw[JG]
   cases hc:G4 x t with
   | false=>
    have e:(l'++[x])++t::rest=(l'++[x]++[t])++rest:=by simp only[D9,EO,W2]
    show KL text m la h0 n0 ((l'++[x])++t::rest) _
    have h':bN text m la h0 n0 ((l'++[x]++[t])++rest):=by rw[<-e];exact h
    refine e▸?_
    exact zH rest (l'++[x]++[t],jn) h'
   | true=>
    have e:(l'++[x])++t::rest=l'++([x,t]++rest):=by simp only[D9,EO,W2]
    have h':bN text m la h0 n0 (l'++([x,t]++rest)):=by rw[<-e];exact h
    have k1:=KL.frame h' (Sx hc (h'.e x (by simp)) (h'.e t (by simp)) (Ug h'))
    have e2:l'++(bB x t++rest)=(l'++bB x t)++rest:=(D9 _ _ _).symm
    rw[e2] at k1
    show KL text m la h0 n0 ((l'++[x])++t::rest) _
    refine e▸?_
    exact k1.trans (zH rest (l'++bB x t,true) (k1.pre h'))
theorem Ov {l:List T} (h:bN text m la h0 n0 l):KL text m la h0 n0 l (l.filter fun t=>!t.B4):=by
 induction l with
 | nil=>exact KL.refl h
 | cons t l ih=>
  have hl:0<=(N.n8 (T.reads l)).sum:=N.jY _ h.g.2
  have ht:=N.P9 _ h.g.1
  have hs:(N.n8 (T.reads (t::l))).sum=t.read.load+(N.n8 (T.reads l)).sum:=u0
  have hp:bN text m la h0 n0 l:=⟨h.g.2,h.s.2,by have:=h.ld;lia,fun s hs=>h.e s (l6 _ hs)⟩
  have k:=ih hp
  have hm:(N.y9 (T.reads (t::l))).sum=t.read.many+(N.y9 (T.reads l)).sum:=u0
  refine ES▸?_
  cases he:t.B4 with
  | true=>
   obtain⟨f,rfl⟩:=JC he
   refine⟨k.g,k.s,fun p hp=>?_,?_,?_,?_,k.e⟩
   ·refine Sm.trans (Sm.of ?_) (k.a p hp)
    show sq (VT text m (.leaf .empty f) p) _=_
    rw[oE hp,E8]
   ·rw[hm];have:=k.n;show(N.y9 (T.reads (l.filter fun t=>!t.B4))).sum<=0+_;lia
   ·rw[hs];have:=k.ld;show(N.n8 (T.reads (l.filter fun t=>!t.B4))).sum<=_;lia
   ·have:=k.sz;show T.sizes (l.filter fun t=>!t.B4)<=1+T.sizes l;lia
  | false=>
   generalize hl2:(l.filter fun t=>!t.B4)=l2 at k
   show KL text m la h0 n0 (t::l) (t::l2)
   have hs2:(N.n8 (T.reads (t::l2))).sum=t.read.load+(N.n8 (T.reads l2)).sum:=u0
   have hm2:(N.y9 (T.reads (t::l2))).sum=t.read.many+(N.y9 (T.reads l2)).sum:=u0
   refine⟨⟨h.g.1,k.g⟩,⟨h.s.1,k.s⟩,fun p hp=>?_,?_,?_,?_,fun s hs=>?_⟩
   ·exact Sm.G2 fun w hw=>k.a w.1 (N.F9 h.g.1 p hp w hw).2
   ·rw[hm,hm2];have:=k.n;lia
   ·rw[hs,hs2];have:=k.ld;lia
   ·have:=k.sz;show t.size+T.sizes l2<=t.size+T.sizes l;lia
   ·rcases v5.mp hs with rfl | hs
    ·exact h.e _ f9
    ·exact k.e s hs
theorem aA5 {l row:List T} (h:bN text m la h0 n0 l) (hr:jN l=some row):KL text m la h0 n0 l row:=by
 have k:=zH l ([],false) h
 have e:row=((l.foldl V1 ([],false)).1.filter fun t=>!t.B4):=by
  unfold jN at hr
  revert hr
  cases(l.foldl V1 ([],false)).2
  ·exact fun h=>nomatch h
  ·exact fun h=>by have h:=si h;exact h.symm
 refine e▸?_
 have k:KL text m la h0 n0 l (l.foldl V1 ([],false)).1:=k
 exact k.trans (Ov (k.pre h))
end
end
section
section
variable {text:List Int} {m la:Bool}
structure CK (text:List Int) (m la:Bool) (t u:T):Prop where
 kp:Kp text m t.read u.read
 ld:u.read.load<=t.read.load
 sz:u.size<=t.size
 e:N2 la t.h t.read.nest u
theorem CK.refl {t:T} (g:t.read.good) (s:t.read.su text m) (p:k9 (P1 la) t):CK text m la t t:=⟨Kp.refl g s,z0 _,g7 _,p,g7 _,z0 _⟩
structure lE (text:List Int) (m la:Bool) (l k:List T):Prop where
 kp:I8 text m (T.reads l) (T.reads k)
 ld:(N.n8 (T.reads k)).sum<=(N.n8 (T.reads l)).sum
 sz:T.sizes k<=T.sizes l
 e:∀ u,u∈k->N2 la (T.hs l) (most (N.O1 (T.reads l))) u
theorem KO {l:List T} {t:T} (h:t∈l):t.read.nest<=most (N.O1 (T.reads l)):=by
 refine vF ?_
 rw[N.qK,T.bL,A6]
 exact j4.mpr ⟨t,h,rfl⟩
theorem AQ {l:List T} {n:Int} (h0:0<=n) (h:∀ t,t∈l->t.read.nest<=n):most (N.O1 (T.reads l))<=n:=by
 refine vE h0 fun x hx=>?_
 rw[N.qK,T.bL,A6] at hx
 obtain⟨t,ht,rfl⟩:=j4.mp hx
 exact h t ht
theorem mW {l:List T} {n:Nat} (h:∀ t,t∈l->t.h<=n):T.hs l<=n:=by
 induction l with
 | nil=>exact v7 _
 | cons t l ih=>exact U3.mpr ⟨h t f9,ih fun s hs=>h s (l6 _ hs)⟩
theorem lE.of {F:T->T}:∀{l:List T},(∀ t,t∈l->CK text m la t (F t))->lE text m la l (l.map F)
 | [],_=>⟨.nil,z0 _,g7 _,fun ζ h=>absurd h A8⟩
 | t::l,h=>by
  have a:=h t f9
  have b:=lE.of (F:=F) fun s hs=>h s (l6 _ hs)
  refine⟨.cons a.kp b.kp,?_,?_,fun u hu=>?_⟩
  ·show((F t).read.load::N.n8 (T.reads (l.map F))).sum<=(t.read.load::N.n8 (T.reads l)).sum
   rw[u0,u0];exact eW a.ld b.ld
  ·exact QO a.sz b.sz
  ·obtain⟨s,hs,rfl⟩:=j4.mp hu
   exact(h s hs).e.up (T.aX hs) (KO hs)
theorem lE.pre {l k:List T} (h:lE text m la l k) (hl:(N.n8 (T.reads l)).sum<=1000):bN text m la (T.hs l) (most (N.O1 (T.reads l))) k:=⟨h.kp.g,h.kp.s,o9 h.ld hl,h.e⟩
theorem LI (l:List T) (f:Fg):P1 la (.cat l f):=⟨(fun ζ ζ ζ ζ e=>by cases e),(fun ζ ζ e=>by cases e)⟩
theorem Am (l:List T) (f:Fg):P1 la (.alt l f):=⟨(fun ζ ζ ζ ζ e=>by cases e),(fun ζ ζ e=>by cases e)⟩
theorem Ao (o:Lk) (s:T) (f:Fg):P1 la (.loop o s f):=⟨(fun ζ ζ ζ ζ e=>by cases e),(fun ζ ζ e=>by cases e)⟩
theorem An (c:Int) (nm:Bool) (s:T) (f:Fg):P1 la (.cap c nm s f):=⟨(fun ζ ζ ζ ζ e=>by cases e),(fun ζ ζ e=>by cases e)⟩
theorem vQ (o:Lf) (f:Fg):P1 la (.leaf o f):=⟨(fun ζ ζ ζ ζ e=>by cases e),(fun ζ ζ e=>by cases e)⟩
theorem aI0 (o:Lf) (f:Fg):k9 (P1 la) (.leaf o f):=.mk (vQ o f) fun s hs=>by cases hs
theorem aG2 {row:List T} {f:Fg} {h0:Nat} {n0:Int} (hn:0<=n0) (h:∀ t,t∈row->N2 la h0 n0 t):N2 la (h0+1) n0 (C5 row f):=by
 match row,h with
 | [],_=>exact⟨aI0 _ _,by show 1<=_;lia,hn⟩
 | [x],h=>exact(h x f9).up (J5 _) (z0 _)
 | x::y::l,h=>exact⟨.mk (LI _ _) fun s hs=>(h s hs).p,u6 (mW fun t ht=>(h t ht).h),AQ hn fun t ht=>(h t ht).n⟩
theorem aG3 {row:List T} {f:Fg} (h:N.A3 (T.reads row)):(C5 row f).read.load<=max 1 (N.n8 (T.reads row)).sum:=by
 match row,h with
 | [],_=>exact z0 _
 | [x],h=>show x.read.load<=max 1 [x.read.load].sum;rw[u0,N6];lia
 | x::y::l,h=>exact z0 _
theorem MZ {row:List T} {f:Fg}:(C5 row f).size<=T.sizes row+1:=by
 match row with
 | []=>exact g7 _
 | [x]=>show x.size<=x.size+0+1;lia
 | x::y::l=>exact g7 _
theorem Mg:∀ t:T,k9 (P1 la) t->t.read.good->t.read.su text m->t.read.load<=1000->CK text m la t t.l7:=T.aQ fun t ih hp hg hs hl=>by
 induction t using T.casesOn with
 | leaf o f=>exact CK.refl hg hs hp
 | lit r f=>exact CK.refl hg hs hp
 | str rs f=>exact CK.refl hg hs hp
 | cls g f=>exact CK.refl hg hs hp
 | cat l f=>
  have hsum:(N.n8 (T.reads l)).sum<=1000:=by have:max 1 (N.n8 (T.reads l)).sum<=1000:=hl;lia
  have sub (t:T) (ht:t∈l):CK text m la t t.l7:=by
   have h1:t.read.good:=N.fH hg (by rw[T.bL];exact j4.mpr ⟨t,ht,rfl⟩)
   have h2:t.read.su text m/\t.read.load<=(N.n8 (T.reads l)).sum:=by
    have:∀ k:List T,N.A3 (T.reads k)->N.I5 text m (T.reads k)->t∈k->t.read.su text m/\t.read.load<=(N.n8 (T.reads k)).sum:=fun k=>by
     induction k with
     | nil=>exact fun ζ ζ h=>absurd h A8
     | cons a k ik=>
      intro g s h
      have e:(N.n8 (T.reads (a::k))).sum=a.read.load+(N.n8 (T.reads k)).sum:=u0
      have p1:=N.P9 _ g.1
      have p2:=N.jY _ g.2
      rcases v5.mp h with rfl | h
      ·exact⟨s.1,by lia⟩
      ·have:=ik g.2 s.2 h;exact⟨this.1,by lia⟩
    exact this l hg hs ht
   exact ih t (T.h_mem (t:=.cat l f) ht) (hp.sub ht) h1 h2.1 (o9 h2.2 hsum)
  have K:=lE.of (F:=T.l7) sub
  show CK text m la (.cat l f) (W6 (.cat l f) (T.jO l))
  rw[T.zA]
  show CK text m la (.cat l f) (Option.casesOn (motive:=fun ζ=>T) (jN (l.map T.l7)) ((T.cat l f).re (l.map T.l7)) fun row=>C5 row f)
  have hne:0<=most (N.O1 (T.reads l)):=fQ _
  cases hr:jN (l.map T.l7) with
  | none=>
   induction l using List.casesOn with
   | nil=>exact CK.refl hg hs hp
   | cons a l=>
    refine⟨I8.row hg K.kp,?_,u6 K.sz,.mk (LI _ _) fun s hs=>(K.e s hs).p,u6 (mW fun t ht=>(K.e t ht).h),AQ hne fun t ht=>(K.e t ht).n⟩
    show max 1 _<=max 1 _
    have:=K.ld;omega
  | some row=>
   have R:=aA5 (K.pre hsum) hr
   refine⟨⟨CJ R.g,CN R.s,fun p hp=>cR text ?_,?_⟩,?_,?_,aG2 hne R.e⟩
   ·refine(Sm.of ((I8.row hg K.kp).a p hp)).trans ((lM m _ p).trans (Sm.trans ?_ (CH row f hp).symm))
    rw[T.bL,A6]
    exact R.a p hp
   ·exact CM▸(o9 R.n K.kp.n)
   ·refine o9 (aG3 R.g) ?_
    show max 1 _<=max 1 _
    have:=R.ld;have:=K.ld;omega
   ·refine k6 MZ (u6 ?_)
    exact k6 R.sz K.sz
 | alt l f=>
  have hsum:(N.n8 (T.reads l)).sum<=1000:=by have:max 1 (N.n8 (T.reads l)).sum<=1000:=hl;omega
  have sub (t:T) (ht:t∈l):CK text m la t t.l7:=by
   have h1:t.read.good:=N.fH hg.2 (by rw[T.bL];exact j4.mpr ⟨t,ht,rfl⟩)
   have h2:t.read.su text m/\t.read.load<=(N.n8 (T.reads l)).sum:=by
    have:∀ k:List T,N.A3 (T.reads k)->N.I5 text m (T.reads k)->t∈k->t.read.su text m/\t.read.load<=(N.n8 (T.reads k)).sum:=fun k=>by
     induction k with
     | nil=>exact fun ζ ζ h=>absurd h A8
     | cons a k ik=>
      intro g s h
      have e:(N.n8 (T.reads (a::k))).sum=a.read.load+(N.n8 (T.reads k)).sum:=u0
      have p1:=N.P9 _ g.1
      have p2:=N.jY _ g.2
      rcases v5.mp h with rfl | h
      ·exact⟨s.1,by omega⟩
      ·have:=ik g.2 s.2 h;exact⟨this.1,by omega⟩
    exact this l hg.2 hs ht
   exact ih t (T.h_mem (t:=.alt l f) ht) (hp.sub ht) h1 h2.1 (o9 h2.2 hsum)
  have K:=lE.of (F:=T.l7) sub
  show CK text m la (.alt l f) (W6 (.alt l f) (T.jO l))
  rw[T.zA]
  show CK text m la (.alt l f) ((T.alt l f).re (l.map T.l7))
  induction l using List.casesOn with
  | nil=>exact CK.refl hg hs hp
  | cons a l=>
   refine⟨I8.choice hg.1 K.kp,?_,u6 K.sz,.mk (Am _ _) fun s hs=>(K.e s hs).p,u6 (mW fun t ht=>(K.e t ht).h),AQ (fQ _) fun t ht=>(K.e t ht).n⟩
   show max 1 _<=max 1 _
   have:=K.ld;omega
 | loop o s f=>
  have hs':(o.hi=-1->Hy text m s.read)/\s.read.su text m:=hs
  have hl':s.read.load<=1000:=by
   have:s.read.load*max (max o.lo o.hi) 1<=1000:=hl
   have e:max (max o.lo o.hi) 1=1:=by induction o using Lk.casesOn<;>rfl
   rw[e,lU] at this;exact this
  have K:=ih s (T.h_mem (t:=.loop o s f) f9) (hp.sub f9) hg.2.2.2.2 hs'.2 hl'
  refine⟨K.kp.times hg.2.2.2.2 hg.1 hg.2.1 (by induction o using Lk.casesOn<;>decide) hg.2.2.2.1 hs'.1,?_,u6 K.sz,.mk (Ao _ _ _) fun x hx=>by cases j5.mp hx;exact K.e.p,u6 K.e.h,?_⟩
  ·exact lT K.ld (by omega)
  ·show most [s.l7.read.nest]+1<=most [s.read.nest]+1
   have:=vE (l:=[s.l7.read.nest]) (fQ [s.read.nest]) fun x hx=>by cases j5.mp hx;exact o9 K.e.n (vF f9)
   lia
 | rep lo hi s f=>
  have hs':(hi=-1->Hy text m s.read)/\s.read.su text m:=hs
  obtain⟨b1,b2,b3,b4⟩:=hp.here.1 lo hi s f rfl
  have gs:s.read.good:=hg.2.2.2.2
  have hl':s.read.load<=1000:=by
   have h1:s.read.load*max (max lo hi) 1<=1000:=hl
   have h2:1<=max (max lo hi) 1:=by omega
   have h3:=N.P9 _ gs
   calc s.read.load=s.read.load*1:=(lU _).symm
    _<=s.read.load*max (max lo hi) 1:=xP h2 (by lia)
    _<=1000:=h1
  have K:=ih s (T.h_mem (t:=.rep lo hi s f) f9) (hp.sub f9) gs hs'.2 hl'
  refine⟨K.kp.times gs b1 b2 b3 b4 hs'.1,?_,u6 K.sz,.mk ⟨fun lo' hi' s' f' e=>by injection e with e1 e2 _ _;subst e1 e2;exact⟨b1,b2,b3,b4⟩,fun g f e=>by cases e⟩ fun x hx=>by cases j5.mp hx;exact K.e.p,u6 K.e.h,?_⟩
  ·exact lT K.ld (by omega)
  ·show most [s.l7.read.nest]+1<=most [s.read.nest]+1
   have:=vE (l:=[s.l7.read.nest]) (fQ [s.read.nest]) fun x hx=>by cases j5.mp hx;exact o9 K.e.n (vF f9)
   lia
 | cap c nm s f=>
  have gs:s.read.good:=hg.2.2
  have hl':s.read.load<=1000:=by
   have:max 1 [s.read.load].sum<=1000:=hl
   rw[u0,N6] at this;lia
  have K:=ih s (T.h_mem (t:=.cap c nm s f) f9) (hp.sub f9) gs hs hl'
  refine⟨K.kp.group ⟨hg.1,hg.2.1⟩,?_,u6 K.sz,.mk (An _ _ _ _) fun x hx=>by cases j5.mp hx;exact K.e.p,u6 K.e.h,?_⟩
  ·show max 1 [s.l7.read.load].sum<=max 1 [s.read.load].sum
   rw[u0,u0,N6]
   have:=K.ld;omega
  ·show most [s.l7.read.nest]<=most [s.read.nest]
   exact vE (l:=[s.l7.read.nest]) (fQ [s.read.nest]) fun x hx=>by cases j5.mp hx;exact o9 K.e.n (vF f9)
end
end
section
theorem MJ:∀{l:List T},(∀ t,t∈l->t.simple=true)->T.O4 l=true:=by
 intro b7
 induction b7 with
 | nil=>intro _;exact rfl
 | cons t l ih=>intro h;show(t.simple&&T.O4 l)=true;rw[h t f9,ih fun s hs=>h s (l6 _ hs)];rfl
theorem Eh {l:List T} {f:Fg} (h:∀ t,t∈l->t.simple=true):(C5 l f).simple=true:=by
 match l,h with
 | [],_=>rfl
 | [x],h=>exact h x f9
 | x::y::l,h=>exact MJ h
theorem uZ (o:Lk) (s:T) (f:Fg):(T.loop o s f).simple=((bif s.B4 then false else bif s.G1 then !(s.fg.lazy==f.lazy) else true)&&s.simple):=rfl
theorem rO {o:Lk} {t:T} {f:Fg} (h:t.simple=true) (he:t.B4=false):(u7 o t f).simple=true:=by
 have base (hl:t.G1=true->t.fg.lazy≠f.lazy):(T.loop o t f).simple=true:=by
  rw[uZ,he,h,F7]
  show(bif t.G1 then !(t.fg.lazy==f.lazy) else true)=true
  cases e:t.G1 with
  | false=>rfl
  | true=>show(!(t.fg.lazy==f.lazy))=true;rw[beq_eq_false_iff_ne.mpr (hl e)];rfl
 induction t using T.casesOn with
 | loop o' s f'=>
  rw[rM]
  by_cases e:f'.lazy=f.lazy
  ·rw[if_pos e]
   by_cases q:o'=o∨o'=.star
   ·rw[if_pos q];exact h
   ·rw[if_neg q,uZ]
    rw[uZ,e] at h
    exact h
  ·rw[if_neg e]
   exact base fun ζ=>e
 | _=>exact base fun h=>by exact ft h
theorem aH6 {t:T} {f:Fg} (h:t.simple=true) (he:t.B4=false):∀ k,(z9 t f k).simple=true:=by
 intro b7
 induction b7 with
 | zero=>exact rO h he
 | succ k ih=>exact rO (show(t.simple&&((z9 t f k).simple&&true))=true by rw[h,ih];rfl) rfl
theorem aG9 {t:T} {lo:Nat} {hi:Option Nat} {f:Fg} (h:t.simple=true):(I6 t lo hi f).simple=true:=by
 unfold I6
 cases he:t.B4 with
 | true=>exact h
 | false=>
  show(Option.casesOn (motive:=fun ζ=>T) (D8 t lo hi).2 _ _).simple=true
  cases(D8 t lo hi).2 with
  | none=>
   show(dY t (D8 t lo hi).1 f).simple=true
   match (D8 t lo hi).1 with
   | 0=>exact rO h he
   | 1=>exact rO h he
   | k+2=>
    refine Eh (l:=List.replicate (k+1) t++[u7 .plus t f]) fun s hs=>?_
    rcases n7.mp hs with hs | hs
    ·rw[lV hs];exact h
    ·cases j5.mp hs;exact rO h he
  | some b=>
   refine Eh fun s hs=>?_
   unfold O7 at hs
   rcases n7.mp hs with hs | hs
   ·rw[lV hs];exact h
   ·revert hs
    cases Nat.blt (D8 t lo hi).1 b
    ·exact fun h=>nomatch h
    ·exact fun hs=>by cases j5.mp hs;exact aH6 h he _
theorem aD4:∀ t:T,t.simp.simple=true:=T.aQ fun t ih=>by
 induction t using T.casesOn with
 | cls g f=>
  show(M0 g f).simple=true
  unfold M0
  cases e:g.isEmpty with
  | true=>rfl
  | false=>
   cases e2:(T.cls g f).isFull with
   | true=>rfl
   | false=>show(bif g.isEmpty then false else !(T.cls g f).isFull)=true;rw[e,e2];rfl
 | cat l f=>
  show((T.cat l f).re (T.R4 l)).simple=true
  rw[T.cK]
  induction l using List.casesOn with
  | nil=>rfl
  | cons a l=>exact MJ fun t ht=>by obtain⟨s,hs,rfl⟩:=j4.mp ht;exact ih s (T.h_mem (t:=.cat (a::l) f) hs)
 | alt l f=>
  show((T.alt l f).re (T.R4 l)).simple=true
  rw[T.cK]
  induction l using List.casesOn with
  | nil=>rfl
  | cons a l=>exact MJ fun t ht=>by obtain⟨s,hs,rfl⟩:=j4.mp ht;exact ih s (T.h_mem (t:=.alt (a::l) f) hs)
 | loop o s f=>
  have h:=ih s (A1 _)
  show(O3 o s.simp f).simple=true
  unfold O3
  cases e:s.simp.B4 with
  | true=>exact h
  | false=>exact rO h e
 | rep lo hi s f=>exact aG9 (ih s (A1 _))
 | cap c nm s f=>exact ih s (A1 _)
 | _=>rfl
noncomputable def Q1 (la:Bool) (t:T):Prop:=∀ g f,t=.cls g f->f.E4=la
theorem k9.imp {P Q:T->Prop} (h:∀ t,P t->Q t) {t:T} (a:k9 P t):k9 Q t:=by
 induction a with
 | mk p _ ih=>exact .mk (h _ p) ih
section
variable {la:Bool}
theorem iK {t:T} (h:∀ g f,t≠.cls g f):Q1 la t:=fun g f e=>absurd e (h g f)
theorem Eg {l:List T} {f:Fg} (h:∀ t,t∈l->k9 (Q1 la) t):k9 (Q1 la) (C5 l f):=by
 match l,h with
 | [],_=>exact .mk (iK fun ζ ζ e=>by cases e) fun s hs=>by cases hs
 | [x],h=>exact h x f9
 | x::y::l,h=>exact .mk (iK fun ζ ζ e=>by cases e) h
theorem JT {o:Lk} {t:T} {f:Fg} (h:k9 (Q1 la) t):k9 (Q1 la) (.loop o t f):=.mk (iK fun ζ ζ e=>by cases e) fun s hs=>by cases j5.mp hs;exact h
theorem rN {o:Lk} {t:T} {f:Fg} (h:k9 (Q1 la) t):k9 (Q1 la) (u7 o t f):=by
 induction t using T.casesOn with
 | loop o' s f'=>
  rw[rM]
  exact pY (pY h (JT (h.sub f9))) (JT h)
 | _=>exact JT h
theorem aH5 {t:T} {f:Fg} (h:k9 (Q1 la) t):∀ k,k9 (Q1 la) (z9 t f k):=by
 intro b7
 induction b7 with
 | zero=>exact rN h
 | succ k ih=>exact rN (.mk (iK fun ζ ζ e=>by cases e) fun s hs=>by
  rcases v5.mp hs with rfl | hs
  ·exact h
  ·cases j5.mp hs;exact ih)
theorem aG8 {t:T} {lo:Nat} {hi:Option Nat} {f:Fg} (h:k9 (Q1 la) t):k9 (Q1 la) (I6 t lo hi f):=by
 unfold I6
 cases he:t.B4 with
 | true=>exact h
 | false=>
  show k9 (Q1 la) (Option.casesOn (motive:=fun ζ=>T) (D8 t lo hi).2 _ _)
  cases(D8 t lo hi).2 with
  | none=>
   show k9 (Q1 la) (dY t (D8 t lo hi).1 f)
   match (D8 t lo hi).1 with
   | 0=>exact rN h
   | 1=>exact rN h
   | k+2=>
    refine Eg (l:=List.replicate (k+1) t++[u7 .plus t f]) fun s hs=>?_
    rcases n7.mp hs with hs | hs
    ·rw[lV hs];exact h
    ·cases j5.mp hs;exact rN h
  | some b=>
   refine Eg fun s hs=>?_
   unfold O7 at hs
   rcases n7.mp hs with hs | hs
   ·rw[lV hs];exact h
   ·revert hs
    cases Nat.blt (D8 t lo hi).1 b
    ·exact fun h=>nomatch h
    ·exact fun hs=>by cases j5.mp hs;exact aH5 h _
theorem aD3:∀ t:T,k9 (Q1 la) t->k9 (Q1 la) t.simp:=T.aQ fun t ih h=>by
 induction t using T.casesOn with
 | cls g f=>
  show k9 (Q1 la) (M0 g f)
  unfold M0
  cases g.isEmpty with
  | true=>exact .mk (iK fun ζ ζ e=>by cases e) fun s hs=>by cases hs
  | false=>
   cases(T.cls g f).isFull with
   | true=>exact .mk (iK fun ζ ζ e=>by cases e) fun s hs=>by cases hs
   | false=>exact h
 | cat l f=>
  show k9 (Q1 la) ((T.cat l f).re (T.R4 l))
  rw[T.cK]
  induction l using List.casesOn with
  | nil=>exact h
  | cons a l=>exact .mk (iK fun ζ ζ e=>by cases e) fun t ht=>by obtain⟨s,hs,rfl⟩:=j4.mp ht;exact ih s (T.h_mem (t:=.cat (a::l) f) hs) (h.sub hs)
 | alt l f=>
  show k9 (Q1 la) ((T.alt l f).re (T.R4 l))
  rw[T.cK]
  induction l using List.casesOn with
  | nil=>exact h
  | cons a l=>exact .mk (iK fun ζ ζ e=>by cases e) fun t ht=>by obtain⟨s,hs,rfl⟩:=j4.mp ht;exact ih s (T.h_mem (t:=.alt (a::l) f) hs) (h.sub hs)
 | loop o s f=>
  have k:=ih s (A1 _) (h.sub f9)
  show k9 (Q1 la) (O3 o s.simp f)
  unfold O3
  cases s.simp.B4 with
  | true=>exact k
  | false=>exact rN k
 | rep lo hi s f=>exact aG8 (ih s (A1 _) (h.sub f9))
 | cap c nm s f=>exact .mk (iK fun ζ ζ e=>by cases e) fun x hx=>by cases j5.mp hx;exact ih s (A1 _) (h.sub f9)
 | leaf o f=>exact h
 | lit r f=>exact h
 | str rs f=>exact h
theorem Bt {x:Int}:∀{l:List T},(∀ t,t∈l->t.simple=t.G8 x)->T.O4 l=T.nD x l:=by
 intro b7
 induction b7 with
 | nil=>intro _;exact rfl
 | cons t l ih=>intro h;show(t.simple&&T.O4 l)=(t.G8 x&&T.nD x l);rw[h t f9,ih fun s hs=>h s (l6 _ hs)]
theorem Dg:∀ t:T,k9 (Q1 la) t->t.simple=t.G8 (aV la):=T.aQ fun t ih h=>by
 induction t using T.casesOn with
 | cls g f=>
  have e:=h.here g f rfl
  show(bif g.isEmpty then false else !(g==[(0,bif f.E4 then 255 else 1114111)]))=!(g.isEmpty||[(0,aV la)]==g)
  rw[e]
  show _=!(g.isEmpty||[(0,bif la then 255 else 1114111)]==g)
  rw[show(([(0,bif la then 255 else 1114111)]:List (Int×Int))==g)=(g==[(0,bif la then 255 else 1114111)]) from by rw[EA,beq_iff_eq,beq_iff_eq];exact eq_comm]
  cases g.isEmpty<;>rfl
 | cat l f=>exact Bt fun s hs=>ih s (T.h_mem (t:=.cat l f) hs) (h.sub hs)
 | alt l f=>exact Bt fun s hs=>ih s (T.h_mem (t:=.alt l f) hs) (h.sub hs)
 | loop o s f=>
  rw[uZ,ih s (A1 _) (h.sub f9)]
  rfl
 | cap c nm s f=>exact ih s (A1 _) (h.sub f9)
 | _=>rfl
end
end
section
section
variable {M:Nat}
noncomputable def qX (M:Nat) (t:T):Prop:=∀ lo hi s f,t=.rep lo hi s f->0<=lo/\lo<=M/\(hi=-1∨lo<=hi)/\hi<=M
noncomputable def T.nn (t:T):Nat:=t.read.nest.toNat
theorem N.dP:∀ x:N,0<=x.nest:=fun x=>by
 induction x using N.casesOn with
 | times lo hi z s=>show 0<=most [s.nest]+1;have:=fQ [s.nest];lia
 | group c nm s=>exact fQ _
 | row l=>exact fQ _
 | choice l=>exact fQ _
 | _=>exact z0 0
theorem fP {x:Int} (h:0<=x):most [x]=x:=by show max 0 x=x;lia
theorem AU {t s:T} (h:s∈t.subs):s.nn<=t.nn:=by
 have e:s.read.nest<=t.read.nest:=by
  induction t using T.casesOn with
  | cat l f=>exact KO h
  | alt l f=>exact KO h
  | loop o x f=>
   cases j5.mp h
   show s.read.nest<=most [s.read.nest]+1
   rw[fP (N.dP _)];lia
  | rep lo hi x f=>
   cases j5.mp h
   show s.read.nest<=most [s.read.nest]+1
   rw[fP (N.dP _)];lia
  | cap c nm x f=>
   cases j5.mp h
   show s.read.nest<=most [s.read.nest]
   rw[fP (N.dP _)];lia
  | _=>cases h
 unfold T.nn
 lia
theorem ZW {lo hi:Int} {s:T} {f:Fg}:(T.rep lo hi s f).nn=s.nn+1:=by
 show(most [s.read.nest]+1).toNat=s.read.nest.toNat+1
 rw[fP (N.dP _)]
 have:=N.dP s.read
 lia
theorem iM (o:Lk) (t:T) (f:Fg):(u7 o t f).h<=t.h+1/\(u7 o t f).size<=t.size+1:=by
 induction t using T.casesOn with
 | loop o' s f'=>
  rw[rM]
  let P (t:T):Prop:=t.h<=(T.loop o' s f').h+1/\t.size<=(T.loop o' s f').size+1
  have q (o:Lk) (f:Fg):P (.loop o s f):=⟨J5 _,J5 _⟩
  exact pY (P:=P) (pY (P:=P) (q _ _) (q _ _)) ⟨g7 _,g7 _⟩
 | _=>exact⟨g7 _,g7 _⟩
theorem aJ6 {X C a b k:Nat} (h:X<=C+1) (e:C=max a (max b 0)+1) (i:b<=a+2*k+1):X<=a+2*(k+1)+1:=by lia
theorem aH3 (t:T) (f:Fg):∀ k,(z9 t f k).h<=t.h+2*k+1/\(z9 t f k).size<=(k+1)*(t.size+2):=by
 intro b7
 induction b7 with
 | zero=>exact⟨(iM _ _ _).1,by have:=(iM .quest t f).2;show(u7 .quest t f).size<=_;lia⟩
 | succ k ih=>
  have ih:=ih
  have h:=iM .quest (.cat [t,z9 t f k] f) f
  have e1:(T.cat [t,z9 t f k] f).h=max t.h (max (z9 t f k).h 0)+1:=rfl
  have e2:(T.cat [t,z9 t f k] f).size=t.size+((z9 t f k).size+0)+1:=rfl
  refine⟨?_,?_⟩
  ·exact aJ6 h.1 e1 ih.1
  ·show(u7 .quest (.cat [t,z9 t f k] f) f).size<=_
   rw[show(k+1+1)*(t.size+2)=(k+1)*(t.size+2)+(t.size+2) from jH _ _]
   lia
theorem Ef {l:List T} {f:Fg} {n:Nat} (h:∀ t,t∈l->t.h<=n):(C5 l f).h<=n+1:=by
 match l,h with
 | [],_=>show 1<=n+1;lia
 | [x],h=>exact FH (h x f9)
 | x::y::l,h=>exact u6 (mW h)
theorem MK (t:T):∀ k,T.sizes (List.replicate k t)=k*t.size:=by
 intro b7
 induction b7 with
 | zero=>exact(Nat.zero_mul _).symm
 | succ k ih=>show t.size+T.sizes (List.replicate k t)=_;rw[ih,jH,lW]
theorem Ek (t:T) (lo:Nat) (hi:Option Nat) (f:Fg) (hM:1<=M) (h1:lo<=M) (h2:∀ h,hi=some h->lo<=h/\h<=M):(I6 t lo hi f).h<=t.h+2*M+2/\(I6 t lo hi f).size<=(M+1)*(t.size+2)+1:=by
 have hB:(∀ h,(D8 t lo hi).2=some h->(D8 t lo hi).1<=h/\h<=M)/\(D8 t lo hi).1<=M:=by
  unfold D8
  cases t.place with
  | false=>exact⟨h2,h1⟩
  | true=>
   refine⟨fun h e=>?_,k6 (FL lo 1) hM⟩
   show min lo 1<=h/\h<=M
   induction hi using Option.casesOn with
   | none=>have e:=si e;have e:1=h:=e;lia
   | some b=>have e:=si e;have e:min b 1=h:=e;have:=h2 b rfl;exact e▸⟨Nat.le_min.mpr ⟨k6 (FJ _ _) this.1,FL _ _⟩,k6 (FJ _ _) this.2⟩
 have hm:t.size+2<=(M+1)*(t.size+2):=by
  calc t.size+2=1*(t.size+2):=(QY _).symm
   _<=(M+1)*(t.size+2):=bT _ (by lia)
 unfold I6
 cases he:t.B4 with
 | true=>exact⟨by show t.h<=_;lia,by show t.size<=_;lia⟩
 | false=>
  show(Option.casesOn (motive:=fun ζ=>T) (D8 t lo hi).2 _ _).h<=_/\(Option.casesOn (motive:=fun ζ=>T) (D8 t lo hi).2 _ _).size<=_
  generalize hb2:(D8 t lo hi).2=b2 at hB
  generalize (D8 t lo hi).1=b1 at hB
  induction b2 using Option.casesOn with
  | none=>
   show(dY t b1 f).h<=_/\(dY t b1 f).size<=_
   match b1,hB.2 with
   | 0,_=>have:=iM .star t f;exact⟨by show(u7 .star t f).h<=_;lia,by show(u7 .star t f).size<=_;lia⟩
   | 1,_=>have:=iM .plus t f;exact⟨by show(u7 .plus t f).h<=_;lia,by show(u7 .plus t f).size<=_;lia⟩
   | k+2,hk=>
    let L:List T:=List.replicate (k+1) t++[u7 .plus t f]
    have hp:=iM .plus t f
    refine⟨?_,?_⟩
    ·have:=Ef (l:=L) (f:=f) (n:=t.h+1) fun s hs=>by
      rcases n7.mp hs with hs | hs
      ·rw[lV hs];lia
      ·cases j5.mp hs;exact hp.1
     show(C5 L f).h<=_;lia
    ·have h1:=MZ (row:=L) (f:=f)
     have h2:T.sizes L=(k+1)*t.size+((u7 .plus t f).size+0):=by rw[T.cL,MK];rfl
     have h3:(k+2)*(t.size+2)<=(M+1)*(t.size+2):=bT _ (by lia)
     have h4:(k+2)*(t.size+2)=(k+1)*t.size+t.size+2*(k+2):=by rw[lY,jH,sX (k+2) 2]
     show(C5 L f).size<=_;lia
  | some b=>
   have c1:=(hB.1 b rfl).1
   have c2:=(hB.1 b rfl).2
   show(C5 (O7 t b1 b f) f).h<=_/\(C5 (O7 t b1 b f) f).size<=_
   have hP:(∀ s,s∈O7 t b1 b f->s.h<=t.h+2*M+1)/\T.sizes (O7 t b1 b f)<=M*(t.size+2):=by
    have up:=aH3 t f (b-b1-1)
    unfold O7
    cases e:Nat.blt b1 b with
    | false=>
     have e:¬b1<b:=fun z=>by rw[show Nat.blt b1 b=true from n6.mpr z] at e;exact tf e
     show(∀ s,s∈List.replicate b1 t++[]->_)/\T.sizes (List.replicate b1 t++[])<=_
     rw[u9,MK]
     refine⟨fun s hs=>by rw[lV hs];lia,?_⟩
     exact jG (by lia) (by lia)
    | true=>
     have e:b1<b:=n6.mp e
     show(∀ s,s∈List.replicate b1 t++[z9 t f (b-b1-1)]->_)/\T.sizes (List.replicate b1 t++[z9 t f (b-b1-1)])<=_
     rw[T.cL,MK]
     refine⟨fun s hs=>?_,?_⟩
     ·rcases n7.mp hs with hs | hs
      ·rw[lV hs];lia
      ·cases j5.mp hs;have:=up.1;lia
     ·have h1:b1*t.size<=b1*(t.size+2):=sY _ (by lia)
      have h2:b1*(t.size+2)+(b-b1)*(t.size+2)=b*(t.size+2):=by rw[<-FE];congr 1;lia
      have h3:b*(t.size+2)<=M*(t.size+2):=bT _ c2
      have h4:=up.2
      rw[show b-b1-1+1=b-b1 by lia] at h4
      show b1*t.size+((z9 t f (b-b1-1)).size+0)<=_
      lia
   have h1:=Ef (f:=f) hP.1
   have h2:=MZ (row:=O7 t b1 b f) (f:=f)
   have h3:(M+1)*(t.size+2)=M*(t.size+2)+(t.size+2):=jH _ _
   refine⟨by omega,?_⟩
   have:=hP.2
   lia
theorem size_pos (t:T):1<=t.size:=by rw[T.dW];lia
theorem Di {l:List T} {n:Nat} {K:Nat} (h:∀ t,t∈l->t.simp.size<=K*t.size):T.sizes (l.map T.simp)<=K*T.sizes l:=by
 induction l with
 | nil=>exact v7 _
 | cons t l ih=>
  show t.simp.size+T.sizes (l.map T.simp)<=K*(t.size+T.sizes l)
  rw[lY]
  exact QO (h t f9) (ih fun s hs=>h s (l6 _ hs))
theorem aD1 (hM:1<=M):∀ t:T,k9 (qX M) t->t.simp.h<=t.h+t.nn*(2*M+3):=T.aQ fun t ih hp=>by
 have mono {s:T} (hs:s∈t.subs):s.nn*(2*M+3)<=t.nn*(2*M+3):=bT _ (AU hs)
 induction t using T.casesOn with
 | leaf o f=>exact H9 _ _
 | lit r f=>exact H9 _ _
 | str rs f=>exact H9 _ _
 | cls g f=>
  show(M0 g f).h<=_
  unfold M0
  cases g.isEmpty with
  | true=>exact H9 _ _
  | false=>cases(T.cls g f).isFull<;>exact H9 _ _
 | cat l f=>
  show((T.cat l f).re (T.R4 l)).h<=_
  rw[T.cK]
  induction l using List.casesOn with
  | nil=>exact H9 _ _
  | cons a l=>
   have:T.hs ((a::l).map T.simp)<=T.hs (a::l)+(T.cat (a::l) f).nn*(2*M+3):=mW fun t ht=>by
    obtain⟨s,hs,rfl⟩:=j4.mp ht
    have h1:=ih s (T.h_mem (t:=.cat (a::l) f) hs) (hp.sub hs)
    have h2:=mono (s:=s) hs
    have h3:=T.aX hs
    lia
   show T.hs ((a::l).map T.simp)+1<=T.hs (a::l)+1+_
   lia
 | alt l f=>
  show((T.alt l f).re (T.R4 l)).h<=_
  rw[T.cK]
  induction l using List.casesOn with
  | nil=>exact H9 _ _
  | cons a l=>
   have:T.hs ((a::l).map T.simp)<=T.hs (a::l)+(T.alt (a::l) f).nn*(2*M+3):=mW fun t ht=>by
    obtain⟨s,hs,rfl⟩:=j4.mp ht
    have h1:=ih s (T.h_mem (t:=.alt (a::l) f) hs) (hp.sub hs)
    have h2:=mono (s:=s) hs
    have h3:=T.aX hs
    lia
   show T.hs ((a::l).map T.simp)+1<=T.hs (a::l)+1+_
   lia
 | loop o s f=>
  have h1:=ih s (A1 _) (hp.sub f9)
  have h2:=mono (s:=s) f9
  have h3:=(iM o s.simp f).1
  show(O3 o s.simp f).h<=s.h+1+_
  unfold O3
  cases s.simp.B4
  ·show(u7 o s.simp f).h<=_;lia
  ·show s.simp.h<=_;lia
 | rep lo hi s f=>
  have h1:=ih s (A1 _) (hp.sub f9)
  obtain⟨b1,b2,b3,b4⟩:=hp.here lo hi s f rfl
  have h3:=(Ek (M:=M) s.simp lo.toNat (E9 hi) f hM (by lia) fun h e=>by
   by_cases q:hi=-1
   ·subst q;exact nn e
   ·rw[uG (by lia)] at e;have e:=si e;lia).1
  rw[ZW,jH]
  show(I6 s.simp lo.toNat (E9 hi) f).h<=s.h+1+_
  lia
 | cap c nm s f=>
  have h1:=ih s (A1 _) (hp.sub f9)
  have h2:=mono (s:=s) f9
  show s.simp.h+1<=s.h+1+_
  lia
theorem aD5 (hM:1<=M):∀ t:T,k9 (qX M) t->t.simp.size<=(3*M+4) ^ t.nn*t.size:=T.aQ fun t ih hp=>by
 let K:=3*M+4
 have mono {s:T} (hs:s∈t.subs):K ^ s.nn<=K ^ t.nn:=QZ (by lia) (AU hs)
 have one:1<=K ^ t.nn:=Nat.one_le_pow _ _ (by lia)
 have self:t.size<=K ^ t.nn*t.size:=by
  calc t.size=1*t.size:=(QY _).symm
   _<=K ^ t.nn*t.size:=bT _ one
 induction t using T.casesOn with
 | leaf o f=>exact self
 | lit r f=>exact self
 | str rs f=>exact self
 | cls g f=>
  show(M0 g f).size<=_
  unfold M0
  cases g.isEmpty with
  | true=>exact self
  | false=>cases(T.cls g f).isFull<;>exact self
 | cat l f=>
  show((T.cat l f).re (T.R4 l)).size<=_
  rw[T.cK]
  induction l using List.casesOn with
  | nil=>exact self
  | cons a l=>
   have h:T.sizes ((a::l).map T.simp)<=K ^ (T.cat (a::l) f).nn*T.sizes (a::l):=Di (n:=0) fun s hs=>
    k6 (ih s (T.h_mem (t:=.cat (a::l) f) hs) (hp.sub hs)) (bT _ (mono hs))
   show T.sizes ((a::l).map T.simp)+1<=K ^ (T.cat (a::l) f).nn*(T.sizes (a::l)+1)
   rw[lY];lia
 | alt l f=>
  show((T.alt l f).re (T.R4 l)).size<=_
  rw[T.cK]
  induction l using List.casesOn with
  | nil=>exact self
  | cons a l=>
   have h:T.sizes ((a::l).map T.simp)<=K ^ (T.alt (a::l) f).nn*T.sizes (a::l):=Di (n:=0) fun s hs=>
    k6 (ih s (T.h_mem (t:=.alt (a::l) f) hs) (hp.sub hs)) (bT _ (mono hs))
   show T.sizes ((a::l).map T.simp)+1<=K ^ (T.alt (a::l) f).nn*(T.sizes (a::l)+1)
   rw[lY];lia
 | loop o s f=>
  have h1:=k6 (ih s (A1 _) (hp.sub f9)) (bT s.size (mono (s:=s) f9))
  have h3:=(iM o s.simp f).2
  show(O3 o s.simp f).size<=K ^ (T.loop o s f).nn*(s.size+1)
  rw[lY]
  unfold O3
  cases s.simp.B4
  ·show(u7 o s.simp f).size<=_;lia
  ·show s.simp.size<=_;lia
 | rep lo hi s f=>
  have h1:=ih s (A1 _) (hp.sub f9)
  obtain⟨b1,b2,b3,b4⟩:=hp.here lo hi s f rfl
  have h3:=(Ek (M:=M) s.simp lo.toNat (E9 hi) f hM (by lia) fun h e=>by
   by_cases q:hi=-1
   ·subst q;exact nn e
   ·rw[uG (by lia)] at e;have e:=si e;lia).2
  rw[ZW,Nat.pow_succ]
  show(I6 s.simp lo.toNat (E9 hi) f).size<=K ^ s.nn*K*(s.size+1)
  have h4:(M+1)*(s.simp.size+2)+1<=K*s.simp.size:=by
   have:=size_pos s.simp
   have e1:(M+1)*(s.simp.size+2)=(M+1)*s.simp.size+2*(M+1):=by rw[lY,sX (M+1) 2]
   have e2:K*s.simp.size=(M+1)*s.simp.size+(2*M+3)*s.simp.size:=by rw[<-FE];congr 1;lia
   have e3:(2*M+3)*1<=(2*M+3)*s.simp.size:=sY _ this
   lia
  calc (I6 s.simp lo.toNat (E9 hi) f).size<=K*s.simp.size:=k6 h3 h4
   _<=K*(K ^ s.nn*s.size):=sY _ h1
   _=K ^ s.nn*K*s.size:=by rw[<-Nat.mul_assoc,sX K]
   _<=K ^ s.nn*K*(s.size+1):=sY _ (by lia)
 | cap c nm s f=>
  have h1:=k6 (ih s (A1 _) (hp.sub f9)) (bT s.size (mono (s:=s) f9))
  show s.simp.size+1<=K ^ (T.cap c nm s f).nn*(s.size+1)
  rw[lY];lia
end
end
section
mutual
noncomputable def N.wf:N->Prop
 | .text _ _=>True
 | .set _=>True
 | .place _=>True
 | .times lo hi _ s=>(hi=-1∨lo<=hi)/\s.wf
 | .group _ _ s=>s.wf
 | .row l=>N.nX l
 | .choice l=>N.nX l
noncomputable def N.nX:List N->Prop
 | []=>True
 | x::l=>x.wf/\N.nX l
end
theorem N.NN:∀{l:List N} {x:N},N.nX l->x∈l->x.wf
 | y::l,x,h,hx=>by
  rcases v5.mp hx with rfl | hx
  ·exact h.1
  ·exact N.NN h.2 hx
section
variable {text:List Int} {m:Bool}
theorem Ai {n:Nat} {f:Pr Gs} {z:Bool} (ho:Ok n f):∀(k p:Nat),p<=n->∀ x,x∈t8 (opt f z k p)->p<=x/\x<=n
 | 0,p,hp,x,hx=>by cases j5.mp hx;exact⟨g7 p,hp⟩
 | k+1,p,hp,x,hx=>by
  rcases dG.mp hx with rfl | hx
  ·exact⟨g7 _,hp⟩
  ·obtain⟨e,he,hx⟩:=kR.mp hx
   obtain⟨w,hw,rfl⟩:=j4.mp he
   have a:=ho p hp w hw
   have b:=Ai ho k w.1 a.2 x hx
   lia
theorem Dk:∀{l:List N},N.A3 l->Ok text.length (C0 (l.map fun x=>x.V text m))
 | [],_,p,hp,w,hw=>by cases j5.mp hw;exact⟨g7 p,hp⟩
 | t::l,h,p,hp,w,hw=>by
  obtain⟨v,hv,hw⟩:=cY.mp hw
  obtain⟨z,hz,rfl⟩:=j4.mp hw
  have a:=N.F9 (text:=text) (m:=m) h.1 p hp v hv
  have b:=Dk h.2 v.1 a.2 z hz
  exact⟨k6 a.1 b.1,b.2⟩
theorem AM {n:Nat} {f:Pr Gs} (ho:Ok n f) {p x:Nat} (hp:p<=n) (hx:x∈t8 (f p)):p<=x/\x<=n:=by
 obtain⟨w,hw,rfl⟩:=j4.mp hx
 exact ho p hp w hw
theorem By {n:Nat} {f q:Pr Gs} (ho:Ok n f) (hq:∀ p,p<=n->∀ x,x∈t8 (q p)->p<=x) (hs:∀ p,p<=n->p∉t8 (f p)) (k p:Nat) (hp:p<=n):p∉t8 (sq (pow f (k+1) p) q):=fun h=>by
 obtain⟨e1,h1,h2⟩:=kR.mp h
 obtain⟨e2,h3,h4⟩:=kR.mp (h1:e1∈t8 (sq (f p) (pow f k)))
 have a:=AM ho hp h3
 have b:=AM (kK ho k) a.2 h4
 have c:=hq e1 b.2 p h2
 have:e2=p:=by lia
 subst this
 exact hs e2 hp h3
theorem Co:∀{l:List N},N.A3 l->(∀ x,x∈l->x.empty=false->Y7 text m x)->N.pC l=false->∀ p,p<=text.length->p∉t8 (C0 (l.map fun x=>x.V text m) p)
 | [],_,_,h,_,_=>by exact tf h
 | x::l,hg,hs,h,p,hp=>fun hx=>by
  obtain⟨e,h1,h2⟩:=kR.mp (show p∈t8 (sq (x.V text m p) (C0 (l.map fun x=>x.V text m))) from hx)
  have a:=AM (N.F9 hg.1) hp h1
  have b:=AM (Dk hg.2) a.2 h2
  have ep:e=p:=by lia
  subst ep
  cases ex:x.empty with
  | false=>exact(hs x f9 ex).ends hp h1
  | true=>
   have h:(x.empty&&N.pC l)=false:=h
   rw[ex] at h
   exact Co hg.2 (fun y hy=>hs y (l6 _ hy)) h e hp h2
theorem RS:∀{l:List N} {x:N},N.jI l=false->x∈l->x.empty=false
 | y::l,x,h,hx=>by
  have h:(y.empty||N.jI l)=false:=h
  rw[EC] at h
  rcases v5.mp hx with rfl | hx
  ·exact h.1
  ·exact RS h.2 hx
theorem aF7:∀ x:N,x.good->x.wf->x.empty=false->Y7 text m x:=mH fun x ih hg hw he=>by
 induction x using N.casesOn with
 | text rs f=>
  refine Y7.of fun p hp hm=>?_
  have e:(N.text rs f).V text m p=List.map (er m) (bif (bif f then((text.drop p).take rs.length).map small==rs.map small else(text.drop p).take rs.length==rs) then [(p+rs.length,[])] else []):=rfl
  rw[e,mQ] at hm
  have he:rs.isEmpty=false:=he
  induction rs using List.casesOn with
  | nil=>exact tf he
  | cons a l=>
   revert hm
   cases(bif f then((text.drop p).take (a::l).length).map small==(a::l).map small else(text.drop p).take (a::l).length==(a::l))
   ·exact fun h=>nomatch h
   ·intro h
    have:=j5.mp h
    have:p=p+(l.length+1):=this
    lia
 | set g=>
  refine Y7.of fun p hp hm=>?_
  have e:(N.set g).V text m p=List.map (er m) (Option.casesOn text[p]? [] fun c=>bif g.any (fun q=>decide (q.1<=c)&&decide (c<=q.2)) then [(p+1,[])] else []):=rfl
  rw[e,mQ] at hm
  revert hm
  cases text[p]? with
  | none=>exact fun h=>nomatch h
  | some c=>
   show p∈t8 (bif g.any (fun q=>decide (q.1<=c)&&decide (c<=q.2)) then [(p+1,[])] else [])->False
   cases g.any (fun q=>decide (q.1<=c)&&decide (c<=q.2))
   ·exact fun h=>nomatch h
   ·intro h
    have:p=p+1:=j5.mp h
    lia
 | place o=>exact tf he
 | times lo hi z s=>
  have he:(s.empty||lo==0)=false:=he
  rw[EC] at he
  have gs:s.good:=hg.2.2.2.2
  have hs:=ih s (A1 _) gs hw.2 he.1
  have ho:=N.F9 (text:=text) (m:=m) gs
  have:=beq_eq_false_iff_ne.mp he.2
  have:=hg.1
  obtain⟨k,hk⟩:∃ k,lo.toNat=k+1:=⟨lo.toNat-1,by lia⟩
  refine Y7.of fun p hp hm=>?_
  rcases hw.1 with rfl | h2
  ·obtain⟨st,a1,a2⟩:=jA (text:=text) (lo:=lo) (z:=z) m gs
   have:=((a2 p hp).ends p).mp hm
   rw[hk] at this
   exact By ho (fun p hp x hx=>(Ds ho a1 p hp x hx).1) (fun p hp=>hs.ends hp) k p hp this
  ·have:=((lK m gs hg.1 h2 hp).ends p).mp hm
   rw[hk] at this
   exact By ho (fun p hp x hx=>(Ai ho _ p hp x hx).1) (fun p hp=>hs.ends hp) k p hp this
 | group c nm s=>
  have hs:=ih s (A1 _) hg.2.2 hw he
  refine Y7.of fun p hp hm=>?_
  rw[DM] at hm
  have:p∈t8 (s.V text m p):=by
   obtain⟨v,hv,e⟩:=j4.mp hm
   obtain⟨w,hw,rfl⟩:=j4.mp hv
   exact j4.mpr ⟨w,hw,e⟩
  exact hs.ends hp this
 | row l=>
  refine Y7.of fun p hp hm=>?_
  exact Co hg (fun y hy he=>ih y (kE hy) (N.fH hg hy) (N.NN hw hy) he) he p hp (((lM m l p).ends p).mp hm)
 | choice l=>
  refine Y7.of fun p hp hm=>?_
  have:=((xD m l p).ends p).mp hm
  obtain⟨w,mX,e⟩:=j4.mp this
  obtain⟨y,hy,uH⟩:=cY.mp mX
  exact ih y (kE hy) (N.fH hg.2 hy) (N.NN hw hy) (RS he hy) p hp w uH e
end
section
variable {text:List Int}
mutual
theorem wF:∀ x:N,x.good->x.wf->x.sure=true->x.su text true
 | .text _ _,_,_,_=>trivial
 | .set _,_,_,_=>trivial
 | .place _,_,_,_=>trivial
 | .times lo hi z s,hg,hw,h=>by
  have h:(!(hi==-1&&s.empty)&&s.sure)=true:=h
  rw[N3] at h
  refine⟨fun e=>.inr ?_,wF s hg.2.2.2.2 hw.2 h.2⟩
  subst e
  have h1:(!s.empty)=true:=h.1
  exact aF7 s hg.2.2.2.2 hw.2 (V2 h1)
 | .group _ _ s,hg,hw,h=>wF s hg.2.2 hw h
 | .row l,hg,hw,h=>MX l hg hw h
 | .choice l,hg,hw,h=>MX l hg.2 hw h
theorem MX:∀ l:List N,N.A3 l->N.nX l->N.nS l=true->N.I5 text true l
 | [],_,_,_=>trivial
 | x::l,hg,hw,h=>by
  have h:(x.sure&&N.nS l)=true:=h
  rw[N3] at h
  exact⟨wF x hg.1 hw.1 h.1,MX l hg.2 hw.2 h.2⟩
end
mutual
theorem CE:∀ x:N,x.su text false
 | .text _ _=>trivial
 | .set _=>trivial
 | .place _=>trivial
 | .times lo hi z s=>⟨fun ζ=>.inl rfl,CE s⟩
 | .group _ _ s=>CE s
 | .row l=>MV l
 | .choice l=>MV l
theorem MV:∀ l:List N,N.I5 text false l
 | []=>trivial
 | x::l=>⟨CE x,MV l⟩
end
theorem WB {x y:N} {p:Nat} (h:x.V text false p=y.V text false p):(x.W text p).map (fun ζ=>ζ.1)=(y.W text p).map (fun ζ=>ζ.1):=by
 have e:=congrArg t8 h
 unfold N.V at e
 rwa [mQ,mQ] at e
theorem Fo {x y:N} {p:Nat} (h:x.V text true p=y.V text true p):x.W text p=y.W text p:=by
 have e (l:List (Nat×List Gs)):l.map (er true)=l:=by rw[show(er true)=id from funext Oi,QA]
 unfold N.V at h
 rwa [e,e] at h
end
mutual
theorem N.vB:∀ x:N,x.good->x.many<=x.load
 | .text rs _,_=>by show(rs.length:Int)<=max 1 (rs.length:Int);lia
 | .set _,_=>z0 1
 | .place _,_=>z0 1
 | .times lo hi z s,h=>by
  rw[W9,iB,Eu]
  have h1:=N.vB s h.2.2.2.2
  have h2:=N.kC s h.2.2.2.2
  have h3:(if hi=-1 then max lo 1 else hi)<=max (max lo hi) 1:=by split;exact sP.mpr ⟨o9 (jC lo hi) (jC _ 1),cT _ 1⟩;exact o9 (cT lo hi) (jC _ 1)
  have h4:(0:Int)<=max (max lo hi) 1:=o9 (by decide) (cT _ 1)
  calc s.many*(if hi=-1 then max lo 1 else hi)<=s.many*max (max lo hi) 1:=xP h3 h2
   _<=s.load*max (max lo hi) 1:=lT h1 h4
 | .group _ _ s,h=>by
  have:=N.vB s h.2.2
  show s.many<=max 1 [s.load].sum
  rw[u0,N6];lia
 | .row l,h=>by have:=N.JY l h;show(N.y9 l).sum<=max 1 (N.n8 l).sum;lia
 | .choice l,h=>by have:=N.JY l h.2;show(N.y9 l).sum<=max 1 (N.n8 l).sum;lia
theorem N.JY:∀ l:List N,N.A3 l->(N.y9 l).sum<=(N.n8 l).sum
 | [],_=>z0 0
 | x::l,h=>by
  show(x.many::N.y9 l).sum<=(x.load::N.n8 l).sum
  rw[u0,u0]
  exact eW (N.vB x h.1) (N.JY l h.2)
end
theorem AH {lo hi:Int} {z:Bool} {s:N} (h:s.good):s.load<=(N.times lo hi z s).load:=by
 rw[iB]
 have h3:=N.P9 s h
 calc s.load=s.load*1:=(lU _).symm
  _<=s.load*max (max lo hi) 1:=xP (by lia) (by lia)
theorem Ks {lo hi:Int} {z:Bool} {s:N} (h:s.good):max (max lo hi) 1<=(N.times lo hi z s).load:=by
 rw[iB]
 have h3:=N.P9 s h
 have h4:(0:Int)<=max (max lo hi) 1:=o9 (by decide) (cT _ 1)
 calc max (max lo hi) 1=1*max (max lo hi) 1:=(eX _).symm
  _<=s.load*max (max lo hi) 1:=lT h3 h4
mutual
theorem N.pU {L:Int} (hL:L<=1000000):∀ x:N,x.good->x.load<=L->x.fits/\x.dH
 | .text _ _,_,_=>⟨trivial,trivial⟩
 | .set _,_,_=>⟨trivial,trivial⟩
 | .place _,_,_=>⟨trivial,trivial⟩
 | .times lo hi z s,h,hl=>by
  have hs:=o9 (AH (lo:=lo) (hi:=hi) (z:=z) h.2.2.2.2) hl
  have ih:=N.pU hL s h.2.2.2.2 hs
  have h1:=N.vB s h.2.2.2.2
  have h2:=N.kC s h.2.2.2.2
  have h3:=N.P9 s h.2.2.2.2
  exact⟨⟨ih.1,by lia,by lia⟩,⟨ih.2,by lia,by lia⟩⟩
 | .group _ _ s,h,hl=>by
  have:max 1 [s.load].sum<=L:=hl
  rw[u0,N6] at this
  exact N.pU hL s h.2.2 (by lia)
 | .row l,h,hl=>N.HX hL l h (by have:max 1 (N.n8 l).sum<=L:=hl;lia)
 | .choice l,h,hl=>N.HX hL l h.2 (by have:max 1 (N.n8 l).sum<=L:=hl;lia)
theorem N.HX {L:Int} (hL:L<=1000000):∀ l:List N,N.A3 l->(N.n8 l).sum<=L->N.mS l/\N.pT l
 | [],_,_=>⟨trivial,trivial⟩
 | x::l,h,hl=>by
  have e:(N.n8 (x::l)).sum=x.load+(N.n8 l).sum:=u0
  have p1:=N.P9 x h.1
  have p2:=N.jY l h.2
  have a:=N.pU hL x h.1 (by lia)
  have b:=N.HX hL l h.2 (by lia)
  exact⟨⟨a.1,b.1⟩,⟨a.2,b.2⟩⟩
end
theorem aD6 {L:Int} (hL:L<=1000000):∀ t:T,t.simple=true->t.read.good->t.read.many<=L->t.read.fits:=T.aQ fun t ih hs hg hm=>by
 have row (l:List T) (hsub:∀ s,s∈l->s.h<t.h) (hs:T.O4 l=true) (hg:N.A3 (T.reads l)) (hm:(N.y9 (T.reads l)).sum<=L):N.mS (T.reads l):=by
  induction l with
  | nil=>trivial
  | cons a l ik=>
   have e:(N.y9 (T.reads (a::l))).sum=a.read.many+(N.y9 (T.reads l)).sum:=u0
   have p1:=N.kC a.read hg.1
   have p2:=N.AK (T.reads l) hg.2
   have hs:(a.simple&&T.O4 l)=true:=hs
   rw[N3] at hs
   exact⟨ih a (hsub a f9) hs.1 hg.1 (by lia),ik (fun s h=>hsub s (l6 _ h)) hs.2 hg.2 (by lia)⟩
 induction t using T.casesOn with
 | leaf o f=>induction o using Lf.casesOn<;>exact trivial
 | cat l f=>exact row l (fun s h=>T.h_mem (t:=.cat l f) h) hs hg hm
 | alt l f=>exact row l (fun s h=>T.h_mem (t:=.alt l f) h) hs hg.2 hm
 | loop o s f=>
  rw[uZ,N3] at hs
  have gs:s.read.good:=hg.2.2.2.2
  have hm':s.read.many<=L:=by have:=bG (o:=o) (z:=f.lazy) (s:=s.read);have hm:(lk o f.lazy s.read).many<=L:=hm;lia
  have p:=N.kC _ gs
  exact⟨ih s (A1 _) hs.2 gs hm',by lia,by lia⟩
 | rep lo hi s f=>exact ft hs
 | cap c nm s f=>exact ih s (A1 _) hs hg.2.2 hm
 | _=>trivial
end
section
structure Dr (la:Bool) (H:Nat) (e:N×T):Prop where
 g:e.1.good
 w:e.1.wf
 sh:e.1.short
 ld:e.2.read.load<=e.1.load
 n2:e.1.nest<=2
 tn:e.2.read.nest<=e.1.nest
 xh:e.1.h<=H
 th:e.2.h<=H
 p:k9 (P1 la) e.2
 k:∀ text m,e.1.su text m->Kp text m e.1 e.2.read
section
variable {la:Bool} {H:Nat}
theorem Dr.up {H':Nat} {e:N×T} (h:Dr la H e) (l:H<=H'):Dr la H' e:={h with xh:=k6 h.xh l,th:=k6 h.th l}
noncomputable def N.atom:N->Prop
 | .text _ _=>True
 | .set _=>True
 | .place _=>True
 | _=>False
theorem pO {x:N} {t:T} (ha:x.atom) (e:t.read=x) (hs:t.subs=[]) (hp:P1 la t):Dr la 1 (x,t)/\t.size=1:=by
 have th:t.h=1:=by rw[T.jR,hs];rfl
 have ts:t.size=1:=by rw[T.dW,hs];rfl
 have tp:k9 (P1 la) t:=.mk hp fun s h=>by rw[hs] at h;cases h
 refine⟨?_,ts⟩
 induction x using N.casesOn with
 | text rs f=>exact⟨trivial,trivial,trivial,by show t.read.load<=_;rw[e];exact z0 _,by show(0:Int)<=2;decide,by show t.read.nest<=_;rw[e];exact z0 _,g7 _,I0 th,tp,fun text m h=>by show Kp text m _ t.read;rw[e];exact Kp.refl trivial h⟩
 | set g=>exact⟨trivial,trivial,trivial,by show t.read.load<=_;rw[e];exact z0 _,by show(0:Int)<=2;decide,by show t.read.nest<=_;rw[e];exact z0 _,g7 _,I0 th,tp,fun text m h=>by show Kp text m _ t.read;rw[e];exact Kp.refl trivial h⟩
 | place o=>exact⟨trivial,trivial,trivial,by show t.read.load<=_;rw[e];exact z0 _,by show(0:Int)<=2;decide,by show t.read.nest<=_;rw[e];exact z0 _,g7 _,I0 th,tp,fun text m h=>by show Kp text m _ t.read;rw[e];exact Kp.refl trivial h⟩
 | _=>exact ha.elim
theorem Xf (r:Int) (f:Fg):P1 la (.lit r f):=⟨(fun ζ ζ ζ ζ e=>by cases e),(fun ζ ζ e=>by cases e)⟩
theorem Xg (r:List Int) (f:Fg):P1 la (.str r f):=⟨(fun ζ ζ ζ ζ e=>by cases e),(fun ζ ζ e=>by cases e)⟩
theorem Xe (g:List (Int×Int)):P1 la (.cls g (fl la)):=⟨(fun ζ ζ ζ ζ e=>by cases e),(fun ζ ζ e=>by injection e with _ e;rw[<-e];rfl)⟩
noncomputable def eO (la:Bool) (e:N×T):Prop:=Dr la 1 e/\e.2.size=1/\e.1.load<=3/\e.1.nest=0
theorem Jt (w:Nat):eO la (A2 la w):=by
 have lit (r:Int) (f:Fg) (fo:Bool) (h:f.fold=fo):eO la (.text [r] fo,.lit r f):=by
  have a:=pO (la:=la) (x:=.text [r] fo) (t:=.lit r f) trivial (by show N.text [r] f.fold=_;rw[h]) rfl (Xf _ _)
  exact⟨a.1,a.2,by show max 1 ((1:Nat):Int)<=3;decide,rfl⟩
 have cls (g:List (Int×Int)):eO la (.set g,.cls g (fl la)):=by
  have a:=pO (la:=la) (x:=.set g) (t:=.cls g (fl la)) trivial rfl rfl (Xe g)
  exact⟨a.1,a.2,by show(1:Int)<=3;decide,rfl⟩
 have any (o:Lf) (h:(T.leaf o (fl la)).read=.set [(0,1114111)]):eO la (.set [(0,1114111)],.leaf o (fl la)):=by
  have a:=pO (la:=la) (x:=.set [(0,1114111)]) (t:=.leaf o (fl la)) trivial h rfl (vQ _ _)
  exact⟨a.1,a.2,by show(1:Int)<=3;decide,rfl⟩
 by_cases h:w<10
 ·have c:w=0∨w=1∨w=2∨w=3∨w=4∨w=5∨w=6∨w=7∨w=8∨w=9:=(by decide:∀ w,w<10->w=0∨w=1∨w=2∨w=3∨w=4∨w=5∨w=6∨w=7∨w=8∨w=9) w h
  rcases c with rfl | rfl | rfl | rfl | rfl | rfl | rfl | rfl | rfl | rfl
  ·exact lit _ _ _ rfl
  ·exact lit _ _ _ rfl
  ·exact lit _ _ _ rfl
  ·exact cls _
  ·exact cls _
  ·exact cls _
  ·exact cls _
  ·exact cls _
  ·exact any _ rfl
  ·exact any _ rfl
 ·have c:w=10∨w=11∨w=12∨w=13∨w=14∨w=15∨∃ k,w=k+16:=by
   obtain⟨k,rfl⟩:∃ k,w=k+10:=⟨w-10,(RA (N7 h)).symm⟩
   match k with
   | 0=>exact .inl rfl
   | 1=>exact .inr (.inl rfl)
   | 2=>exact .inr (.inr (.inl rfl))
   | 3=>exact .inr (.inr (.inr (.inl rfl)))
   | 4=>exact .inr (.inr (.inr (.inr (.inl rfl))))
   | 5=>exact .inr (.inr (.inr (.inr (.inr (.inl rfl)))))
   | k+6=>exact .inr (.inr (.inr (.inr (.inr (.inr ⟨k,rfl⟩)))))
  rcases c with rfl | rfl | rfl | rfl | rfl | rfl |⟨k,rfl⟩
  all_goals exact lit _ _ _ rfl
theorem Js (w:Nat):eO la (leafOf la w):=by
 have place (i:Int) (o:Lf) (h:(T.leaf o (fl la)).read=.place i):eO la (.place i,.leaf o (fl la)):=by
  have a:=pO (la:=la) (x:=.place i) (t:=.leaf o (fl la)) trivial h rfl (vQ _ _)
  exact⟨a.1,a.2,by show(1:Int)<=3;decide,rfl⟩
 have text (rs:List Int) (t:T) (fo:Bool) (h:t.read=.text rs fo) (hs:t.subs=[]) (hp:P1 la t) (hl:rs.length<=3):eO la (.text rs fo,t):=by
  have a:=pO (la:=la) (x:=.text rs fo) (t:=t) trivial h hs hp
  exact⟨a.1,a.2,by show max 1 (rs.length:Int)<=3;lia,rfl⟩
 have no:eO la (.set [],.leaf .iG (fl la)):=by
  have a:=pO (la:=la) (x:=.set []) (t:=.leaf .iG (fl la)) trivial rfl rfl (vQ _ _)
  exact⟨a.1,a.2,by show(1:Int)<=3;decide,rfl⟩
 have word (rs:List Int) (f:Fg) (fo:Bool) (h:(T.str rs f).read=.text rs fo) (hl:rs.length<=3):eO la (.text rs fo,.str rs f):=text _ _ _ h rfl (Xg _ _) hl
 by_cases h:w<15
 ·have c:w=0∨w=1∨w=2∨w=3∨w=4∨w=5∨w=6∨w=7∨w=8∨w=9∨w=10∨w=11∨w=12∨w=13∨w=14:=(by decide:∀ w,w<15->w=0∨w=1∨w=2∨w=3∨w=4∨w=5∨w=6∨w=7∨w=8∨w=9∨w=10∨w=11∨w=12∨w=13∨w=14) w h
  rcases c with rfl | rfl | rfl | rfl | rfl | rfl | rfl | rfl | rfl | rfl | rfl | rfl | rfl | rfl | rfl
  ·exact place _ _ rfl
  ·exact place _ _ rfl
  ·exact place _ _ rfl
  ·exact place _ _ rfl
  ·exact place _ _ rfl
  ·exact place _ _ rfl
  ·exact text _ _ _ rfl rfl (vQ _ _) (v7 _)
  ·exact no
  all_goals exact word _ _ _ rfl (E0 rfl)
 ·obtain⟨k,rfl⟩:∃ k,w=k+15:=⟨w-15,(RA (N7 h)).symm⟩
  exact word _ _ _ rfl (E0 rfl)
theorem aG6 {o:Lk} {t:T} {f:Fg} (h:k9 (P1 la) t):k9 (P1 la) (u7 o t f):=by
 have lp (o:Lk) (s:T) (f:Fg) (h:k9 (P1 la) s):k9 (P1 la) (.loop o s f):=.mk (Ao _ _ _) fun x hx=>by cases j5.mp hx;exact h
 induction t using T.casesOn with
 | loop o' s f'=>
  rw[rM]
  exact pY (pY h (lp _ _ _ (h.sub f9))) (lp _ _ _ h)
 | _=>exact lp _ _ _ h
theorem JR {o:Lk} {z:Bool} {s:N}:(lk o z s).load=s.load:=by
 unfold lk
 rw[iB]
 have e:max (max o.lo o.hi) 1=1:=by induction o using Lk.casesOn<;>rfl
 rw[e,lU]
theorem KN {o:Lk} {z:Bool} {s:N}:(lk o z s).nest=s.nest+1:=by show most [s.nest]+1=_;rw[fP (N.dP s)]
theorem aG5 (o:Lk) (t:T) (f:Fg):(u7 o t f).read.load=t.read.load/\(u7 o t f).read.nest<=t.read.nest+1:=by
 rcases Ei o t f with⟨o',s,f',rfl,e,e2⟩ |⟨e,_⟩
 ·rw[e2]
  have er:(T.loop o' s f').read=lk o' f'.lazy s.read:=rfl
  rw[er,JR,JR,KN,KN]
  exact⟨rfl,by lia⟩
 ·rw[e]
  have er:(T.loop o t f).read=lk o f.lazy t.read:=rfl
  rw[er,JR,KN]
  exact⟨rfl,z0 _⟩
theorem VS {x:N} {t:T} (h:Dr la H (x,t)) {low more:Nat} (h1:low<3) (h2:more<4) (lz k7:Bool) :
  Dr la (H+1) (Z9 la (x,t) low more lz k7)/\(Z9 la (x,t) low more lz k7).1.load<=max x.load 6/\(Z9 la (x,t) low more lz k7).2.size<=t.size+1:=by
 by_cases hn:x.nest>1
 ·have e:Z9 la (x,t) low more lz k7=(x,t):=by
   show(bif decide (x.nest>1) then(x,t) else _)=_
   rw[decide_eq_true hn];rfl
  rw[e]
  exact⟨h.up (J5 H),by show x.load<=_;lia,J5 _⟩
 ·have e:Z9 la (x,t) low more lz k7=(.times (Q4 x low more).1 (q9 (Q4 x low more).2) lz x,bF t ⟨false,la,lz⟩ k7 (Q4 x low more).1 (Q4 x low more).2):=by
   show(bif decide (x.nest>1) then(x,t) else _)=_
   rw[decide_eq_false hn];rfl
  rw[e]
  generalize hB:Q4 x low more=B
  obtain⟨lo,hi⟩:=B
  have hb:lo<=2/\(∀ b,hi=some b->lo<=b/\b<=4)/\x.load*max (max (lo:Int) (q9 hi)) 1<=max x.load 6:=by
   unfold Q4 at hB
   cases hbig:big x low more with
   | true=>
    rw[hbig] at hB
    injection hB with e1 e2
    subst e1 e2
    refine⟨by decide,(fun b e=>by exact nn e),?_⟩
    show x.load*1<=_
    rw[lU];lia
   | false=>
    rw[hbig] at hB
    injection hB with e1 e2
    subst e1 e2
    have:=of_decide_eq_false (show decide (x.load*max (max (low:Int) (q9 (hi0 low more))) 1>6)=false from hbig)
    refine⟨by lia,fun b e=>?_,by omega⟩
    unfold hi0 at e
    cases e3:more==3 with
    | true=>rw[e3] at e;exact nn e
    | false=>
     rw[e3] at e
     have e:=si e
     have:=beq_eq_false_iff_ne.mp e3
     lia
  have hi1:-1<=q9 hi/\q9 hi<=4/\(q9 hi=-1∨(lo:Int)<=q9 hi):=by
   induction hi using Option.casesOn with
   | none=>exact⟨by decide,by decide,.inl rfl⟩
   | some b=>have:=hb.2.1 b rfl;show -1<=((b:Nat):Int)/\((b:Nat):Int)<=4/\(((b:Nat):Int)=-1∨(lo:Int)<=((b:Nat):Int));lia
  let f:Fg:=⟨false,la,lz⟩
  have hg:x.good:=h.g
  have xl:=N.P9 x hg
  have np:=N.dP x
  have n1:(N.times lo (q9 hi) lz x).nest=x.nest+1:=by show most [x.nest]+1=_;rw[fP np]
  have go (u:T) (e1:u.read.load<=(N.times lo (q9 hi) lz x).load) (e2:u.read.nest<=x.nest+1) (e3:u.h<=t.h+1) (e4:k9 (P1 la) u) (e5:∀ text m,(N.times lo (q9 hi) lz x).su text m->Kp text m (.times lo (q9 hi) lz x) u.read) (e6:u.size<=t.size+1) :
    Dr la (H+1) (.times lo (q9 hi) lz x,u)/\(N.times lo (q9 hi) lz x).load<=max x.load 6/\u.size<=t.size+1:=by
   refine⟨⟨⟨by lia,by lia,hi1.1,by lia,hg⟩,⟨hi1.2.2,h.w⟩,h.sh,e1,?_,?_,u6 h.xh,k6 e3 (u6 h.th),e4,e5⟩,?_,e6⟩
   ·show(N.times lo (q9 hi) lz x).nest<=2;rw[n1];lia
   ·show u.read.nest<=(N.times lo (q9 hi) lz x).nest;rw[n1];exact e2
   ·rw[iB];exact hb.2.2
  have l1:x.load<=(N.times lo (q9 hi) lz x).load:=AH hg
  have NJ (o:Lk) (e:N.times lo (q9 hi) lz x=lk o lz x):Dr la (H+1) (.times lo (q9 hi) lz x,u7 o t f)/\(N.times lo (q9 hi) lz x).load<=max x.load 6/\(u7 o t f).size<=t.size+1:=by
   have hz:=iM o t f
   have ln:=aG5 o t f
   refine go _ (by rw[ln.1];exact o9 h.ld l1) (o9 ln.2 (by have:t.read.nest<=x.nest:=h.tn;lia)) hz.1 (aG6 h.p) (fun text m hs=>?_) hz.2
   rw[e] at hs ⊢
   have hs':(o.hi=-1->Hy text m x)/\x.su text m:=hs
   exact rL (f:=f) hg (h.k text m hs'.2) fun q=>hs'.1 (zS q)
  have aJ8:Dr la (H+1) (.times lo (q9 hi) lz x,.rep lo (q9 hi) t f)/\(N.times lo (q9 hi) lz x).load<=max x.load 6/\(T.rep lo (q9 hi) t f).size<=t.size+1:=by
   refine go _ ?_ ?_ (g7 _) (.mk ⟨fun lo' hi' s' f' e=>by injection e with a b _ _;subst a b;exact⟨by lia,by lia,hi1.2.2,by lia⟩,fun ζ ζ e=>by cases e⟩ fun s hs=>by cases j5.mp hs;exact h.p) (fun text m hs=>?_) (g7 _)
   ·exact lT h.ld (by lia)
   ·show most [t.read.nest]+1<=_;rw[fP (N.dP _)];have:t.read.nest<=x.nest:=h.tn;lia
   ·have hs':(q9 hi=-1->Hy text m x)/\x.su text m:=hs
    exact(h.k text m hs'.2).times hg (by lia) (by lia) hi1.2.2 (by lia) hs'.1
  show Dr la (H+1) (.times lo (q9 hi) lz x,bF t f k7 lo hi)/\_
  unfold bF
  cases c1:k7&&(lo==0&&hi==none) with
  | true=>
   simp only[N3] at c1
   have a:=eq_of_beq c1.2.1
   have b:=eq_of_beq c1.2.2
   subst a b
   exact NJ .star rfl
  | false=>
  cases c2:k7&&(lo==1&&hi==none) with
  | true=>
   simp only[N3] at c2
   have a:=eq_of_beq c2.2.1
   have b:=eq_of_beq c2.2.2
   subst a b
   exact NJ .plus rfl
  | false=>
  cases c3:k7&&(lo==0&&hi==some 1) with
  | true=>
   simp only[N3] at c3
   have a:=eq_of_beq c3.2.1
   have b:=eq_of_beq c3.2.2
   subst a b
   exact NJ .quest rfl
  | false=>exact aJ8
theorem Nm {e:N×T} (h:Dr la H e) {num:Nat} (hn:num<10) (nm:Bool):Dr la (H+1) (bW la num nm e)/\(bW la num nm e).1.load=e.1.load/\(bW la num nm e).2.size=e.2.size+1/\True:=by
 have xl:=N.P9 e.1 h.g
 have lx:max 1 [e.1.load].sum=e.1.load:=by rw[u0,N6];lia
 refine⟨⟨⟨by lia,by lia,h.g⟩,h.w,h.sh,?_,?_,?_,u6 h.xh,u6 h.th,.mk (An _ _ _ _) fun s hs=>by cases j5.mp hs;exact h.p,fun text m hs=>(h.k text m hs).group ⟨by lia,by lia⟩⟩,lx,rfl,trivial⟩
 ·show max 1 [e.2.read.load].sum<=max 1 [e.1.load].sum
  rw[u0,u0,N6];have:=h.ld;lia
 ·show most [e.1.nest]<=2;rw[fP (N.dP _)];exact h.n2
 ·show most [e.2.read.nest]<=most [e.1.nest];rw[fP (N.dP _),fP (N.dP _)];exact h.tn
end
end
section
noncomputable def LS (l:List (N×T)):Int:=(N.n8 (l.map (fun ζ=>ζ.1))).sum
noncomputable def SS (l:List (N×T)):Nat:=T.sizes (l.map (fun ζ=>ζ.2))
theorem iU (a b:List (N×T)):LS (a++b)=LS a+LS b:=by unfold LS;rw[o4,nC]
theorem lJ (a b:List (N×T)):SS (a++b)=SS a+SS b:=by unfold SS;rw[o4,T.cL]
theorem lG (e:N×T):LS [e]=e.1.load:=by show [e.1.load].sum=_;rw[u0,N6,aI]
theorem oB (e:N×T):SS [e]=e.2.size:=rfl
section
variable {la:Bool} {H:Nat}
structure wV (la:Bool) (H:Nat) (l:List (N×T)):Prop where
 g:N.A3 (l.map (fun ζ=>ζ.1))
 w:N.nX (l.map (fun ζ=>ζ.1))
 sh:N.nP (l.map (fun ζ=>ζ.1))
 ld:(N.n8 (T.reads (l.map (fun ζ=>ζ.2)))).sum<=LS l
 n2:most (N.O1 (l.map (fun ζ=>ζ.1)))<=2
 tn:most (N.O1 (T.reads (l.map (fun ζ=>ζ.2))))<=most (N.O1 (l.map (fun ζ=>ζ.1)))
 xh:N.hs (l.map (fun ζ=>ζ.1))<=H
 th:T.hs (l.map (fun ζ=>ζ.2))<=H
 p:∀ t,t∈l.map (fun ζ=>ζ.2)->k9 (P1 la) t
 k:∀ text m,N.I5 text m (l.map (fun ζ=>ζ.1))->I8 text m (l.map (fun ζ=>ζ.1)) (T.reads (l.map (fun ζ=>ζ.2)))
theorem wV.of {l:List (N×T)} (h:∀ e,e∈l->Dr la H e):wV la H l:=by
 have nm (x:N) (hx:x∈l.map (fun ζ=>ζ.1)):x.nest<=most (N.O1 (l.map (fun ζ=>ζ.1))):=vF (by rw[N.qK];exact j4.mpr ⟨x,hx,rfl⟩)
 have n2:most (N.O1 (l.map (fun ζ=>ζ.1)))<=2:=vE (by decide) fun y hy=>by
  rw[N.qK] at hy
  obtain⟨x,hx,rfl⟩:=j4.mp hy
  obtain⟨e,he,rfl⟩:=j4.mp hx
  exact(h e he).n2
 have tn:most (N.O1 (T.reads (l.map (fun ζ=>ζ.2))))<=most (N.O1 (l.map (fun ζ=>ζ.1))):=AQ (fQ _) fun t ht=>by
  obtain⟨e,he,rfl⟩:=j4.mp ht
  exact o9 (h e he).tn (nm _ (j4.mpr ⟨e,he,rfl⟩))
 have p:∀ t,t∈l.map (fun ζ=>ζ.2)->k9 (P1 la) t:=fun t ht=>by
  obtain⟨e,he,rfl⟩:=j4.mp ht
  exact(h e he).p
 have th:T.hs (l.map (fun ζ=>ζ.2))<=H:=mW fun t ht=>by
  obtain⟨e,he,rfl⟩:=j4.mp ht
  exact(h e he).th
 suffices q:N.A3 (l.map (fun ζ=>ζ.1))/\N.nX (l.map (fun ζ=>ζ.1))/\N.nP (l.map (fun ζ=>ζ.1))/\(N.n8 (T.reads (l.map (fun ζ=>ζ.2)))).sum<=LS l/\N.hs (l.map (fun ζ=>ζ.1))<=H/\∀ text m,N.I5 text m (l.map (fun ζ=>ζ.1))->I8 text m (l.map (fun ζ=>ζ.1)) (T.reads (l.map (fun ζ=>ζ.2))) from
  ⟨q.1,q.2.1,q.2.2.1,q.2.2.2.1,n2,tn,q.2.2.2.2.1,th,p,q.2.2.2.2.2⟩
 clear nm n2 tn p th
 induction l with
 | nil=>exact⟨trivial,trivial,trivial,z0 0,v7 _,fun ζ ζ ζ=>.nil⟩
 | cons e l ih=>
  have a:=h e f9
  obtain⟨b1,b2,b3,b4,b5,b6⟩:=ih fun x hx=>h x (l6 _ hx)
  refine⟨⟨a.g,b1⟩,⟨a.w,b2⟩,⟨a.sh,b3⟩,?_,U3.mpr ⟨a.xh,b5⟩,fun text m hs=>.cons (a.k text m hs.1) (b6 text m hs.2)⟩
  show(e.2.read.load::N.n8 (T.reads (l.map (fun ζ=>ζ.2)))).sum<=(e.1.load::N.n8 (l.map (fun ζ=>ζ.1))).sum
  rw[u0,u0]
  exact eW a.ld b4
theorem DH {l:List (N×T)} (h:∀ e,e∈l->Dr la H e):0<=LS l:=N.jY _ (wV.of h).g
theorem OA {l:List (N×T)} (h:∀ e,e∈l->Dr la H e) {e:N×T} (he:e∈l):e.1.load<=LS l:=by
 induction l with
 | nil=>cases he
 | cons a l ih=>
  have h1:=N.P9 a.1 (h a f9).g
  have h2:=DH fun x hx=>h x (l6 _ hx)
  have e1:LS (a::l)=a.1.load+LS l:=by rw[show a::l=[a]++l from rfl,iU,lG]
  rcases v5.mp he with rfl | he
  ·lia
  ·have:=ih (fun x hx=>h x (l6 _ hx)) he;lia
noncomputable def dU (la row:Bool) (tk:List (N×T)):N×T:=bif row then(.row (tk.map (fun ζ=>ζ.1)),C5 (tk.map (fun ζ=>ζ.2)) (fl la)) else(.choice (tk.map (fun ζ=>ζ.1)),wH (tk.map (fun ζ=>ζ.2)) (fl la))
theorem Nn {tk:List (N×T)} (hz:2<=tk.length) (hl:tk.length<=1000) (h:∀ e,e∈tk->Dr la H e) (row:Bool):Dr la (H+1) (dU la row tk)/\(dU la row tk).1.load=LS tk/\(dU la row tk).2.size=SS tk+1:=by
 have D:=wV.of h
 have pos:1<=LS tk:=by
  match tk,hz,h with
  | a::l,_,h=>
   have h1:=N.P9 a.1 (h a f9).g
   have h2:=OA h (e:=a) f9
   lia
 have mx:max 1 (LS tk)=LS tk:=by lia
 match tk,hz,hl,D,mx with
 | a::b::l,_,hl,D,mx=>
  have hl':((a::b::l).map (fun ζ=>ζ.1)).length<100000:=by rw[i9];exact Y9 hl (by decide)
  induction row using Bool.casesOn with
  | true=>
   refine⟨⟨D.g,D.w,⟨hl',D.sh⟩,?_,D.n2,D.tn,u6 D.xh,u6 D.th,.mk (LI _ _) D.p,fun text m hs=>I8.row D.g (D.k text m hs)⟩,mx,rfl⟩
   show max 1 (N.n8 (T.reads ((a::b::l).map (fun ζ=>ζ.2)))).sum<=max 1 (LS (a::b::l))
   have:=D.ld;lia
  | false=>
   refine⟨⟨⟨by rw[i9];lia,D.g⟩,D.w,⟨hl',D.sh⟩,?_,D.n2,D.tn,u6 D.xh,u6 D.th,.mk (Am _ _) D.p,fun text m hs=>I8.choice (by rw[i9];lia) (D.k text m hs)⟩,mx,rfl⟩
   show max 1 (N.n8 (T.reads ((a::b::l).map (fun ζ=>ζ.2)))).sum<=max 1 (LS (a::b::l))
   have:=D.ld;lia
theorem Ce (l:List (N×T)) (m:Nat) (row:Bool):B5 la l m row=bif (l.drop (l.length-m)).length==1 then l else l.take (l.length-m)++[dU la row (l.drop (l.length-m))]:=by
 unfold B5 dU
 induction row using Bool.casesOn<;>rfl
structure gD (la:Bool) (j sb:Nat) (l:List (N×T)):Prop where
 d:∀ e,e∈l->Dr la (j+1) e
 ll:LS l<=6*j
 s:SS l<=sb
 n:l.length<=j
 z:1<=j->1<=l.length
theorem MO {l:List (N×T)} {j S m:Nat} {L:Int} (d:∀ e,e∈l->Dr la j e) (hl:LS l<=L) (hs:SS l<=S) (hz:1<=l.length) (hn:l.length<=1000) (hm:1<=m) (row:Bool) :
  (∀ e,e∈B5 la l m row->Dr la (j+1) e)/\LS (B5 la l m row)<=L/\SS (B5 la l m row)<=S+1/\1<=(B5 la l m row).length/\(B5 la l m row).length<=l.length/\(2<=m->2<=l.length->(B5 la l m row).length<l.length):=by
 rw[Ce]
 let tk:=l.drop (l.length-m)
 have htk:tk.length=min m l.length:=by show(l.drop _).length=_;rw[cW];exact(Nat.sub_sub_eq_min _ _).trans (Nat.min_comm _ _)
 have XQ:l.take (l.length-m)++tk=l:=QH _ _
 cases e:tk.length==1 with
 | true=>
  have e1:=eq_of_beq e
  show(∀ e,e∈l->_)/\LS l<=L/\SS l<=S+1/\1<=l.length/\l.length<=l.length/\_
  exact⟨fun e he=>(d e he).up (J5 j),hl,by lia,hz,g7 _,fun a b=>by lia⟩
 | false=>
  have e1:=beq_eq_false_iff_ne.mp e
  have h2:2<=tk.length:=by lia
  have Nr:∀ e,e∈tk->Dr la j e:=fun e he=>d e (List.mem_of_mem_drop he)
  obtain⟨p1,p2,p3⟩:=Nn (la:=la) (H:=j) h2 (by lia) Nr row
  have q1:LS l=LS (l.take (l.length-m))+LS tk:=by rw[<-iU,XQ]
  have q2:SS l=SS (l.take (l.length-m))+SS tk:=by rw[<-lJ,XQ]
  have q3:(l.take (l.length-m)).length=l.length-m:=by rw[eZ];lia
  show(∀ e,e∈l.take (l.length-m)++[dU la row tk]->_)/\LS (l.take (l.length-m)++[dU la row tk])<=L/\SS (l.take (l.length-m)++[dU la row tk])<=S+1/\1<=(l.take (l.length-m)++[dU la row tk]).length/\(l.take (l.length-m)++[dU la row tk]).length<=l.length/\_
  rw[iU,lJ,lG,oB,p2,p3,o7,q3]
  refine⟨fun e he=>?_,by lia,by lia,by show 1<=_+1;lia,by show _+1<=_;lia,fun a b=>?_⟩
  rotate_left
  ·show(l.take (l.length-m)++[dU la row tk]).length<l.length
   rw[o7,q3]
   show l.length-m+1<_
   lia
  rcases n7.mp he with he | he
  ·exact(d e (QD he)).up (J5 j)
  ·cases j5.mp he;exact p1
theorem Gv {l:List (N×T)} {j:Nat} (d:∀ e,e∈l->Dr la j e):0<=LS l:=DH d
theorem Ad (c:Int):(cD c).low<3/\(cD c).more<4:=⟨(jQ _ 3 (by decide)).2,(jQ _ 4 (by decide)).2⟩
theorem RY (o:Od):eO la (o.sign la):=by
 unfold Od.sign
 cases o.kind==2
 ·exact Jt o.what
 ·exact Js o.what
theorem aE8 {l:List (N×T)} {j sb:Nat} (h:gD la j sb l) (c:Int) (hj:j<9):gD la (j+1) (2*sb+2) (R0 la l (j+1) (cD c)):=by
 let o:=cD c
 have b1:=(Ad c).1
 have b2:=(Ad c).2
 have aN1:=Gv h.d
 have hl:=h.ll
 have hs:=h.s
 have hn:=h.n
 have up (e:N×T) (he:e∈l):Dr la (j+1+1) e:=(h.d e he).up (J5 _)
 have push (a:List (N×T)) (z:N×T) (ha:∀ e,e∈a->Dr la (j+1+1) e) (hz:Dr la (j+1+1) z) (h1:LS a+z.1.load<=6*(j+1)) (h2:SS a+z.2.size<=2*sb+2) (h3:a.length<=j):gD la (j+1) (2*sb+2) (a++[z]):=by
  refine⟨fun e he=>?_,?_,?_,?_,fun ζ=>?_⟩
  ·rcases n7.mp he with he | he
   ·exact ha e he
   ·cases j5.mp he;exact hz
  ·rw[iU,lG];exact h1
  ·rw[lJ,oB];exact h2
  ·rw[o7];exact u6 h3
  ·rw[o7];exact bS _ _
 have dD:=RY (la:=la) o
 have leaf:gD la (j+1) (2*sb+2) (l++[o.leaf la]):=by
  unfold Od.leaf
  cases decide (3<=o.kind)&&decide (o.kind<6) with
  | false=>exact push l (o.sign la) up (dD.1.up (by lia)) (by have:=dD.2.2.1;lia) (by have:=dD.2.1;lia) hn
  | true=>
   obtain⟨p1,p2,p3⟩:=VS (la:=la) (H:=1) (x:=(o.sign la).1) (t:=(o.sign la).2) dD.1 b1 b2 o.lz o.k7
   exact push l (o.loop la (o.sign la)) up (p1.up (by lia)) (by have:=dD.2.2.1;have p2:(o.loop la (o.sign la)).1.load<=_:=p2;lia) (by have:=dD.2.1;have p3:(o.loop la (o.sign la)).2.size<=_:=p3;lia) hn
 unfold R0
 cases e:decide (o.kind<6)||l.isEmpty with
 | true=>exact leaf
 | false=>
  show gD la (j+1) (2*sb+2) (Option.casesOn (motive:=fun ζ=>List (N×T)) l.getLast? [] fun z=>bif o.kind==6 then l.dropLast++[o.loop la z] else bif o.kind==7 then l.dropLast++[bW la (j+1) o.lz z] else bif o.twice z.1 then B5 la (l++[z]) 2 true else B5 la l (bif o.k7 then 2 else 3) (o.kind==8))
  rcases qM l with rfl |⟨l',z,rfl⟩
  ·rw[EC] at e;cases e.2
  rw[oV,oS]
  show gD la (j+1) (2*sb+2) (bif o.kind==6 then l'++[o.loop la z] else bif o.kind==7 then l'++[bW la (j+1) o.lz z] else bif o.twice z.1 then B5 la (l'++[z]++[z]) 2 true else B5 la (l'++[z]) (bif o.k7 then 2 else 3) (o.kind==8))
  have hz:=h.d z (n7.mpr (.inr (j5.mpr rfl)))
  have up' (e:N×T) (he:e∈l'):Dr la (j+1+1) e:=up e (n7.mpr (.inl he))
  have lp':0<=LS l':=DH up'
  have zp:=N.P9 z.1 hz.g
  rw[iU,lG] at hl
  rw[lJ,oB] at hs
  rw[o7] at hn
  have hn:l'.length+1<=j:=hn
  cases o.kind==6 with
  | true=>
   obtain⟨p1,p2,p3⟩:=VS (la:=la) (H:=j+1) (x:=z.1) (t:=z.2) hz b1 b2 o.lz o.k7
   exact push l' (o.loop la z) up' p1 (by have p2:(o.loop la z).1.load<=_:=p2;lia) (by have p3:(o.loop la z).2.size<=_:=p3;lia) (by lia)
  | false=>
  cases o.kind==7 with
  | true=>
   obtain⟨p1,p2,p3,_⟩:=Nm (la:=la) (H:=j+1) hz (num:=j+1) (by lia) o.lz
   exact push l' _ up' p1 (by rw[p2];lia) (by rw[p3];lia) (by lia)
  | false=>
  have dz:∀ e,e∈l'++[z]->Dr la (j+1) e:=h.d
  cases et:o.twice z.1 with
  | true=>
   have hlt:z.1.load<5:=by
    unfold Od.twice at et
    simp only[N3,decide_eq_true_eq] at et
    exact et.2.2.1
   obtain⟨q1,q2,q3,q4,q5,q6⟩:=MO (la:=la) (l:=l'++[z]++[z]) (j:=j+1) (S:=2*sb+1) (m:=2) (L:=6*(j+1)) (fun e he=>by
     rcases n7.mp he with he | he
     ·exact dz e he
     ·cases j5.mp he;exact hz) (by rw[iU,iU,lG];lia) (by rw[lJ,lJ,oB];lia) (by rw[o7];exact bS _ _) (by rw[o7,o7];show l'.length+1+1<=_;lia) (by decide) true
   refine⟨q1,q2,q3,?_,fun ζ=>q4⟩
   have:=q6 (g7 2) (by rw[o7,o7];show 2<=l'.length+1+1;lia)
   rw[o7,o7] at this
   have:(B5 la (l'++[z]++[z]) 2 true).length<l'.length+1+1:=this
   show(B5 la (l'++[z]++[z]) 2 true).length<=_
   lia
  | false=>
   obtain⟨q1,q2,q3,q4,q5,q6⟩:=MO (la:=la) (l:=l'++[z]) (j:=j+1) (S:=2*sb+1) (m:=bif o.k7 then 2 else 3) (L:=6*(j+1)) dz (by rw[iU,lG];lia) (by rw[lJ,oB];lia) (by rw[o7];exact bS _ _) (by rw[o7];show l'.length+1<=_;lia) (by cases o.k7<;>decide) (o.kind==8)
   refine⟨q1,q2,q3,?_,fun ζ=>q4⟩
   rw[o7] at q5
   have:(B5 la (l'++[z]) (bif o.k7 then 2 else 3) (o.kind==8)).length<=l'.length+1:=q5
   show(B5 la (l'++[z]) (bif o.k7 then 2 else 3) (o.kind==8)).length<=_
   lia
end
end
theorem k9.Rb {P:T->Prop} {t:T} (h:k9 P t):k9 (k9 P) t:=by
 induction h with
 | mk p q ih=>exact .mk (.mk p q) ih
theorem k9.and {P Q:T->Prop} {t:T} (h:k9 P t) (g:k9 Q t):k9 (fun t=>P t/\Q t) t:=by
 induction h with
 | mk p q ih=>exact .mk ⟨p,g.here⟩ fun s hs=>ih s hs (g.sub hs)
theorem aD8:∀{l:List T} {t:T},t∈l->t.size<=T.sizes l:=by
 intro b7
 induction b7 with
 | nil=>intro b8 b9;first | exact nomatch b9 | exact nomatch b8 | cases b9 | cases b8
 | cons x l IH=>
  intro t h
  show t.size<=x.size+T.sizes l
  rcases v5.mp h with rfl | h
  ·lia
  ·have:=IH h;lia
theorem Es {S n:Nat}:∀ t:T,t.size<=S->t.nn<=n->k9 (fun s=>s.size<=S/\s.nn<=n) t:=T.aQ fun t ih h1 h2=>.mk ⟨h1,h2⟩ fun s hs=>ih s (T.h_mem hs) (by have:=aD8 hs;rw[T.dW] at h1;lia) (k6 (AU hs) h2)
theorem Fp {S:Nat} (hS:S+10<=d9) {t:T} (h:t.size<=S):lA t:=by
 unfold lA
 rw[T.dW] at h
 have:=T.wB t.subs
 lia
theorem Zy {M:Nat} (hM:M<=1000):∀ t:T,k9 tO t->t.read.good->t.read.load<=M->k9 (qX M) t:=T.aQ fun t ih hb hg hl=>by
 have row (l:List T) (hsub:∀ s,s∈l->s∈t.subs) (hg:N.A3 (T.reads l)) (hl:(N.n8 (T.reads l)).sum<=M):∀ s,s∈l->k9 (qX M) s:=by
  induction l with
  | nil=>exact fun s h=>absurd h A8
  | cons a l ik=>
   have e:(N.n8 (T.reads (a::l))).sum=a.read.load+(N.n8 (T.reads l)).sum:=u0
   have p1:=N.P9 a.read hg.1
   have p2:=N.jY (T.reads l) hg.2
   intro s hs
   rcases v5.mp hs with rfl | hs
   ·have hm:=hsub s f9
    exact ih s (T.h_mem hm) (hb.sub hm) hg.1 (by lia)
   ·exact ik (fun s h=>hsub s (l6 _ h)) hg.2 (by lia) s hs
 induction t using T.casesOn with
 | cat l f=>exact .mk (fun ζ ζ ζ ζ e=>by cases e) (row l (fun s h=>h) hg (by have:max 1 (N.n8 (T.reads l)).sum<=(M:Int):=hl;lia))
 | alt l f=>exact .mk (fun ζ ζ ζ ζ e=>by cases e) (row l (fun s h=>h) hg.2 (by have:max 1 (N.n8 (T.reads l)).sum<=(M:Int):=hl;lia))
 | loop o s f=>exact .mk (fun ζ ζ ζ ζ e=>by cases e) fun x hx=>by cases j5.mp hx;exact ih s (A1 _) (hb.sub f9) hg.2.2.2.2 (o9 (AH hg.2.2.2.2) hl)
 | rep lo hi s f=>
  refine .mk (fun lo' hi' s' f' e=>?_) fun x hx=>by cases j5.mp hx;exact ih s (A1 _) (hb.sub f9) hg.2.2.2.2 (o9 (AH hg.2.2.2.2) hl)
  injection e with e1 e2 _ _
  subst e1 e2
  obtain⟨b1,_,b3,_⟩:=hb.here lo hi s f rfl
  have:=Ks (lo:=lo) (hi:=hi) (z:=f.lazy) hg.2.2.2.2
  have hl:(N.times lo hi f.lazy s.read).load<=(M:Int):=hl
  exact⟨b1,by omega,b3,by lia⟩
 | cap c nm s f=>
  exact .mk (fun ζ ζ ζ ζ e=>by cases e) fun x hx=>by
   cases j5.mp hx
   refine ih s (A1 _) (hb.sub f9) hg.2.2 ?_
   have:max 1 [s.read.load].sum<=(M:Int):=hl
   rw[u0,N6] at this;lia
 | _=>exact .mk (fun ζ ζ ζ ζ e=>by cases e) fun s hs=>by cases hs
theorem Ow {la:Bool} {text:List Int} (ht:∀ c,c∈text->0<=c/\c<=255) {p:Nat} (hp:p<=text.length) {x:N} {t:T} (d:Dr la 7 (x,t)) (hl:x.load<=30) (hs:t.size<=63):eS la text p x t:=by
 have zN:d9=1000000:=rfl
 have tl:t.read.load<=30:=o9 d.ld hl
 have NV (u:T) (h:k9 (P1 la) u):k9 tO u:=h.imp fun ζ h=>h.1
 have Q (u:T) (h:k9 (P1 la) u):k9 (Q1 la) u:=h.imp fun ζ h=>h.2
 have all (m:Bool) (hx:x.su text m):Kp text m x t.read/\CK text m la t t.l7/\Kp text m x t.l7.read/\Kp text m x t.l7.simp.read:=by
  have a:=d.k text m hx
  have b:=Mg (la:=la) t d.p a.g a.s (by lia)
  have c:=aD2 ht t.l7 (NV _ b.e.p) b.kp.g b.kp.s
  exact⟨a,b,a.trans b.kp,(a.trans b.kp).trans c⟩
 obtain⟨a,b,c,e⟩:=all false (CE x)
 have xh:x.h<=7:=d.xh
 have th:t.h<=7:=d.th
 have ch:t.l7.h<=7:=k6 b.e.h th
 have cn:t.l7.nn<=2:=by
  have:=b.e.n;have:=d.tn;have:=d.n2
  unfold T.nn;have:t.read.nest<=x.nest:=d.tn;have:x.nest<=2:=d.n2;lia
 have cz:t.l7.size<=63:=k6 b.sz hs
 have cl:t.l7.read.load<=30:=o9 b.ld tl
 have cr:k9 (qX 30) t.l7:=Zy (by decide) t.l7 (NV _ b.e.p) c.g cl
 have pw (s:T) (h1:s.size<=63) (h2:s.nn<=2) (h3:k9 (qX 30) s):s.simp.size<=600000:=by
  have h4:=aD5 (M:=30) (by decide) s h3
  have h5:(3*30+4) ^ s.nn<=(3*30+4) ^ 2:=QZ (by decide) h2
  have h6:(3*30+4) ^ s.nn*s.size<=(3*30+4) ^ 2*63:=jG h5 h1
  have h7:(3*30+4) ^ 2*63=556668:=by decide
  lia
 have sH:t.l7.simp.h<=133:=by
  have h1:=aD1 (M:=30) (by decide) t.l7 cr
  have h2:t.l7.nn*(2*30+3)<=2*(2*30+3):=bT _ cn
  lia
 have sz0:=pw t.l7 cz cn cr
 have S:(t.simplified.h<=200)/\(t.simplified.size<=d9)/\t.simplified.simple=true/\k9 (Q1 la) t.simplified/\(∀ m,Kp text m x t.l7.read->Kp text m x t.l7.simp.read->Kp text m x t.simplified.read):=by
  unfold T.simplified
  cases es:t.l7.simple with
  | true=>exact⟨k6 ch (by decide),by show t.l7.size<=_;lia,es,Q _ b.e.p,fun m h ζ=>h⟩
  | false=>exact⟨k6 sH (by decide),by show t.l7.simp.size<=_;lia,aD4 _,aD3 _ (Q _ b.e.p),fun m ζ h=>h⟩
 obtain⟨S1,S2,S3,S4,S5⟩:=S
 have k:=S5 false c e
 have xm:=N.vB x d.g
 refine{th:=k6 th (by decide),xh:=k6 xh (by decide),sh:=S1,ch:=k6 ch (by decide),tz:=by lia,sz:=S2,cz:=by lia,tw:=?_,cw:=?_,xg:=d.g,cg:=c.g,sg:=k.g,xf:=(N.pU (by decide) x d.g hl).1,cf:=(N.pU (by decide) t.l7.read c.g cl).1,sf:=aD6 (L:=30) (by decide) _ S3 k.g (by have:=k.n;have h:x.many<=x.load:=xm;lia),ce:=(WB (c.a p hp)).symm,se:=(WB (k.a p hp)).symm,cm:=c.n,sm:=k.n,cs:=fun h=>?_,ss:=fun h=>?_,p1:=?_,p2:=S3,p3:=Dg t (Q _ d.p)}
 ·exact(Es (n:=t.nn) t hs (g7 _)).imp fun s h=>Fp (S:=63) (by decide) h.1
 ·refine(((Es t.l7 cz cn).and cr.Rb)).imp fun s h=>⟨Fp (S:=63) (by decide) h.1.1,fun lo hi s' f e=>?_⟩
  subst e
  obtain⟨b1,b2,b3,b4⟩:=h.2.here lo hi s' f rfl
  refine⟨b1,by lia,by lia,?_⟩
  have z1:s'.size+1<=63:=h.1.1
  have z2:s'.nn<=2:=k6 (AU (t:=.rep lo hi s' f) f9) h.1.2
  have:=pw s' (by lia) z2 (h.2.sub f9)
  lia
 ·obtain⟨_,_,c',_⟩:=all true (wF x d.g d.w h)
  exact(Fo (c'.a p hp)).symm
 ·obtain⟨_,_,c',e'⟩:=all true (wF x d.g d.w h)
  exact(Fo ((S5 true c' e').a p hp)).symm
 ·exact(Dg _ S4)▸(S3)
theorem WL {x:N} (g:x.good) (sh:x.short) (l:x.load<=30) (h:x.h<=10):iS 40 x:=by
 have f:=N.pU (L:=30) (by decide) x g l
 have p:=N.P9 x g
 exact⟨sh,f.1,f.2,⟨by lia,by lia⟩,by lia⟩
noncomputable def rA:Nat->Nat
 | 0=>0
 | j+1=>2*rA j+2
theorem Aj {la:Bool}:∀(cs:List Int) (j:Nat) (l:List (N×T)),j+cs.length<=5->gD la j (rA j) l->lH la 40 l (j+1) cs/\gD la (j+cs.length) (rA (j+cs.length)) (cG la l (j+1) cs):=by
 intro b7
 induction b7 with
 | nil=>intro j l _ h;exact⟨trivial,h⟩
 | cons c cs ih=>
  intro j l hj h
  have hj:j+(cs.length+1)<=5:=hj
  have st:=aE8 h c (by lia)
  have ih:=ih (j+1) _ (by lia) st
  have dD:=RY (la:=la) (cD c)
  refine⟨⟨WL dD.1.g dD.1.sh (by have:=dD.2.2.1;lia) (k6 dD.1.xh (by decide)),fun e he=>?_,?_,ih.1⟩,?_⟩
  ·have d:=h.d e he
   have l1:=OA h.d he
   have l2:=h.ll
   exact WL d.g d.sh (by lia) (k6 d.xh (by lia))
  ·have:=h.n;lia
  ·have:=ih.2
   rw[show j+1+cs.length=j+(c::cs).length by rw[eY];lia] at this
   exact this
theorem Ud (c0:Int):∀ c,c∈textOf c0->0<=c/\c<=255:=fun c h=>by
 obtain⟨d,_,rfl⟩:=j4.mp h
 unfold qC
 cases d==0<;>cases d==1<;>cases d==2<;>decide
theorem Jr (c0:Int):yP c0<=(textOf c0).length:=by
 unfold yP
 have h1:=oR ((c0.fdiv 6).fmod 6) (b:=((textOf c0).length:Int)+1) (by lia)
 omega
theorem Je (s:List Int):∃ c0 cs x t,cellsOf s=c0::cs/\cs≠[]/\Good c0 cs x t:=by
 let c:=(s.take 6).map fun x=>x.fmod 1000000000000
 have hc:c.length<=6:=by rw[i9,eZ];lia
 have hl:(cellsOf s).length=c.length+(3-c.length):=by unfold cellsOf;rw[o7,cW];rfl
 cases e:cellsOf s with
 | nil=>rw[e] at hl;have:0=c.length+(3-c.length):=hl;lia
 | cons c0 r=>
 induction r using List.casesOn with
 | nil=>rw[e] at hl;have:1=c.length+(3-c.length):=hl;lia
 | cons c1 cs=>
  let la:=gZ c0
  have hn:(c1::cs).length<=5:=by rw[e] at hl;have:(c1::cs).length+1=c.length+(3-c.length):=hl;lia
  have h0:gD la 0 (rA 0) []:=⟨fun e h=>absurd h A8,z0 0,g7 0,g7 0,fun h=>absurd h (by decide)⟩
  have o1:=(Aj (c1::cs) 0 [] (by lia) h0).1
  have o2:=(Aj (c1::cs) 0 [] (by lia) h0).2
  rw[W4,W4] at o2
  rw[W4] at o1
  let l:=cG la [] 1 (c1::cs)
  have lz:1<=l.length:=o2.z (by rw[eY];lia)
  have ln:l.length<=5:=k6 o2.n hn
  have sb:∀ j,j<=5->rA j<=62:=fun j hj=>by
   exact(by decide:∀ j,j<6->rA j<=62) j (lX hj)
  obtain⟨q1,q2,q3,q4,q5,q6⟩:=MO (la:=la) (l:=l) (j:=6) (S:=62) (m:=l.length) (L:=30) (fun e he=>(o2.d e he).up (by lia)) (by have h:LS l<=6*(((c1::cs).length:Nat):Int):=o2.ll;lia) (k6 o2.s (sb _ hn)) lz (by lia) lz true
  have one:∃ z,B5 la l l.length true=[z]:=by
   rw[Ce]
   rw[lZ]
   cases e1:(l.drop 0).length==1 with
   | true=>
    have e2:l.length=1:=eq_of_beq e1
    exact List.length_eq_one_iff.mp e2
   | false=>exact⟨_,rfl⟩
  obtain⟨⟨x,t⟩,hz⟩:=one
  rw[hz] at q1 q2 q3
  rw[lG] at q2
  rw[oB] at q3
  exact⟨c0,c1::cs,x,t,rfl,EP _ _,Ow (Ud c0) (Jr c0) (q1 _ f9) q2 q3,o1,hz,lz,by show l.length<=1000;lia⟩
end Rx.Lake
end
section
open PySem PySem.W PySem.Calls PyProof.Rows
namespace Rx.Lake
section
variable {G:Gd} {e:Ev} {c c' c1:Cx}
theorem O0 {α:Type} {l:List α} {i:Nat} {x:α} (h:l[i]?=some x):i<l.length:=(aK.mp h).1
theorem none_of {α:Type} {o:Option α} (h:o≠none->False):o=none:=by induction o using Option.casesOn with | none=>rfl | some x=>exact(h (nofun)).elim
theorem E6 {α:Type} {P:Prop} {o:Option α} {x:α} (h:o=none) (g:o=some x):P:=by rw[h] at g;exact nn g
theorem A0.free (x:A0 G c) {a:Addr} (h:c.h.get? a=none):c.F a=none:=by
 cases q:c.F a with
 | none=>rfl
 | some o=>exact E6 h (x.sub a o q)
theorem A0.same {F':HM} {vs':List (Option V)} {s':Shared} (x:A0 G c) (g:∀ a o,c.F a=some o->F' a=some o) (sub:∀ a o,F' a=some o->s'.heap.get? a=some o)
  (hc:∀ i,i<c.n->(c.F (c.r i)=none->F' (c.r i)=none)/\∀ o,c.h.get? (c.r i)=some o->s'.heap.get? (c.r i)=some o):A0 G ⟨F',c.r,⟨vs',c.σ.mu⟩,s'⟩:=
 ⟨fun a o h=>g a o (x.base a o h),sub,x.inj,fun i m h=>(x.cell i m h).mono (O0 h) ⟨g,fun ζ ζ=>rfl,g7 _⟩ (hc i (O0 h)).1 (hc i (O0 h)).2,fun i hi=>let ⟨o,h⟩:=x.live i hi;⟨o,(hc i hi).2 o h⟩⟩
theorem A0.put {F':HM} {s':Shared} {i:Nat} {m:M} (x:A0 G c) (hi:i<c.n) (g:∀ a o,c.F a=some o->F' a=some o) (sub:∀ a o,F' a=some o->s'.heap.get? a=some o)
  (hc:∀ b,b≠c.r i->(c.F b=none->F' b=none)/\∀ o,c.h.get? b=some o->s'.heap.get? b=some o) (hl:∃ o,s'.heap.get? (c.r i)=some o) (hm:T7 G ⟨F',c.r,c.σ.R3 i m,s'⟩ i m):A0 G ⟨F',c.r,c.σ.R3 i m,s'⟩:=by
 have len:(c.σ.R3 i m).mu.length=c.n:=M5
 have ne {p:Nat} (hp:p<c.n) (z:p≠i):c.r p≠c.r i:=fun w=>z (x.inj p i hp hi w)
 refine⟨fun a o h=>g a o (x.base a o h),sub,fun p q hp hq=>x.inj p q (len▸hp) (len▸hq),fun p m' h=>?_,fun p hp=>?_⟩
 ·by_cases z:p=i
  ·subst z
   rw[show(c.σ.R3 p m).mu[p]?=some m from gH hi] at h
   have h:=si h;subst h;exact hm
  ·rw[show(c.σ.R3 i m).mu[p]?=c.σ.mu[p]? from N4 (U4 z)] at h
   have hp:=O0 h
   exact(x.cell p m' h).mono hp ⟨g,fun ζ ζ=>rfl,I0 len.symm⟩ (hc _ (ne hp z)).1 (hc _ (ne hp z)).2
 ·by_cases z:p=i
  ·exact z▸(hl)
  ·have hp:p<c.n:=len▸hp
   obtain⟨o,h⟩:=x.live p hp
   exact⟨o,(hc _ (ne hp z)).2 o h⟩
theorem Inv.go (i:Inv e c) (hp:A0 e.G c') (g:Ge c c') (hv:∀(j:Nat) (u:V),c'.σ.vars[j]?=some (some u)->c.σ.vars[j]?=some (some u)) (hN:∀ b,own e.env b->c'.F b=none) (hR:∀ b,own e.env b->∀ j,c.n<=j->j<c'.n->b≠c'.r j)
  (hk:∀ b o,own e.env b->c.h.get? b=some o->c'.h.get? b=some o):Inv e c':=by
 refine⟨hp,hN,fun b hb j hj=>?_,?_⟩
 ·by_cases p:j<c.n
  ·exact(g.B9 j p)▸(i.cF b hb j p)
  ·exact hR b hb j (N7 p) hj
 ·obtain⟨m,cm,⟨o,es,ep,a1,a2⟩,h2,h3⟩:=i.kD
  refine⟨m,cm,⟨o,es,ep,hk _ _ (.inl rfl) a1,a2⟩,fun x a h=>?_,fun j x u q1 q2=>?_⟩
  ·obtain⟨o,h',d⟩:=h2 x a h
   exact⟨o,hk _ _ (.inr ⟨x,h⟩) h',d⟩
  ·obtain⟨v,h4,h5⟩:=h3 j x u q1 (hv j u q2)
   exact⟨v,h4,h5.mono g⟩
theorem Inv.LC (i:Inv e c) {b:Addr} (hb:own e.env b):∃ o,c.h.get? b=some o:=by
 obtain⟨m,cm,⟨o,es,ep,a1,a2⟩,q,_⟩:=i.kD
 rcases hb with rfl |⟨y,h⟩
 ·exact⟨o,a1⟩
 ·obtain⟨o,ho,_⟩:=q y b h
  exact⟨o,ho⟩
noncomputable def Off (e:Ev) (c:Cx) (a:Addr):Prop:=c.F a=none/\(∀ j,j<c.n->a≠c.r j)/\¬own e.env a
theorem Inv.off (i:Inv e c) {a:Addr} (h:c.h.get? a=none):Off e c a:=
 ⟨i.hp.free h,fun j hj q=>by obtain⟨o,g⟩:=i.hp.live j hj;rw[<-q] at g;exact E6 h g,fun hb=>by obtain⟨o,g⟩:=i.LC hb;exact E6 h g⟩
theorem Inv.near {F':HM} {s':Shared} (i:Inv e c) (W:Addr->Prop) (hW:∀ b,W b->Off e c b) (g:∀ a o,c.F a=some o->F' a=some o) (sub:∀ a o,F' a=some o->s'.heap.get? a=some o) (hn:∀ a,F' a≠none->c.F a≠none∨W a)
  (hk:∀ b o,¬W b->c.h.get? b=some o->s'.heap.get? b=some o):Inv e ⟨F',c.r,c.σ,s'⟩:=
 i.go (i.hp.same g sub fun j hj=>have nW:¬W (c.r j):=fun w=>(hW _ w).2.1 j hj rfl;⟨fun h=>none_of fun q=>(hn _ q).elim (fun z=>z h) nW,fun o=>hk _ o nW⟩) ⟨g,fun ζ ζ=>rfl,g7 _⟩ (fun ζ ζ h=>h)
  (fun b hb=>none_of fun q=>(hn _ q).elim (fun z=>z (i.bH b hb)) fun w=>(hW _ w).2.2 hb) (fun ζ ζ j h1 h2=>absurd (Y9 h1 h2) (aM _)) fun b o hb=>hk b o fun w=>(hW _ w).2.2 hb
theorem Step.more {fr:Addr->Prop} (x:Step fr c c1) (hs:∃ h tk,c'.s={c1.s with heap:=h,toks:=tk}) (g:Ge c1 c') (hk:∀ b o,c.h.get? b≠none->c1.h.get? b=some o->c'.h.get? b=some o) (hF:∀ b,c'.F b≠none->c1.F b≠none∨c.h.get? b=none)
  (hR:∀ i,c1.n<=i->i<c'.n->c.h.get? (c'.r i)=none):Step fr c c' where
 same:=by
  obtain⟨h,tk,q⟩:=x.same
  obtain⟨h',tk',q'⟩:=hs
  exact⟨h',tk',by rw[q',q]⟩
 grow a o h:=g.grow _ _ (x.grow _ _ h)
 B9 i hi:=(g.B9 i (W3 hi x.len)).trans (x.B9 i hi)
 len:=k6 x.len g.len
 keep b o h h1 h2:=hk b o (h▸nofun) (x.keep b o h h1 h2)
 live b o h:=let ⟨o',h'⟩:=x.live b o h;⟨o',hk b o' (h▸nofun) h'⟩
 newF b h:=(hF b h).elim (x.newF b) fun q=>.inr (.inl q)
 newR i h1 h2:=by
  by_cases p:i<c1.n
  ·exact(g.B9 i p)▸(x.newR i h1 p)
  ·exact hR i (N7 p) h2
noncomputable abbrev RV (e:Ev):Cx->V->Value->Prop:=i0 e.G
noncomputable abbrev nY {α:Type}:Cx->α->α->Prop:=fun ζ a b=>a=b
noncomputable def rS (r:Nat->Addr) (n:Nat) (a:Addr):Nat->Addr:=fun i=>if i=n then a else r i
theorem rT {r:Nat->Addr} {n:Nat} {a:Addr} {i:Nat} (h:i<n):rS r n a i=r i:=if_neg (yK h)
theorem iN {r:Nat->Addr} {n:Nat} {a:Addr}:rS r n a n=a:=if_pos rfl
theorem AJ {α:Type} {l:List α} {x:α} {i:Nat} (h:i<(l++[x]).length):i<l.length∨i=l.length:=by
 rw[o7] at h
 exact FI (sV h)
noncomputable def Cx.alloc (c:Cx) (a:Addr) (m:M) (s:Shared):Cx:=⟨c.F,rS c.r c.n a,c.σ.alloc m,s⟩
section
variable {a:Addr} {m:M} {s:Shared}
theorem GA:(c.alloc a m s).n=c.n+1:=o7
theorem pD:Ge c (c.alloc a m s):=⟨fun ζ ζ e=>e,fun ζ h=>rT h,by rw[GA];exact J5 _⟩
theorem RQ {j:Nat} (h1:c.n<=j) (h2:j<(c.alloc a m s).n):(c.alloc a m s).r j=a:=by
 rw[show j=c.n from FG (sV (by rw[GA] at h2;exact h2)) h1]
 exact iN
theorem Jf (i:Inv e c) (f:Off e c a) (hk:∀ b o,b≠a->c.h.get? b=some o->s.heap.get? b=some o) (ha:∃ o,s.heap.get? a=some o) (hm:T7 e.G (c.alloc a m s) c.n m):Inv e (c.alloc a m s):=by
 have x:=i.hp
 refine i.go ⟨x.base,fun b o h=>hk b o (fun z=>E6 (z▸f.1) h) (x.sub b o h),fun i j hi hj h=>?_,fun i m' h=>?_,fun i hi=>?_⟩ pD (fun ζ ζ h=>h) i.bH (fun b hb j h1 h2 q=>f.2.2 (by rw[RQ h1 h2] at q;exact q▸hb)) fun b o hb=>hk b o fun z=>f.2.2 (z▸hb)
 ·have h:rS c.r c.n a i=rS c.r c.n a j:=h
  rcases AJ hi with p | p<;>rcases AJ hj with q | q
  ·rw[rT p,rT q] at h;exact x.inj i j p q h
  ·rw[q,iN,rT p] at h;exact absurd h.symm (f.2.1 i p)
  ·rw[p,iN,rT q] at h;exact absurd h (f.2.1 j q)
  ·rw[p,q]
 ·rcases AJ (O0 h) with p | p
  ·rw[show(c.alloc a m s).σ.mu=c.σ.mu++[m] from rfl,aJ p] at h
   exact(x.cell i m' h).mono p pD (fun q=>q) fun o q=>hk _ o (U4 (f.2.1 i p)) q
  ·subst p
   rw[show(c.alloc a m s).σ.mu=c.σ.mu++[m] from rfl,jD (g7 _),lZ] at h
   have h:=si h;subst h;exact hm
 ·show ∃ o,s.heap.get? (rS c.r c.n a i)=some o
  rcases AJ hi with p | p
  ·rw[rT p];obtain⟨o,q⟩:=x.live i p;exact⟨o,hk _ _ (U4 (f.2.1 i p)) q⟩
  ·rw[p,iN];exact ha
theorem Step.alloc {fr:Addr->Prop} (st:Step fr c c1) (ha:c.h.get? a=none) (hs:∃ h tk,s={c1.s with heap:=h,toks:=tk}) (hk:∀ b o,b≠a->c1.h.get? b=some o->s.heap.get? b=some o):Step fr c (c1.alloc a m s):=
 st.more hs pD (fun b o h=>hk b o fun z=>h (z▸ha)) (fun ζ=>.inl) fun j h1 h2=>by rw[RQ h1 h2];exact ha
theorem post_join {Q:V->St->Prop} (st:Step I3 c c1) (ha:c.h.get? a=none) (i:Inv e c1) (f:Off e c1 a) {h':Heap} {tk:Nat} (hk:∀ b o,b≠a->c1.h.get? b=some o->h'.get? b=some o) (ha':∃ o,h'.get? a=some o)
  (hm:T7 e.G (c1.alloc a m {c1.s with heap:=h',toks:=tk}) c1.n m) (q:Q (.loc c1.n) (c1.σ.alloc m)):Post e c (RV e) Q (.ref a) {c1.s with heap:=h',toks:=tk}:=
 ⟨c1.alloc a m _,.loc c1.n,rfl,Jf (s:={c1.s with heap:=h',toks:=tk}) i f hk ha' hm,.alloc (s:={c1.s with heap:=h',toks:=tk}) st ha ⟨_,_,rfl⟩ hk,⟨by rw[show(c1.alloc a m _).r c1.n=a from iN],by rw[GA];exact A1 _⟩,q⟩
end
theorem LU {Q:V->St->Prop} (i:Inv e c) {h':Heap} {tk:Nat} {a:Addr} {m:M} (hk:∀ b o,c.h.get? b=some o->h'.get? b=some o) (ha:c.h.get? a=none) (ha':∃ o,h'.get? a=some o)
  (hm:T7 e.G (c.alloc a m {c.s with heap:=h',toks:=tk}) c.n m) (q:Q (.loc c.n) (c.σ.alloc m)):Post e c (RV e) Q (.ref a) {c.s with heap:=h',toks:=tk}:=
 post_join .refl ha i (i.off ha) (fun b o ζ=>hk b o) ha' hm q
noncomputable def Cx.at (c:Cx) (s:Shared):Cx:={c with s:=s}
theorem Inv.offs {s:Shared} (i:Inv e c) (W:Addr->Prop) (hW:∀ b,W b->Off e c b) (k:∀ b o,¬W b->c.h.get? b=some o->s.heap.get? b=some o):Inv e (c.at s):=
 i.near W hW (fun ζ ζ h=>h) (fun a o h=>k a o (fun w=>E6 (hW a w).1 h) (i.hp.sub a o h)) (fun ζ=>.inl) k
theorem Inv.keeps {s:Shared} (i:Inv e c) (k:∀ b o,c.h.get? b=some o->s.heap.get? b=some o):Inv e (c.at s):=i.offs I3 (fun ζ=>False.elim) fun b o ζ=>k b o
theorem Step.wJ {fr:Addr->Prop} {h':Heap} {tk:Nat} (st:Step fr c c1) (k:∀ b o,c.h.get? b≠none->c1.h.get? b=some o->h'.get? b=some o):Step fr c (c1.at {c1.s with heap:=h',toks:=tk}):=
 st.more ⟨_,_,rfl⟩ ⟨fun ζ ζ h=>h,fun ζ ζ=>rfl,g7 _⟩ k (fun ζ=>.inl) fun i h1 h2=>absurd (Y9 h1 h2) (aM _)
theorem Step.keeps {fr:Addr->Prop} {h':Heap} {tk:Nat} (k:∀ b o,c.h.get? b=some o->h'.get? b=some o):Step fr c (c.at {c.s with heap:=h',toks:=tk}):=Step.refl.wJ fun b o ζ=>k b o
section
variable {α β:Type} {R:Cx->β->α->Prop} {Q:β->St->Prop} {a:α} {b:β}
theorem kJ {h':Heap} {tk:Nat} (i:Inv e c) (k:∀ b o,c.h.get? b=some o->h'.get? b=some o) (r:R (c.at {c.s with heap:=h',toks:=tk}) b a) (q:Q b c.σ):Post e c R Q a {c.s with heap:=h',toks:=tk}:=
 ⟨_,b,rfl,i.keeps (s:={c.s with heap:=h',toks:=tk}) k,.keeps k,r,q⟩
theorem nK {tk:Nat} (i:Inv e c) (r:R (c.at {c.s with toks:=tk}) b a) (q:Q b c.σ):Post e c R Q a {c.s with toks:=tk}:=kJ (h':=c.s.heap) i (fun ζ ζ h=>h) r q
theorem LW {h':Heap} {tk:Nat} {j:Nat} {m:M} (i:Inv e c) (hj:j<c.n) (hF:c.F (c.r j)=none) (hk:∀ b,b≠c.r j->h'.get? b=c.h.get? b) (hl:∃ o,h'.get? (c.r j)=some o)
  (hm:T7 e.G ⟨c.F,c.r,c.σ.R3 j m,{c.s with heap:=h',toks:=tk}⟩ j m) (r:R ⟨c.F,c.r,c.σ.R3 j m,{c.s with heap:=h',toks:=tk}⟩ b a) (q:Q b (c.σ.R3 j m)):Post e c R Q a {c.s with heap:=h',toks:=tk}:=by
 have len:(c.σ.R3 j m).mu.length=c.n:=M5
 have g:Ge c ⟨c.F,c.r,c.σ.R3 j m,{c.s with heap:=h',toks:=tk}⟩:=⟨fun ζ ζ h=>h,fun ζ ζ=>rfl,I0 len.symm⟩
 have nR {P:Prop} (p:Nat) (h1:c.n<=p) (h2:p<(c.σ.R3 j m).mu.length):P:=absurd (Y9 h1 (len▸h2)) (aM _)
 have hk' {b:Addr} {o:Obj} (z:b≠c.r j) (h:c.h.get? b=some o):h'.get? b=some o:=(hk b z).trans h
 refine⟨_,b,rfl,i.go (i.hp.put hj (fun ζ ζ h=>h) (fun p o h=>hk' (fun z=>E6 (z▸hF) h) (i.hp.sub p o h)) (fun p z=>⟨fun h=>h,fun o h=>hk' z h⟩) hl hm) g (fun ζ ζ h=>h) i.bH (fun ζ ζ p h1 h2=>nR p h1 h2) fun p o hb=>hk' (i.cF p hb j hj),?_,r,q⟩
 refine⟨⟨_,_,rfl⟩,g.grow,g.B9,g.len,fun p o h ζ h2=>hk' (h2 j hj) h,fun p o h=>?_,fun ζ=>.inl,fun p h1 h2=>nR p h1 h2⟩
 by_cases z:p=c.r j
 ·exact z▸(hl)
 ·exact⟨o,hk' z h⟩
end
mutual
theorem i0.at {s:Shared}:∀{u:V} {v:Value},i0 G c u v->i0 G (c.at s) u v
 | .val _,_,r=>r
 | .loc _,_,r=>r
 | .tup _,_,Ws=>by obtain⟨a,vs,k,x,y,z,r⟩:=Ws;exact⟨a,vs,k,x,y,z,o8.at r⟩
theorem o8.at {s:Shared}:∀{l:List V} {vs:List Value},o8 G c l vs->o8 G (c.at s) l vs
 | [],_,r=>r
 | _::_,_,Wu=>by obtain⟨u,us,x,r,q⟩:=Wu;exact⟨u,us,x,i0.at r,o8.at q⟩
end
noncomputable def W5 (F:HM) (a:Addr) (o:Obj):HM:=fun b=>if b=a then some o else F b
section
variable {F:HM} {a b:Addr} {o:Obj}
theorem fE:W5 F a o a=some o:=if_pos rfl
theorem pB (h:b≠a):W5 F a o b=F b:=if_neg h
theorem aO (h:F a=none):∀ b p,F b=some p->W5 F a o b=some p:=fun b p e=>by rw[pB fun z=>E6 (o:=F b) (by rw[z];exact h) e];exact e
theorem FY {p:Obj} (h:W5 F a o b=some p):(b=a/\p=o)∨F b=some p:=by
 by_cases z:b=a
 ·rw[z,fE] at h;have h:=si h;exact .inl ⟨z,h.symm⟩
 ·rw[pB z] at h;exact .inr h
theorem yO (h:W5 F a o b≠none):F b≠none∨b=a:=by
 by_cases z:b=a
 ·exact .inr z
 ·rw[pB z] at h;exact .inl h
end
noncomputable def Cx.add (c:Cx) (a:Addr) (o:Obj) (s:Shared):Cx:=⟨W5 c.F a o,c.r,c.σ,s⟩
theorem RN {a:Addr} {o:Obj} {s:Shared} (h:c.F a=none):Ge c (c.add a o s):=⟨aO h,fun ζ ζ=>rfl,g7 _⟩
theorem post_add {α β:Type} {R:Cx->β->α->Prop} {Q:β->St->Prop} {x:α} {y:β} {a:Addr} {o:Obj} (st:Step I3 c c1) (ha:c.h.get? a=none) (i:Inv e c1) (f:Off e c1 a) {h':Heap} {tk:Nat} (hk:∀ b o,b≠a->c1.h.get? b=some o->h'.get? b=some o) (ha':h'.get? a=some o)
  (r:R (c1.add a o {c1.s with heap:=h',toks:=tk}) y x) (q:Q y c1.σ):Post e c R Q x {c1.s with heap:=h',toks:=tk}:=
 ⟨_,y,rfl,i.near (s':={c1.s with heap:=h',toks:=tk}) (·=a) (fun b z=>z▸f) (aO f.1) (fun b p h=>(FY h).elim (fun z=>by rw[z.1,z.2];exact ha') fun h=>hk b p (fun z=>E6 (z▸f.1) h) (i.hp.sub b p h)) (fun ζ=>yO) hk,
  st.more (c':=c1.add a o {c1.s with heap:=h',toks:=tk}) ⟨_,_,rfl⟩ (RN f.1) (fun b o h=>hk b o fun z=>h (z▸ha)) (fun b h=>(yO h).imp id fun z=>by rw[z];exact ha) fun i h1 h2=>absurd (Y9 h1 h2) (aM _),r,q⟩
theorem L8 (h:Heap):h.get? h.objs.size=none:=by
 cases e:h.get? h.objs.size with
 | none=>rfl
 | some o=>exact absurd (DU e) (aM _)
theorem kH {h:Heap} {a:Addr} (q:h.objs.size<=a):h.get? a=none:=by
 cases e:h.get? a with
 | none=>rfl
 | some o=>exact absurd (DU e) (FP.mpr q)
end
section
variable {G:Gd} {e:Ev} {c c':Cx}
theorem G7 {h:Heap} {a:Addr} {vs:Array Value} {k:Nat} (q:h.get? a=some (K5 vs k)):h.IsList a vs:=⟨_,q,rfl,k,rfl⟩
theorem gY {h:Heap} {a:Addr} {vs:Array Value} {k:Nat} (q:h.get? a=some (eE vs k)):h.IsTuple a vs:=⟨_,q,rfl,k,rfl⟩
theorem bind_some {α β:Type} {o:Option α} {f:α->Option β} {y:β} (h:o.bind f=some y):∃ x,o=some x/\f x=some y:=by
 induction o using Option.casesOn with
 | none=>exact nn h
 | some x=>exact⟨x,rfl,h⟩
theorem g9 {α β:Type} {P:Prop} {o:Option α} {f:α->Option β} {y:β} (h:o.bind f=some y) (k:∀ x,o=some x->f x=some y->P):P:=by obtain⟨x,a,b⟩:=bind_some h;exact k x a b
theorem map_some {α β:Type} {o:Option α} {f:α->β} {y:β} (h:o.map f=some y):∃ x,o=some x/\f x=y:=by
 induction o using Option.casesOn with
 | none=>exact nn h
 | some x=>have h:=si h;exact⟨x,rfl,h⟩
theorem p7 {α β:Type} {P:Prop} {o:Option α} {f:α->β} {y:β} (h:o.map f=some y) (k:∀ x,o=some x->f x=y->P):P:=by obtain⟨x,a,b⟩:=map_some h;exact k x a b
theorem dM {d:D} {l:List D} (h:d.E5=some l):d=.lst l:=by induction d using D.casesOn<;>first | exact nn h | exact congrArg D.lst (si h)
theorem NH {d:D} {l:List D} (h:d.rP=some l):d=.tup l:=by induction d using D.casesOn<;>first | exact nn h | exact congrArg D.tup (si h)
theorem zC {d:D} {q:List Int×List D} (h:d.W7=some q):d=.D7 q.1 q.2:=by induction d using D.casesOn<;>first | exact nn h | exact congrArg (fun q=>D.D7 q.1 q.2) (si h)
theorem zV {d:D} {i:Int} (h:d.int?=some i):d=.int i:=by induction d using D.casesOn<;>first | exact nn h | exact congrArg D.int (si h)
theorem UE {d:D} {i:Bool} (h:d.bool?=some i):d=.bool i:=by induction d using D.casesOn<;>first | exact nn h | exact congrArg D.bool (si h)
theorem vM {d:D} {q:Addr×List D} (h:d.obj?=some q):d=.obj q.1 q.2:=by induction d using D.casesOn<;>first | exact nn h | exact congrArg (fun q=>D.obj q.1 q.2) (si h)
theorem aR {v:V} {d:D} (h:v.d?=some d):v=.val d:=by induction v using V.casesOn<;>first | exact nn h | exact congrArg V.val (si h)
theorem iO {v:V} {i:Int} (h:v.int?=some i):v=.val (.int i):=by obtain⟨d,h1,h2⟩:=bind_some h;rw[aR h1,zV h2]
theorem Ff {v:V} {i:Bool} (h:v.bool?=some i):v=.val (.bool i):=by obtain⟨d,h1,h2⟩:=bind_some h;rw[aR h1,UE h2]
theorem AI {v:V} {i:Nat} (h:v.loc?=some i):v=.loc i:=by induction v using V.casesOn<;>first | exact nn h | exact congrArg V.loc (si h)
theorem YZ {m:M} {l:List V} (h:m.list?=some l):m=.list l:=by induction m using M.casesOn<;>first | exact nn h | exact congrArg M.list (si h)
theorem XY {m:M} {l:Addr} (h:m.zT=some l):m=.inst l:=by induction m using M.casesOn<;>first | exact nn h | exact congrArg M.inst (si h)
theorem HS {m:M} {q:List Int×List V} (h:m.mO=some q):m=.dict q.1 q.2:=by induction m using M.casesOn<;>first | exact nn h | exact congrArg (fun q=>M.dict q.1 q.2) (si h)
theorem tF {m:M} {q:Addr×List V} (h:m.attrs?=some q):m=.attrs q.1 q.2:=by induction m using M.casesOn<;>first | exact nn h | exact congrArg (fun q=>M.attrs q.1 q.2) (si h)
theorem ZG (x:A0 G c) {d:List D} {v:Value} (r:Rep G c.F (.lst d) v):W0 c.h.get? (o8 G c (d.map .val)) v:=W0.imp x.sub (fun ζ=>kO.mpr) r
theorem mE (x:A0 G c) {v:Value} {u:V} {l:List V} (r:i0 G c u v) (h:gJ c.σ.mu u=some l) :
  W0 c.h.get? (o8 G c l) v:=by
 induction u using V.casesOn with
 | val d=>
  refine p7 (h:d.E5.map (List.map V.val)=some l) fun ds h1 h2=>?_
  rw[dM h1] at r
  refine h2▸?_
  exact ZG x r
 | loc i=>
  refine g9 (h:(c.σ.mu[i]?).bind M.E5=some l) fun m h1 h2=>?_
  have q:=r.1
  have z:=x.cell i m h1
  induction m using M.casesOn with
  | list l'=>
   have h2:=si h2
   subst h2
   obtain⟨_,vs,k,b,z,r⟩:=z
   exact⟨_,vs,k,q,b,z,r⟩
  | frozen d=>
   refine p7 (h2:d.E5.map (List.map V.val)=some l) fun ds h1 h2=>?_
   have z:Rep G c.F d (.ref (c.r i)):=z
   rw[dM h1,<-q] at z
   refine h2▸?_
   exact ZG x z
  | _=>exact nn h2
 | tup _=>exact nn h
theorem Jj (x:A0 G c) {v:Value} {u:V} {l:List V} (r:i0 G c u v) (h:RX u=some l) :
  Tup c.h.get? (o8 G c l) v:=by
 induction u using V.casesOn with
 | val d=>
  refine p7 (h:d.rP.map (List.map V.val)=some l) fun ds h1 h2=>?_
  rw[NH h1] at r
  refine h2▸?_
  exact Tup.imp x.sub (fun ζ=>kO.mpr) r
 | loc i=>exact nn h
 | tup l'=>
  have h:=si h
  subst h
  exact Tup.imp x.sub (fun ζ h=>h) r
theorem tD (x:A0 G c) {v:Value} {u:V} {l:List V} (r:i0 G c u v) (h:U6 c.σ.mu u=some l) :
  Sq c.h.get? (o8 G c l) v:=by
 unfold U6 at h
 cases q:gJ c.σ.mu u with
 | none=>
  rw[q] at h
  exact(Jj x r h).sq
 | some l'=>
  rw[q] at h
  have h:=si h
  subst h
  exact(mE x r q).sq
theorem vC {α β γ:Type} {f:α->Option β} {R:α->γ->Prop} {S:β->γ->Prop} (hf:∀ a b v,f a=some b->R a v->S b v):∀{l:List α} {bs:List β} {vs:List γ},M8 f l=some bs->p9 R l vs->p9 S bs vs:=by
 intro b7
 induction b7 with
 | nil=>intro _ _ h r;have h:=si h;rw[<-h];exact r
 | cons a l ih=>
  intro bs _ h Yt
  obtain⟨v,vs,q,r,rs⟩:=Yt
  refine g9 (h:(f a).bind (fun b=>(M8 f l).map (fun ζ=>b::ζ))=some bs) fun b h1 h2=>?_
  refine p7 h2 fun bs' h3 h4=>?_
  rw[<-h4,q]
  exact⟨v,vs,rfl,hf a b v h1 r,ih h3 rs⟩
theorem qS (x:A0 G c):∀(n:Nat) {u:V} {d:D} {v:Value},pk n c.σ.mu u=some d->i0 G c u v->Rep G c.h.get? d v:=by
 intro b7
 induction b7 with
 | zero=>
  intro u d v h r
  rw[aR (h:u.d?=some d)] at r
  exact Rep.mono x.sub r
 | succ n ih=>
  intro u d v h r
  induction u using V.casesOn with
  | val d'=>have h:=si h;subst h;exact Rep.mono x.sub r
  | tup l=>
   refine p7 (h:(M8 (pk n c.σ.mu) l).map D.tup=some d) fun ds h1 h2=>?_
   refine h2▸?_
   exact Tup.imp x.sub (fun ζ r=>reps.mpr (vC (R:=i0 G c) (S:=Rep G c.h.get?) (fun u d v h r=>ih h r) h1 (w6.mp r))) r
  | loc i=>
   refine g9 (h:(c.σ.mu[i]?).bind _=some d) fun m h1 h2=>?_
   obtain⟨q,_⟩:=r
   have z:=x.cell i m h1
   subst q
   induction m using M.casesOn with
   | list l=>
    refine p7 (h2:(M8 (pk n c.σ.mu) l).map D.lst=some d) fun ds h1 h2=>?_
    obtain⟨_,vs,k,b,z,r⟩:=z
    refine h2▸?_
    exact⟨_,vs,k,rfl,b,z,reps.mpr (vC (R:=i0 G c) (S:=Rep G c.h.get?) (fun u d v h r=>ih h r) h1 (w6.mp r))⟩
   | dict ks l=>
    refine p7 (h2:(M8 (pk n c.σ.mu) l).map (D.D7 ks)=some d) fun ds h1 h2=>?_
    obtain⟨_,o,kvs,b,p,q,r,z,l⟩:=z
    refine h2▸?_
    exact⟨_,o,kvs,rfl,b,p,q,reps.mpr (vC (R:=i0 G c) (S:=Rep G c.h.get?) (fun u d v h r=>ih h r) h1 (w6.mp r)),z,l⟩
   | frozen d'=>have h2:=si h2;subst h2;exact Rep.mono x.sub (z:Rep G c.F d' (.ref (c.r i)))
   | _=>exact nn h2
theorem Be {q:DictEntry} {es:List DictEntry} {l:List (Int×Value)} (h:Pairs (a1h G.prog G.w) (q::es) l):K8 (fun kv=>(a1h G.prog G.w).is kv.1 q.key=true/\q.val=kv.2) (Pairs (a1h G.prog G.w) es) l:=by
 cases h with
 | cons a b c=>exact⟨_,_,rfl,⟨a,b⟩,c⟩
theorem Bf {l:List (Int×Value)} (h:Pairs (a1h G.prog G.w) [] l):l=[]:=by cases h;rfl
theorem Yu {es:List DictEntry}:∀{a b:List (Int×Value)},Pairs (a1h G.prog G.w) es a->Pairs (a1h G.prog G.w) es b->a=b:=by
 induction es with
 | nil=>intro a b h g;rw[Bf h,Bf g]
 | cons q es ih=>
  intro a b h g
  obtain⟨x,l,e,h1,h2⟩:=Be h
  obtain⟨y,m,e',g1,g2⟩:=Be g
  rw[e,e',ih h2 g2,show x=y from fB ((a1h G.prog G.w).inj _ _ _ h1.1 g1.1) (h1.2.symm.trans g1.2)]
theorem Nk {o:Obj} {a b:List (Int×Value)} (x:o.IsDictOf (a1h G.prog G.w) a) (y:o.IsDictOf (a1h G.prog G.w) b):a=b:=by
 obtain⟨es,ep,_,h1,_,h2,_⟩:=x
 obtain⟨es',ep',_,pX,_,h2',_⟩:=y
 rw[h1] at pX
 injection pX with pX
 subst pX
 exact Yu h2 h2'
theorem Jv {es:List DictEntry}:∀{names:List Str} {a b:List Value},V9 es names a->V9 es names b->a=b:=by
 induction es with
 | nil=>intro _ a b h g;exact(h:a=[]).trans (g:b=[]).symm
 | cons q es ih=>
  intro xs a b h g
  obtain⟨_,x1,us,_,e1,e2,_,h⟩:=h
  obtain⟨_,x2,us',_,f1,f2,_,g⟩:=g
  rw[e1] at f1
  rw[e2,f2,ih h ((xS f1).2▸g)]
theorem Jw {o:Obj} {names:List Str} {a b:List Value} (x:lD o names a) (y:lD o names b):a=b:=by
 obtain⟨es,n,rfl,h⟩:=x
 obtain⟨es',n',h1,h'⟩:=y
 injection h1 with _ _ h1 _
 injection h1 with h1 _
 have:es=es':=List.toArray_inj h1
 subst this
 exact Jv h h'
noncomputable def kd (d:D):Nat:=D.casesOn d 0 (fun ζ=>1) (fun ζ=>2) (fun ζ=>3) (fun ζ=>4) (fun ζ=>5) (fun ζ=>6) (fun ζ ζ=>7) fun ζ ζ=>8
noncomputable def kv (F:HM) (v:Value):Nat:=match v with
 | .none=>0
 | .bool _=>1
 | .int _ _=>2
 | .str _ _=>3
 | .bytes _ _=>4
 | .ref a=>(match F a with
  | some o=>(match o.cls with
   | .type "tuple"=>5
   | .type "list"=>6
   | .type "dict"=>7
   | _=>8)
  | none=>9)
 | _=>9
theorem YL {F:HM} {d:D} {v:Value} (h:Rep G F d v):kv F v=kd d:=by
 induction d using D.casesOn with
 | none=>rw[show v=.none from h];rfl
 | bool b=>rw[show v=.bool b from h];rfl
 | int i=>obtain⟨t,rfl⟩:=h;rfl
 | str i=>obtain⟨t,rfl⟩:=h;rfl
 | bytes i=>obtain⟨t,rfl⟩:=h;rfl
 | tup l=>obtain⟨a,vs,n,rfl,f,_⟩:=h;show(match F a with | some o=>_ | none=>9)=_;rw[f];rfl
 | lst l=>obtain⟨a,vs,n,rfl,f,_⟩:=h;show(match F a with | some o=>_ | none=>9)=_;rw[f];rfl
 | D7 ks l=>
  obtain⟨a,o,kvs,rfl,f,⟨es,n,⟨hc,_⟩,_⟩,_⟩:=h
  show(match F a with | some o=>_ | none=>9)=_
  refine f▸?_
  show(match o.cls with | .type "tuple"=>5 | .type "list"=>6 | .type "dict"=>7 | _=>8)=7
  rw[hc];rfl
 | obj C l=>obtain⟨a,dx,o,vs,rfl,f,_⟩:=h;show(match F a with | some o=>_ | none=>9)=_;rw[f];rfl
noncomputable def Af (P:D->Prop) (n:Nat):Prop:=[P .none,∀ b,P (.bool b),∀ i,P (.int i),∀ i,P (.str i),∀ i,P (.bytes i),∀ l,P (.tup l),∀ l,P (.lst l),∀ k l,P (.D7 k l),∀ k l,P (.obj k l)].getD n True
theorem gX {F:HM} {d d':D} {v:Value} (h:Rep G F d v) (g:Rep G F d' v) (k:Af (fun d'=>Rep G F d' v->d=d') (kd d)):d=d':=
 @D.casesOn (fun d'=>Af (fun d'=>Rep G F d' v->d=d') (kd d')->Rep G F d' v->d=d') d' (fun h=>h) (fun b h=>h b) (fun b h=>h b) (fun b h=>h b) (fun b h=>h b) (fun b h=>h b) (fun b h=>h b) (fun k l h=>h k l) (fun k l h=>h k l) (((YL h).symm.trans (YL g))▸k) g
section
variable {F:HM} {R R':List Value->Prop} {Q:Prop}
theorem BU {a a':Addr} {v:Value} {o o':Obj} (e:v=.ref a) (e':v=.ref a') (f:F a=some o) (f':F a'=some o'):o=o':=si (f.symm.trans ((Ih (e.symm.trans e'))▸f'))
theorem Cy {s:String} {a b:Array Value} {n m:Nat} (h:({cls:=.type s,data:=.seq a n}:Obj)={cls:=.type s,data:=.seq b m}):a=b:=(Hx (OW h).2.2.1).1
theorem W0.two {v:Value} (x:W0 F R v) (y:W0 F R' v) (k:∀ vs,R vs->R' vs->Q):Q:=by
 obtain⟨_,_,_,e,f,_,r⟩:=x;obtain⟨_,_,_,e',f',_,r'⟩:=y
 exact k _ r (Cy (BU e e' f f')▸r')
theorem Tup.two {v:Value} (x:Tup F R v) (y:Tup F R' v) (k:∀ vs,R vs->R' vs->Q):Q:=by
 obtain⟨_,_,_,e,f,_,r⟩:=x;obtain⟨_,_,_,e',f',_,r'⟩:=y
 exact k _ r (Cy (BU e e' f f')▸r')
theorem K8.two {R R':Value->Prop} {P P':List Value->Prop} {l:List Value} (x:K8 R P l) (y:K8 R' P' l) (k:∀ b bs,R b->R' b->P bs->P' bs->Q):Q:=by
 obtain⟨b,bs,e,r,p⟩:=x;obtain⟨b',bs',e',r',p'⟩:=y
 have h:=xS (e.symm.trans e')
 exact k b bs r (h.1▸r') p (h.2▸p')
theorem K8.no {R:Value->Prop} {P:List Value->Prop} {l:List Value} (e:l=[]) (x:K8 R P l):Q:=by obtain⟨_,_,e',_⟩:=x;exact absurd (e'.symm.trans e) (EP _ _)
theorem cO.two {ks ks':List Int} {v:Value} (x:cO G F ks R v) (y:cO G F ks' R' v) (k:ks=ks'->∀ vs,R vs->R' vs->Q):Q:=by
 obtain⟨_,o,kvs,e,f,p,q,r,_⟩:=x
 obtain⟨_,o',kvs',e',f',p',q',r',_⟩:=y
 have h:=Nk (BU e e' f f'▸p) p'
 exact k (q.symm.trans (h▸q')) _ r (h▸r')
theorem gB.two {C C':Addr} {v:Value} (x:gB F C R v) (y:gB F C' R' v) (k:C=C'->∀ vs,R vs->R' vs->Q):Q:=by
 obtain⟨_,dx,o,vs,e,f,f2,p,r⟩:=x
 obtain⟨_,VV,o',vs',e',f',Om,p',r'⟩:=y
 have h:=OW (BU e e' f f')
 have hc:C=C':=by have h:=h.1;injection h
 have hd:dx=VV:=by have h:=h.2.1;injection h
 exact k hc _ r (Jw (si (f2.symm.trans (hd▸Om))▸hc▸p) p'▸r')
end
mutual
theorem Rep.inj {F:HM}:∀(d:D) {d':D} {v:Value},Rep G F d v->Rep G F d' v->d=d'
 | .none,_,_,h,g=>gX h g fun ζ=>rfl
 | .bool b,_,_,h,g=>gX h g fun ζ g=>congrArg D.bool (Ic (sM (Eq.symm h) g))
 | .int i,_,_,h,g=>gX h g fun ζ g=>by obtain⟨_,e⟩:=h;obtain⟨_,e'⟩:=g;exact congrArg D.int (Ig (e.symm.trans e')).1
 | .str i,_,_,h,g=>gX h g fun ζ g=>by obtain⟨_,e⟩:=h;obtain⟨_,e'⟩:=g;exact congrArg D.str (Ii (e.symm.trans e')).1
 | .bytes i,_,_,h,g=>gX h g fun ζ g=>by obtain⟨_,e⟩:=h;obtain⟨_,e'⟩:=g;exact congrArg D.bytes (Ie (e.symm.trans e')).1
 | .tup l,_,_,h,g=>gX h g fun ζ g=>Tup.two h g fun ζ r r'=>congrArg D.tup (t9.inj l r r')
 | .lst l,_,_,h,g=>gX h g fun ζ g=>W0.two h g fun ζ r r'=>congrArg D.lst (t9.inj l r r')
 | .D7 _ l,_,_,h,g=>gX h g fun ζ ζ g=>cO.two h g fun e ζ r r'=>e▸congrArg (D.D7 _) (t9.inj l r r')
 | .obj _ l,_,_,h,g=>gX h g fun ζ ζ g=>gB.two h g fun e ζ r r'=>e▸congrArg (D.obj _) (t9.inj l r r')
theorem t9.inj {F:HM}:∀(l:List D) {l':List D} {vs:List Value},t9 G F l vs->t9 G F l' vs->l=l'
 | [],l',_,h,g=>@List.casesOn _ (fun l'=>t9 G F l' _->[]=l') l' (fun ζ=>rfl) (fun ζ ζ g=>K8.no h g) g
 | d::l,l',_,h,g=>@List.casesOn _ (fun l'=>t9 G F l' _->d::l=l') l' (fun g=>K8.no g h) (fun ζ ζ g=>K8.two h g fun ζ ζ r r' q q'=>congr (congrArg List.cons (Rep.inj d r r')) (t9.inj l q q')) g
end
end
section
variable {G:Gd} {e:Ev} {c c':Cx}
noncomputable def nI (d e:D):Bool:=(B8 d e).getD false
noncomputable def eI (a b:List D) (j:Nat):Bool:=((a[j]?).bind fun d=>(b[j]?).map (nI d)).getD false
theorem BN {a b:D} {as bs:List D} {r:Bool} (h:E7 (a::as) (b::bs)=some r):∃ x y,B8 a b=some x/\E7 as bs=some y/\r=(x&&y):=by
 refine g9 (h:(B8 a b).bind (fun x=>(E7 as bs).map fun y=>x&&y)=some r) fun x h1 h2=>?_
 refine p7 h2 fun y h3 h4=>?_
 exact⟨x,y,h1,h3,h4.symm⟩
theorem Bj:∀{as bs:List D} {r:Bool} {j:Nat} {a b:D},E7 as bs=some r->as[j]?=some a->bs[j]?=some b->B8 a b=some (eI as bs j)
 | a::as,b::bs,_,0,_,_,h,p,q=>by
  have p:=si p
  have q:=si q
  subst p q
  obtain⟨x,y,h1,_⟩:=BN h
  show B8 a b=some (nI a b)
  unfold nI
  rw[h1];rfl
 | a::as,b::bs,_,j+1,_,_,h,p,q=>by
  obtain⟨x,y,_,h2,_⟩:=BN h
  exact Bj (as:=as) (bs:=bs) (j:=j) h2 p q
theorem BL:∀{as bs:List D} {r:Bool},as.length=bs.length->E7 as bs=some r->(List.range as.length).all (eI as bs)=r
 | [],[],_,_,h=>by injection h
 | a::as,b::bs,_,l,h=>by
  obtain⟨x,y,h1,h2,h3⟩:=BN h
  have ih:=BL (bU l) h2
  have e0:eI (a::as) (b::bs) 0=x:=by show nI a b=x;unfold nI;rw[h1];rfl
  rw[eY,QF,EN,PR,e0,h3,<-ih]
  rfl
mutual
theorem Bg:∀(d:D) {r:Bool},B8 d d=some r->r=true
 | .none,_,h=>(G0 h).symm
 | .bool b,_,h=>(G0 h).symm.trans (beq_self_eq_true b)
 | .int b,_,h=>(G0 h).symm.trans (beq_self_eq_true b)
 | .str b,_,h=>(G0 h).symm.trans (beq_self_eq_true b)
 | .bytes b,_,h=>(G0 h).symm.trans (beq_self_eq_true b)
 | .tup l,_,h=>by
  refine p7 (h:(E7 l l).map (fun r=>r&&l.length==l.length)=some _) fun q h1 h2=>?_
  rw[BO l h1,beq_self_eq_true] at h2
  exact h2.symm
 | .lst l,r,h=>by
  induction l using List.casesOn with
  | nil=>exact(G0 h).symm
  | cons a l=>
   have h:(bif (a::l).length==(a::l).length then E7 (a::l) (a::l) else some false)=some r:=h
   rw[beq_self_eq_true] at h
   exact BO (a::l) h
 | .D7 ks l,r,h=>by
  have h:(bif ks==ks then E7 l l else none)=some r:=h
  rw[beq_self_eq_true] at h
  exact BO l h
theorem BO:∀(l:List D) {r:Bool},E7 l l=some r->r=true
 | [],_,h=>(G0 h).symm
 | d::l,_,h=>by
  obtain⟨x,y,h1,h2,h3⟩:=BN h
  rw[h3,Bg d h1,BO l h2];rfl
end
theorem VN:∀{l:List D} {j:Nat} {d:D},l[j]?=some d->dep d<=deps l
 | _::_,0,_,h=>by have h:=si h;rw[<-h];exact yG _ _
 | _::l,j+1,_,h=>k6 (VN (l:=l) (j:=j) h) (yH _ _)
open SeqAt
theorem UJ (b c:Array UInt8):(b.toList==c.toList)=(b==c):=by
 by_cases z:b=c
 ·rw[z,beq_self_eq_true,beq_self_eq_true]
 ·rw[beq_eq_false_iff_ne.mpr z,beq_eq_false_iff_ne.mpr fun y=>z (Array.ext' y)]
theorem WE {s:Shared} {A:Around} {v u:Value} {d d':D} {r:Bool} (hv:Rep G s.heap.get? d v) (hu:Rep G s.heap.get? d' u) (h:B8 d d'=some r) (rc:RcAt A s v u r):EqAt A s v u r:=by
 by_cases q:v=u
 ·subst q
  have:=Rep.inj d hv hu
  subst this
  refine(Bg d h)▸?_
  exact .same _
 ·have ref {a b:Addr} (ha:v=.ref a) (hb:u=.ref b):EqAt A s v u r:=by
   subst ha hb
   exact .of_refs (fun z=>q (by rw[z])) rc
  induction d using D.casesOn with
  | none=>exact absurd ((hv:v=.none).trans (by cases d'<;>first | exact(hu:u=.none).symm | exact nn h)) q
  | bool b=>
   refine p7 (h:d'.bool?.map (fun b'=>b==b')=some r) fun b' h1 h2=>?_
   rw[UE h1] at hu
   rw[show v=.bool b from hv,show u=.bool b' from hu,<-h2]
   exact .bool_bool _ _
  | int b=>
   refine p7 (h:d'.int?.map (fun b'=>b==b')=some r) fun b' h1 h2=>?_
   rw[zV h1] at hu
   obtain⟨t,rfl⟩:=hv
   obtain⟨t',rfl⟩:=hu
   refine h2▸?_
   exact .int_int _ _ _ _
  | str b=>
   refine p7 (h:d'.str?.map (fun b'=>b==b')=some r) fun b' h1 h2=>?_
   cases d'<;>first | exact nn h1;done | skip
   obtain⟨t,rfl⟩:=hv
   obtain⟨t',rfl⟩:=hu
   have h1:=si h1
   subst h1 h2
   exact .str_str _ _ _ _
  | bytes b=>
   refine p7 (h:d'.UI.map (fun b'=>b==b')=some r) fun b' h1 h2=>?_
   cases d'<;>first | exact nn h1;done | skip
   obtain⟨t,rfl⟩:=hv
   obtain⟨t',rfl⟩:=hu
   have h1:=si h1
   subst h1 h2
   exact fun prog w E Q hq=>by
    unfold eqBool
    refine a2a (wpAny_ite_split (fun hab=>absurd (eq_of_beq hab) q) fun ζ=>?_)
    refine a1x (RJ (a2h ?_))
    rw[UJ];exact hq
  | tup l=>
   refine g9 (h:d'.rP.bind _=some r) fun l' h1 ζ=>?_
   rw[NH h1] at hu
   obtain⟨_,_,_,ha,_⟩:=hv
   obtain⟨_,_,_,hb,_⟩:=hu
   exact ref ha hb
  | lst l=>
   refine g9 (h:d'.E5.bind _=some r) fun l' h1 ζ=>?_
   rw[dM h1] at hu
   obtain⟨_,_,_,ha,_⟩:=hv
   obtain⟨_,_,_,hb,_⟩:=hu
   exact ref ha hb
  | D7 ks l=>
   refine g9 (h:d'.W7.bind _=some r) fun l' h1 ζ=>?_
   rw[zC h1] at hu
   obtain⟨_,_,_,ha,_⟩:=hv
   obtain⟨_,_,_,hb,_⟩:=hu
   exact ref ha hb
  | obj _ _=>exact nn h
theorem Fe {ks:List Int}:∀{kvs:List (Int×Value)},kvs.map (fun ζ=>ζ.1)=ks->ks.Nodup->∀{j:Nat} {k:Int} {v:Value},kvs[j]?=some (k,v)->valueAt kvs k=some v:=by
 intro kvs
 induction kvs generalizing ks with
 | nil=>intro _ _ j k v e;exact nn e
 | cons p r ih=>
  intro h1 h2 j k v e
  subst h1
  have h2:(p.1::r.map (fun ζ=>ζ.1)).Nodup:=h2
  rw[H8] at h2
  unfold valueAt
  induction j using Nat.casesOn with
  | zero=>have e:=si e;subst e;simp
  | succ j=>
   have e':r[j]?=some (k,v):=e
   have:=ih (ks:=r.map (fun ζ=>ζ.1)) rfl h2.2 e'
   unfold valueAt at this
   have hne:p.1≠k:=fun q=>h2.1 (q▸j4.mpr ⟨(k,v),aL e',rfl⟩)
   simp[hne,this]
theorem Rk {A:Around} {s:Shared} {kb:List (Int×Value)} {ka:List (Int×Value)}:∀{kc:List (Int×Value)} {as bs:List D},ka.map (fun ζ=>ζ.1)=kc.map (fun ζ=>ζ.1)->ka.length=as.length->kc.length=bs.length->
  (∀(j:Nat) (k:Int) (v:Value),kc[j]?=some (k,v)->valueAt kb k=some v)->
  (∀(j:Nat) (v u:Value),(ka.map (fun ζ=>ζ.2))[j]?=some v->(kc.map (fun ζ=>ζ.2))[j]?=some u->EqAt A s v u (eI as bs j))->∀{r:Bool},(List.range as.length).all (eI as bs)=r->KeqHits A s kb ka r:=by
 induction ka with
 | nil=>
  intro kc as bs h1 h3 h4 hv he r h
  rw[<-h,<-h3]
  exact .nil
 | cons p ka ih=>
  intro kc as bs h1 h3 h4 hv he r h
  induction kc using List.casesOn with
  | nil=>exact nomatch h1
  | cons q kc=>
  induction as using List.casesOn with
  | nil=>exact nomatch h3
  | cons a as=>
  induction bs using List.casesOn with
  | nil=>exact nomatch h4
  | cons b bs=>
  have e1:q.1=p.1:=(xS h1).1.symm
  rw[eY,QF,EN,PR] at h
  have rr:=ih (xS h1).2 (bU h3) (bU h4) (fun j=>hv (j+1)) (fun j=>he (j+1)) (r:=(List.range as.length).all (eI as bs)) rfl
  refine h▸?_
  exact .hit (hv 0 p.1 q.2 (e1▸rfl)) (he 0 p.2 q.2 rfl rfl) rr
theorem VQ {h:Heap} {a:Addr} {o:Obj} {kvs:List (Int×Value)} {p:Program} {w:World} (ho:h.get? a=some o) (hd:o.IsDictOf (a1h p w) kvs):∀ prog w,h.DictOf (a1h prog w) a kvs:=by
 intro prog w'
 obtain⟨es,ep,h1,h2,h3,h4,h5⟩:=hd
 refine⟨o,es,ep,ho,h1,h2,h3,?_,h5⟩
 clear h3 h5 h2
 generalize es.toList=l at h4
 induction h4 with
 | nil=>exact .nil
 | cons a b _ ih=>exact .cons a b ih
theorem leaf {s:Shared} (A:Around) {v u:Value} {d d':D} {r:Bool} (hv:Rep G s.heap.get? d v) (hu:Rep G s.heap.get? d' u) (h:B8 d d'=some r) (hd:dep d'<=0):RcAt A s v u r/\(vI d=true->RcNeAt A s v u (!r)):=by
 induction d using D.casesOn with
 | none=>
  cases d'<;>first | exact nn h;done | skip
  rw[show v=.none from hv,show u=.none from hu,show r=true from(G0 h).symm]
  exact⟨.none_none,fun ζ=>.none_none⟩
 | bool b=>
  cases d'<;>first | exact nn h;done | skip
  rw[show v=.bool b from hv,show u=.bool _ from hu,show r=(b==_) from(G0 h).symm]
  exact⟨.bool_bool _ _,fun ζ=>.bool_bool _ _⟩
 | int b=>
  cases d'<;>first | exact nn h;done | skip
  obtain⟨t,rfl⟩:=hv
  obtain⟨t',rfl⟩:=hu
  rw[show r=(b==_) from(G0 h).symm]
  exact⟨.int_int _ _ _ _,fun ζ=>.int_int _ _ _ _⟩
 | str b=>
  cases d'<;>first | exact nn h;done | skip
  obtain⟨t,rfl⟩:=hv
  obtain⟨t',rfl⟩:=hu
  rw[show r=(b==_) from(G0 h).symm]
  exact⟨.str_str _ _ _ _,fun ζ=>.str_str _ _ _ _⟩
 | bytes b=>
  cases d'<;>first | exact nn h;done | skip
  obtain⟨t,rfl⟩:=hv
  obtain⟨t',rfl⟩:=hu
  rw[show r=(b==_) from(G0 h).symm]
  exact⟨fun prog w E Q hq=>RJ (by rw[UJ];exact hq),fun z=>by exact ft z⟩
 | tup l=>cases d'<;>first |(exact nn h;done) | exact absurd hd (FQ _)
 | lst l=>cases d'<;>first |(exact nn h;done) | exact absurd hd (FQ _)
 | D7 ks l=>cases d'<;>first |(exact nn h;done) | exact absurd hd (FQ _)
 | obj _ _=>exact nn h
theorem LY {s:Shared}:∀(n:Nat) {A:Around} {v u:Value} {d d':D} {r:Bool},Rep G s.heap.get? d v->Rep G s.heap.get? d' u->B8 d d'=some r->dep d'<=n->A.units+n<cLine->RcAt A s v u r/\(vI d=true->RcNeAt A s v u (!r)):=by
 intro n
 induction n with
 | zero=>
  intro A v u d d' r hv hu h hd hr
  exact leaf A hv hu h hd
 | succ n ih=>
  intro A v u d d' r hv hu h hd hr
  have hin:A.in1.units+n<cLine:=by show A.units+1+n<cLine;lia
  have hun:A.units<cLine:=by lia
  have items {as bs:List D} {vs us:List Value} {r:Bool} (h1:t9 G s.heap.get? as vs) (h2:t9 G s.heap.get? bs us) (h:E7 as bs=some r) (hb:deps bs<=n):∀(j:Nat) (v u:Value),vs[j]?=some v->us[j]?=some u->EqAt A.in1 s v u (eI as bs j):=fun j v u p q=>by
   obtain⟨a,e1,r1⟩:=(reps.mp h1).at p
   obtain⟨b,e2,r2⟩:=(reps.mp h2).at q
   have hp:=Bj h e1 e2
   exact WE r1 r2 hp (ih r1 r2 hp (k6 (VN e2) hb) hin).1
  induction d using D.casesOn with
  | tup l=>
   refine g9 (h:d'.rP.bind _=some r) fun l' h1 h2=>?_
   have:=NH h1
   subst this
   refine p7 h2 fun q h3 h4=>?_
   obtain⟨a,vs,k,rfl,f,_,rv⟩:=hv
   obtain⟨a',us,k',rfl,f',_,ru⟩:=hu
   have H:=items rv ru h3 (yJ hd)
   have l1:=(reps.mp rv).len
   have l2:=(reps.mp ru).len
   have eq:((List.range (min vs.size us.size)).all (eI l l')&&vs.size==us.size)=r:=by
    have s1:vs.size=l.length:=l1.symm
    have s2:us.size=l'.length:=l2.symm
    rw[<-h4,s1,s2]
    by_cases z:l.length=l'.length
    ·rw[<-z,Nat.min_self,BL z h3]
    ·rw[beq_eq_false_iff_ne.mpr z,Y8,Y8]
   have g (j:Nat) (p1:j<vs.size) (p2:j<us.size):=H j vs[j] us[j] (by rw[eV];exact lR p1) (by rw[eV];exact lR p2)
   have R1:=RcAt.tuples (e:=eI l l') (gY f) (gY f') hun g
   have R2:=RcNeAt.tuples (e:=eI l l') (gY f) (gY f') hun g
   rw[eq] at R1 R2
   exact⟨R1,fun ζ=>R2⟩
  | lst l=>
   refine g9 (h:d'.E5.bind _=some r) fun l' h1 h2=>?_
   have:=dM h1
   subst this
   obtain⟨a,vs,k,rfl,f,_,rv⟩:=hv
   obtain⟨a',us,k',rfl,f',_,ru⟩:=hu
   have s1:vs.size=l.length:=(reps.mp rv).len.symm
   have s2:us.size=l'.length:=(reps.mp ru).len.symm
   by_cases z:l.length=l'.length
   ·have h3:E7 l l'=some r:=by
     cases l' with
     | nil=>
      have e0:l=[]:=oU z
      subst e0;exact h2
     | cons x y=>
      have h2:(bif l.length==(x::y).length then E7 l (x::y) else some false)=some r:=h2
      rw[z,beq_self_eq_true] at h2
      exact h2
    have H:=items rv ru h3 (yJ hd)
    have g (j:Nat) (p1:j<vs.size) (p2:j<us.size):=H j vs[j] us[j] (by rw[eV];exact lR p1) (by rw[eV];exact lR p2)
    have R1:=RcAt.lists (e:=eI l l') (G7 f) (G7 f') (by rw[s1,s2];exact z) hun g
    have R2:=RcNeAt.lists (e:=eI l l') (G7 f) (G7 f') (by rw[s1,s2];exact z) hun g
    rw[s1,BL z h3] at R1 R2
    exact⟨R1,fun ζ=>R2⟩
   ·have hr0:r=false:=by
     cases l' with
     | nil=>
      induction l using List.casesOn with
      | nil=>exact absurd rfl z
      | cons _ _=>exact(G0 h2).symm
     | cons x y=>
      have h2:(bif l.length==(x::y).length then E7 l (x::y) else some false)=some r:=h2
      rw[beq_eq_false_iff_ne.mpr z] at h2
      exact(G0 h2).symm
    have zz:(vs.size != us.size)=true:=by rw[s1,s2,bne,beq_eq_false_iff_ne.mpr z];rfl
    refine hr0▸?_
    exact⟨RcAt.lists_lengths (G7 f) (G7 f') zz hun,fun ζ=>RcNeAt.lists_lengths (G7 f) (G7 f') zz hun⟩
  | D7 ks l=>
   refine g9 (h:d'.W7.bind _=some r) fun q h1 h2=>?_
   have:=zC h1
   subst this
   have h2:(bif ks==q.1 then E7 l q.2 else none)=some r:=h2
   cases ek:ks==q.1 with
   | false=>rw[ek] at h2;exact nn h2
   | true=>
    rw[ek] at h2
    have ek:=eq_of_beq ek
    obtain⟨a,o,kvs,rfl,f,p1,q1,rv,z1,_⟩:=hv
    obtain⟨a',o',kvs',rfl,f',p2,q2,ru,z2,_⟩:=hu
    have H:=items rv ru h2 (yJ hd)
    have l1:kvs.length=l.length:=by have:=(reps.mp rv).len;rw[i9] at this;exact this.symm
    have l2:kvs'.length=q.2.length:=by have:=(reps.mp ru).len;rw[i9] at this;exact this.symm
    have kk:kvs.map (fun ζ=>ζ.1)=kvs'.map (fun ζ=>ζ.1):=q1.trans (ek.trans q2.symm)
    have l3:kvs.length=kvs'.length:=by have:=congrArg List.length kk;rwa [i9,i9] at this
    have nd:q.1.Nodup:=by obtain⟨es,ep,_,_,_,_,nd⟩:=p2;rw[q2] at nd;exact nd
    have R:RcAt A s (.ref a) (.ref a') (kvs.length==kvs'.length&&r):=fun prog w E Q hq=>keq_eq z1 z2 (VQ f p1 prog w) (VQ f' p2 prog w) hun (fun ζ=>Rk kk l1 l2 (fun j k v e=>Fe q2 nd e) H (BL (l1.symm.trans (l3.trans l2)) h2)) hq
    rw[l3,beq_self_eq_true] at R
    exact⟨R,fun z=>by exact ft z⟩
  | none=>exact leaf A hv hu h (by cases d'<;>first | exact g7 0 | exact nn h)
  | bool b=>exact leaf A hv hu h (by cases d'<;>first | exact g7 0 | exact nn h)
  | int b=>exact leaf A hv hu h (by cases d'<;>first | exact g7 0 | exact nn h)
  | str b=>exact leaf A hv hu h (by cases d'<;>first | exact g7 0 | exact nn h)
  | bytes b=>exact leaf A hv hu h (by cases d'<;>first | exact g7 0 | exact nn h)
  | obj _ _=>exact nn h
end
section
variable {G:Gd} {e:Ev} {c c':Cx} {Q:V->St->Prop}
theorem HK {b:Bool} {P:Prop} (h:j7 b P):b=true/\P:=by induction b using Bool.casesOn with | true=>exact⟨rfl,h⟩ | false=>exact h.elim
theorem K9 {b:Bool} {P Q:Prop} (h:j7 b Q) (k:b=true->Q->P):P:=k (HK h).1 (HK h).2
theorem aE:d9=1000000:=rfl
theorem aY (i:Inv e c) {x:Int} {t tk:Nat} (q:Q (.val (.int x)) c.σ):Post e c (RV e) Q (.int x t) {c.s with toks:=tk}:=nK (b:=V.val (.int x)) i ⟨t,rfl⟩ q
theorem Kv (i:Inv e c) {x:Bool} {tk:Nat} (q:Q (.val (.bool x)) c.σ):Post e c (RV e) Q (.bool x) {c.s with toks:=tk}:=nK (b:=V.val (.bool x)) i rfl q
theorem U7 (i:Inv e c) {x:Bool} (q:Q (.val (.bool x)) c.σ):Post e c (RV e) Q (.bool x) c.s:=here (b:=V.val (.bool x)) i rfl q
theorem qL (i:Inv e c) {h':Heap} {tk k:Nat} {a:Addr} {vs:Array Value} {l:List V} (hk:∀ b o,c.h.get? b=some o->h'.get? b=some o) (ha:c.h.get? a=none) (hv:h'.get? a=some (K5 vs k)) (hz:vs.size<=d9) (r:o8 e.G c l vs.toList)
  (q:Q (.loc c.n) (c.σ.alloc (.list l))):Post e c (RV e) Q (.ref a) {c.s with heap:=h',toks:=tk}:=
 LU (m:=.list l) i hk ha ⟨_,hv⟩ ⟨by rw[show(c.alloc a (.list l) _).r c.n=a from iN];exact i.hp.free ha,vs,k,by rw[show(c.alloc a (.list l) _).r c.n=a from iN];exact hv,hz,r.mono pD⟩ q
theorem AR (i:Inv e c) {h':Heap} {tk k:Nat} {a:Addr} {vs:Array Value} {l:List D} (hk:∀ b o,c.h.get? b=some o->h'.get? b=some o) (ha:c.h.get? a=none) (hv:h'.get? a=some (K5 vs k)) (hz:vs.size<=d9) (r:t9 e.G c.F l vs.toList)
  (q:Q (.val (.lst l)) c.σ):Post e c (RV e) Q (.ref a) {c.s with heap:=h',toks:=tk}:=
 post_add (y:=V.val (.lst l)) .refl ha i (i.off ha) (fun b o ζ=>hk b o) hv ⟨a,vs,k,rfl,fE,hz,t9.mono (aO (i.hp.free ha)) r⟩ q
theorem F5 {h:Heap} (o:Obj):∀ b p,h.get? b=some p->(h.push o).get? b=some p:=fun b p=>DS _
theorem Uv {x y:Int} (h1:-4611686018427387904<=x) (h2:x<=4611686018427387904):IntMulOk x y:=Ib (intBits_le_64 (by lia) (by lia))
theorem aL5 (i:Inv e c) {o:Operator} {x y:Int} {t u:Tok} (h:Fw o x y c.σ Q):Rn e c (binaryOp o (.int x t) (.int y u)) (RV e) Q:=by
 induction o using Operator.casesOn with
 | Add=>exact PySem.P.add_int (aY i h)
 | Sub=>exact PySem.P.sub_int (aY i h)
 | Mult=>exact PySem.P.mul_int (aY i h.2) (Uv h.1.1 h.1.2)
 | Mod=>exact mod_int' h.1 (aY i h.2)
 | Pow=>
  obtain⟨rfl,rfl,h⟩:=h
  exact pow_int (by decide) (by decide +kernel) (aY i h)
 | BitOr=>exact or_int (aY i h)
 | BitXor=>exact xor_int (aY i h)
 | BitAnd=>exact and_int (aY i h)
 | FloorDiv=>exact floordiv_int (by have:=h.1.1;lia) (aY i h.2) (.inl (PyProof.noPylong_small (by have:=h.1.1;have:=h.1.2;omega)))
 | _=>exact h.elim
theorem Pf {α:Type} (items:Array α):∀(n:Nat) (acc:Array α),(List.foldl (fun x1 x2=>x1++x2) acc (List.replicate n items)).toList=acc.toList++(List.replicate n items.toList).flatten:=by
 intro b7
 induction b7 with
 | zero=>intro acc;exact(u9 _).symm
 | succ n ih=>intro acc;rw[EZ,PT,ih,EZ,ET,xK,D9]
theorem p9.rep {α β:Type} {R:α->β->Prop} {a:List α} {b:List β} (h:p9 R a b):∀ n:Nat,p9 R (List.replicate n a).flatten (List.replicate n b).flatten
 | 0=>rfl
 | n+1=>h.app (h.rep n)
theorem Uw {s:Shared} {A:Around} {E:Value->Shared->Prop} {R:Value->Shared->Prop} {l:Addr} {items:Array Value} {k:Nat} {x:Int} {u:Tok} (hl:s.heap.get? l=some (K5 items k)) (hx:x<=1000) (hs:items.size<=1000)
  (h:R (.ref s.heap.objs.size) {s with heap:=s.heap.push (K5 (List.foldl (fun x1 x2=>x1++x2) #[] (List.replicate (if items.isEmpty=true then 0 else x.toNat) items)) 0)}) (hlo:-(2 ^ 63:Int)<=x) :
  a1s (a1l G.prog G.w) A (binaryOp .Mult (.ref l) (.int x u)) R E s:=by
 have hm:items.size*x.toNat<=1000*1000:=jG hs (by lia)
 exact wpAny_binaryOp_repeat_ref (T:="list") (U:="int") (by decide) ⟨_,hl,rfl⟩ (fun s'=>typeIs_int s' x u) noFill_list_mul F.fills_int_mul OT repeat_list F.slot_int_index.lookup
  (call_meets OT (typeIs_int s x u) F.entry_int_rmul (F.args_int_rmul_2 _ _) (int___rmul___int_list x u l items k)
   ⟨hl,rfl,⟨_,hl,rfl⟩,call_meets F.slot_list_mul ⟨_,hl,rfl⟩ F.entry_list_mul (F.args_list_mul_2 _ _)
    (Hw l items k x u (by simp[Builtin.List.listFitsIndex];lia) (by lia) (by simp[Builtin.List.listTooLong,sizeLine];lia))
    ⟨hl,h⟩⟩)
theorem Fc {a b:Nat} (h:Nat.ble (a+b) d9=true):a+b<=d9:=E0 h
theorem iA {n:Nat} (h:n<=d9):n<=sizeLine:=by rw[aE] at h;rw[a1o];lia
theorem aL0 (i:Inv e c) {v u:Value} {a b:V} (rv:i0 e.G c a v) (ru:i0 e.G c b u) (h:rX a b c.σ Q):Rn e c (binaryOp .Add v u) (RV e) Q:=by
 unfold rX at h
 cases q:(a.E5.bind fun x=>b.E5.map fun y=>(x,y)) with
 | none=>
  rw[q] at h
  refine k8 (h:oe _ _) fun l e1 h=>?_
  refine k8 h fun m e2 h=>?_
  refine K9 h fun hz hq=>?_
  obtain⟨x,vs,k,rfl,h1,z1,r1⟩:=mE i.hp rv e1
  obtain⟨y,us,k',rfl,h2,z2,r2⟩:=mE i.hp ru e2
  have hz:(vs++us).size<=d9:=by rw[sI,show vs.size=_ from(w6.mp r1).len.symm,show us.size=_ from(w6.mp r2).len.symm];exact Fc hz
  exact OX h1 h2 (qL (tk:=c.s.toks) i (F5 _) (L8 _) (aH _ rfl) hz (w6.mpr (by rw[xK];exact(w6.mp r1).app (w6.mp r2))) hq) (iA (sI▸hz))
 | some q'=>
  rw[q] at h
  refine g9 q fun l e1 q=>?_
  refine p7 q fun m e2 q=>?_
  subst q
  refine K9 (h:j7 _ _) fun hz hq=>?_
  refine g9 e1 fun d f1 f2=>?_
  refine g9 e2 fun d' g1 g2=>?_
  rw[aR f1,dM f2] at rv
  rw[aR g1,dM g2] at ru
  obtain⟨x,vs,k,rfl,h1,z1,r1⟩:=rv
  obtain⟨y,us,k',rfl,h2,z2,r2⟩:=ru
  have hz:(vs++us).size<=d9:=by rw[sI,show vs.size=_ from(reps.mp r1).len.symm,show us.size=_ from(reps.mp r2).len.symm];exact Fc hz
  exact OX (i.hp.sub _ _ h1) (i.hp.sub _ _ h2) (AR (tk:=c.s.toks) i (F5 _) (L8 _) (aH _ rfl) hz (reps.mpr (by rw[xK];exact(reps.mp r1).app (reps.mp r2))) hq) (iA (sI▸hz))
theorem aL7 (i:Inv e c) {v u:Value} {a b:V} (rv:i0 e.G c a v) (ru:i0 e.G c b u) (h:Fy a b c.σ Q):Rn e c (binaryOp .Mult v u) (RV e) Q:=by
 refine k8 (h:oe _ _) fun l e1 h=>?_
 obtain⟨n,e2,⟨⟨n1,n2⟩,hl⟩,hq⟩:=vO h
 rw[iO e2] at ru
 obtain⟨t,rfl⟩:=ru
 obtain⟨x,vs,k,rfl,h1,z1,r1⟩:=mE i.hp rv e1
 have s1:vs.size=l.length:=(w6.mp r1).len.symm
 have key:p9 (i0 e.G c) (List.replicate n.toNat l).flatten (List.foldl (fun x1 x2=>x1++x2) #[] (List.replicate (if vs.isEmpty=true then 0 else n.toNat) vs)).toList:=by
  rw[Pf]
  by_cases he:vs.isEmpty=true
  ·have he:=Array.isEmpty_iff.mp he
   subst he
   have:=oU s1.symm
   subst this
   exact(show p9 (i0 e.G c) [] [] from rfl).rep n.toNat |>.imp (fun ζ ζ ζ h=>h) |> fun h=>by simpa using h
  ·refine(if_neg he)▸?_
   exact(w6.mp r1).rep _
 refine Uw h1 n2 (s1▸hl) (qL (tk:=c.s.toks) i (F5 _) (L8 _) (aH _ rfl) ?_ (w6.mpr key) hq) (by lia)
 refine k6 (I0 key.len.symm) ?_
 rw[List.length_flatten,oW,List.sum_replicate_nat,aE]
 exact k6 (jG (show n.toNat<=1000 by lia) hl) (by decide)
theorem Sl {o:Operator} (h:isAdd o=true):o=.Add:=by induction o using PySem.Operator.casesOn<;>first | rfl | cases h
theorem Sp {o:Operator} (h:isMul o=true):o=.Mult:=by induction o using PySem.Operator.casesOn<;>first | rfl | cases h
theorem aL3 (i:Inv e c) {o:Operator} {v u:Value} {a b:V} (rv:i0 e.G c a v) (ru:i0 e.G c b u) (h:rY o a b c.σ Q):Rn e c (binaryOp o v u) (RV e) Q:=by
 unfold rY at h
 cases q:a.int? with
 | some x=>
  rw[q] at h
  refine k8 (h:oe _ _) fun y q2 h=>?_
  rw[iO q] at rv
  rw[iO q2] at ru
  obtain⟨t,rfl⟩:=rv
  obtain⟨t',rfl⟩:=ru
  exact aL5 i h
 | none=>
  rw[q] at h
  rcases tP (h:br _ _ _) with⟨q,h⟩ |⟨_,h⟩
  ·exact(Sl q)▸(aL0 i rv ru h)
  ·rcases tP h with⟨q,h⟩ |⟨_,h⟩
   ·exact(Sp q)▸(aL7 i rv ru h)
   ·exact h.elim
end
section
variable {G:Gd} {e:Ev} {c c':Cx} {Q:V->St->Prop}
noncomputable def zD (mu:List M) (u:V):Option (List Int×List V):=V.casesOn u (fun d=>d.W7.map fun q=>(q.1,q.2.map V.val)) (fun i=>(mu[i]?).bind M.mO) fun ζ=>none
theorem Tc {mu:List M} {u:V}:keysOf mu u=(zD mu u).map (fun ζ=>ζ.1):=by
 induction u using V.casesOn with
 | val d=>show d.W7.map (fun ζ=>ζ.1)=(d.W7.map _).map _;cases d.W7<;>rfl
 | loc i=>rfl
 | tup l=>rfl
theorem Nj {mu:List M} {u:V} {k:Int}:dictAt mu u k=(zD mu u).bind fun q=>(q.1.idxOf? k).bind fun j=>q.2[j]?:=by
 induction u using V.casesOn with
 | val d=>
  show(d.W7.bind fun q=>(q.1.idxOf? k).bind fun j=>(q.2[j]?).map V.val)=(d.W7.map _).bind _
  cases d.W7 with
  | none=>rfl
  | some q=>show(q.1.idxOf? k).bind _=(q.1.idxOf? k).bind _;congr 1;funext j;exact(bR ..).symm
 | loc i=>rfl
 | tup l=>rfl
theorem VP (x:A0 G c) {v:Value} {u:V} {q:List Int×List V} (r:i0 G c u v) (h:zD c.σ.mu u=some q) :
  cO G c.h.get? q.1 (o8 G c q.2) v:=by
 induction u using V.casesOn with
 | val d=>
  refine p7 (h:d.W7.map (fun q=>(q.1,q.2.map V.val))=some q) fun p h1 h2=>?_
  subst h2
  rw[zC h1] at r
  exact cO.imp x.sub (fun ζ=>kO.mpr) r
 | loc i=>
  refine g9 (h:(c.σ.mu[i]?).bind M.mO=some q) fun m h1 h2=>?_
  have z:=x.cell i m h1
  rw[HS h2] at z
  obtain⟨_,o,kvs,b,p,q,r',z,l⟩:=z
  exact⟨_,o,kvs,r.1,b,p,q,r',z,l⟩
 | tup l=>exact nn h
open SeqAt Classical in
noncomputable def gP (G:Gd) (h:Heap) (d:D) (y:Value):Bool:=if q:∃ e,Rep G h.get? e y then nI (Classical.choose q) d else false
theorem Ob {h:Heap} {d e:D} {y:Value} (r:Rep G h.get? e y):gP G h d y=nI e d:=by
 unfold gP
 have q:∃ e,Rep G h.get? e y:=⟨e,r⟩
 rw[dif_pos q,Rep.inj _ (Io q) r]
theorem Za {n:Nat} {A:Around} {s:Shared} {x:Value} {d:D} (hx:Rep G s.heap.get? d x) (hr:A.units+n<cLine) (hd:dep d<=n) {ds:List D}:∀{vs:List Value} {r:Bool},p9 (Rep G s.heap.get?) ds vs->pin d ds=some r->
  (∀ y∈vs,SeqAt.EqAt A s y x (gP G s.heap d y))/\vs.any (gP G s.heap d)=r:=by
 induction ds with
 | nil=>
  intro vs r h q
  rw[show vs=[] from h]
  exact⟨nm,si q⟩
 | cons a ds ih=>
  intro vs r p h
  obtain⟨v,vs,q,h1,h2⟩:=p
  refine g9 (h:(B8 a d).bind (fun x=>(pin d ds).map fun y=>x||y)=some r) fun p e1 h=>?_
  refine p7 h fun y e2 h=>?_
  obtain⟨z1,z2⟩:=ih h2 e2
  have z:gP G s.heap d v=p:=by rw[Ob h1];show(B8 a d).getD false=p;rw[e1];rfl
  subst q
  refine⟨fun u hu=>?_,by rw[sQ,z2,z];exact h⟩
  rcases v5.mp hu with rfl | hu
  ·rw[z];exact WE h1 hx e1 (LY n h1 hx e1 hd hr).1
  ·exact z1 u hu
theorem Ev.units (e:Ev):e.A.units+91<cLine:=by have:=e.room.2.2;unfold cLine;lia
theorem Fd:∀{kvs:List (Int×Value)} (k:Int),(valueAt kvs k).isSome=(kvs.map (fun ζ=>ζ.1)).contains k
 | [],_=>rfl
 | p::r,k=>by
  have ih:=Fd (kvs:=r) k
  unfold valueAt at ih ⊢
  rw[List.find?_cons,N5,List.contains_cons,<-ih,RH,RH]
  by_cases q:p.1=k
  ·rw[q,decide_eq_true rfl,beq_self_eq_true];rfl
  ·rw[decide_eq_false q,beq_eq_false_iff_ne.mpr fun e=>q e.symm];rfl
theorem any_toArray {α:Type} (l:Array α) (p:α->Bool):l.any p=l.toList.any p:=PB.symm
theorem Fv (i:Inv e c) {neg:Bool} {v u:Value} {a b:V} (rv:i0 e.G c a v) (ru:i0 e.G c b u) (h:CY neg a b c.σ Q):Rn e c (compareOp (bif neg then .NotIn else .In) v u) (RV e) Q:=by
 unfold CY at h
 rw[Tc] at h
 cases q:zD c.σ.mu b with
 | some q'=>
  rw[q] at h
  refine k8 (h:oe _ _) fun k e1 h=>?_
  rw[iO e1] at rv
  obtain⟨t,rfl⟩:=rv
  obtain⟨x,o,kvs,rfl,h1,h2,h3,_,h4,_⟩:=VP i.hp ru q
  rcases tP h with⟨_,h⟩ |⟨rfl,h⟩
  ·exact h.elim
  ·refine wpAny_in_of (knd:=a1h e.G.prog e.G.w) (k:=k) (by simp[a1h,Value.isInt]) h4 (gE.mpr ⟨o,h1,h2⟩:c.s.heap.DictOf (a1h e.G.prog e.G.w) x kvs).mapOf ?_
   rw[Fd,h3]
   exact Kv i h
 | none=>
  rw[q] at h
  refine k8 (h:oe _ _) fun d e1 h=>?_
  refine k8 h fun l e2 h=>?_
  refine k8 h fun ds e3 h=>?_
  refine k8 h fun r e4 h=>?_
  refine K9 h fun hd h=>?_
  obtain⟨x,vs,kk,rfl,h1,_,h2⟩:=tD i.hp ru e2
  have hx:=qS i.hp 6 e1 rv
  obtain⟨p1,p2⟩:=Za (A:=e.A.in1) (n:=90) hx (by have:=e.units;show e.A.units+1+90<cLine;lia) (E0 hd) (vC (R:=i0 e.G c) (fun u d v h r=>qS i.hp 6 h r) e3 (w6.mp h2)) e4
  have p1':∀ y,y∈vs->SeqAt.EqAt e.A.in1 c.s y v (gP e.G c.h d y):=fun y hy=>p1 y (Array.mem_toList_iff.mpr hy)
  have p2':vs.any (gP e.G c.h d)=r:=(any_toArray _ _).trans p2
  induction neg using Bool.casesOn with
  | false=>
   have f:Post e c (RV e) Q (.bool (vs.any (gP e.G c.h d))) c.s:=by rw[p2'];exact U7 i h
   rcases h1 with h1 | h1
   ·exact SeqAt.in_listAt _ (G7 h1) p1' f
   ·exact SeqAt.in_tupleAt _ (gY h1) p1' f
  | true=>
   have f:Post e c (RV e) Q (.bool (!vs.any (gP e.G c.h d))) c.s:=by rw[p2'];exact U7 i h
   rcases h1 with h1 | h1
   ·exact SeqAt.notIn_listAt _ (G7 h1) p1' f
   ·exact SeqAt.notIn_tupleAt _ (gY h1) p1' f
theorem uL (i:Inv e c) {neg:Bool} {v:Value} {r:Bool} (hp:plainIs v .none=true) (hr:(v==.none)=r) (h:Q (.val (.bool (bif neg then !r else r))) c.σ):Rn e c (compareOp (bif neg then .IsNot else .Is) v .none) (RV e) Q:=by
 subst hr
 induction neg using Bool.casesOn with
 | false=>exact wpAny_is_plain hp (U7 i h)
 | true=>exact wpAny_isNot_plain hp (U7 i h)
theorem Fx (i:Inv e c) {neg:Bool} {v u:Value} {a b:V} (rv:i0 e.G c a v) (ru:i0 e.G c b u) (h:NS neg a b c.σ Q):Rn e c (compareOp (bif neg then .IsNot else .Is) v u) (RV e) Q:=by
 rcases tP (h:br _ _ _) with⟨q,h⟩ |⟨q,h⟩
 ·refine k8 h fun r e1 h=>?_
  induction b using V.casesOn with
  | val d=>
   induction d using D.casesOn with
   | none=>
    rw[show u=.none from ru]
    induction a using V.casesOn with
    | loc j=>have e1:=si e1;subst e1;rw[rv.1];exact uL i rfl rfl h
    | tup l=>exact nn e1
    | val d=>
     induction d using D.casesOn with
     | none=>have e1:=si e1;subst e1;rw[show v=.none from rv];exact uL i rfl rfl h
     | bool b=>have e1:=si e1;subst e1;rw[show v=.bool b from rv];exact uL i rfl rfl h
     | lst l=>have e1:=si e1;subst e1;obtain⟨x,_,_,rfl,_⟩:=rv;exact uL i rfl rfl h
     | obj C l=>have e1:=si e1;subst e1;obtain⟨x,_,_,_,rfl,_⟩:=rv;exact uL i rfl rfl h
     | _=>exact nn e1
   | _=>exact ft q
  | _=>exact ft q
 ·refine k8 h fun x e1 h=>?_
  refine k8 h fun y e2 h=>?_
  refine g9 e1 fun d f1 f2=>?_
  refine g9 e2 fun d' g1 g2=>?_
  rw[aR f1,vM f2] at rv
  rw[aR g1,vM g2] at ru
  obtain⟨p,dx,o,vs,rfl,p1,p2⟩:=id rv
  obtain⟨p',VV,o',vs',rfl,p1',p2'⟩:=id ru
  by_cases z:p=p'
  ·subst z
   have:=Rep.inj _ rv ru
   injection this with t1 t2
   have hq:=h true fun ζ=>fB t1 t2
   induction neg using Bool.casesOn with
   | false=>exact wpAny_is_ref_self (U7 i hq)
   | true=>exact wpAny_isNot_ref_self (U7 i hq)
  ·have hq:=h false nofun
   induction neg using Bool.casesOn with
   | false=>exact wpAny_is_ref_other z (i.hp.sub _ _ p1) (i.hp.sub _ _ p1') (by simp) (U7 i hq)
   | true=>exact wpAny_isNot_ref_other z (i.hp.sub _ _ p1) (i.hp.sub _ _ p1') (by simp) (U7 i hq)
theorem zU {a b:V} {v u:Value} {f:Int->Int->Prop} (rv:i0 G c a v) (ru:i0 G c b u) (h:jV a b f):∃ x y t t',v=.int x t/\u=.int y t'/\f x y:=by
 refine k8 h fun x e1 h=>?_
 refine k8 h fun y e2 h=>?_
 rw[iO e1] at rv
 rw[iO e2] at ru
 obtain⟨t,rfl⟩:=rv
 obtain⟨t',rfl⟩:=ru
 exact⟨x,y,t,t',rfl,rfl,h⟩
theorem CW (i:Inv e c) {o:CmpOp} {v u:Value} {a b:V} (rv:i0 e.G c a v) (ru:i0 e.G c b u) (h:S8 o a b c.σ Q):Rn e c (compareOp o v u) (RV e) Q:=by
 induction o using CmpOp.casesOn with
 | Eq=>
  refine k8 (h:oe _ _) fun d e1 h=>?_
  refine k8 h fun d' e2 h=>?_
  refine k8 h fun r e3 h=>?_
  refine K9 h fun hd h=>?_
  exact(LY 90 (qS i.hp 6 e1 rv) (qS i.hp 6 e2 ru) e3 (E0 hd) (by have:=e.units;lia)).1 _ _ _ _ (U7 i h)
 | NotEq=>
  refine k8 (h:oe _ _) fun d e1 h=>?_
  refine k8 h fun d' e2 h=>?_
  refine k8 h fun r e3 h=>?_
  refine K9 h fun hd h=>?_
  obtain⟨h1,h2⟩:=(N3 _ _).mp hd
  exact(LY 90 (qS i.hp 6 e1 rv) (qS i.hp 6 e2 ru) e3 (E0 h2) (by have:=e.units;lia)).2 h1 _ _ _ _ (U7 i h)
 | Lt=>obtain⟨x,y,t,t',rfl,rfl,h⟩:=zU rv ru h;exact PySem.P.lt_int (U7 i h)
 | LtE=>obtain⟨x,y,t,t',rfl,rfl,h⟩:=zU rv ru h;exact PySem.P.le_int (U7 i h)
 | Gt=>obtain⟨x,y,t,t',rfl,rfl,h⟩:=zU rv ru h;exact PySem.P.gt_int (U7 i h)
 | GtE=>obtain⟨x,y,t,t',rfl,rfl,h⟩:=zU rv ru h;exact PySem.P.ge_int (U7 i h)
 | Is=>exact Fx (neg:=false) i rv ru h
 | IsNot=>exact Fx (neg:=true) i rv ru h
 | In=>exact Fv (neg:=false) i rv ru h
 | NotIn=>exact Fv (neg:=true) i rv ru h
end
section
variable {G:Gd} {e:Ev} {c c':Cx} {Q:V->St->Prop}
theorem aB7 {α:Type} {l:List α} {k:Int} {v:α} (h:L6 l k=some v):∃ j,l[j]?=some v/\seqIndex? k l.length=some j/\((0<=k/\j=k.toNat)∨(k<0/\-(l.length:Int)<=k/\j=(k+l.length).toNat)):=by
 induction k using Int.casesOn with
 | ofNat n=>
  have h:l[n]?=some v:=h
  exact⟨n,h,seqIndex_of (gG n) (Int.ofNat_lt.mpr (O0 h)),.inl ⟨gG n,rfl⟩⟩
 | negSucc m=>
  have h:(bif Nat.ble (m+1) l.length then l[l.length-(m+1)]? else none)=some v:=h
  cases q:Nat.ble (m+1) l.length with
  | false=>rw[q] at h;exact nn h
  | true=>
   rw[q] at h
   have q:=E0 q
   have e1:(Int.negSucc m+l.length).toNat=l.length-(m+1):=by rw[show Int.negSucc m+(l.length:Int)=(l.length:Int)-((m+1:Nat):Int) from EE _ _];exact xQ _ _
   exact⟨_,h,e1▸seqIndex_neg (by lia) (by lia),.inr ⟨by lia,by lia,e1.symm⟩⟩
theorem Sh:∀{ks:List Int} {k:Int} {j:Nat},ks.idxOf? k=some j->ks[j]?=some k:=by
 intro b7
 induction b7 with
 | nil=>intro b8 b9 e8;first | exact nomatch e8 | exact nomatch b9 | exact nomatch b8 | cases e8 | cases b9 | cases b8
 | cons a ks IH=>
  intro k j h
  rw[sS] at h
  cases q:a==k with
  | true=>rw[q] at h;have h:=si h;rw[<-h,eq_of_beq q];rfl
  | false=>
   rw[q] at h
   refine p7 (h:(ks.idxOf? k).map (fun ζ=>ζ+1)=some j) fun i h1 h2=>?_
   exact h2▸((show ks[i]?=some k from IH h1))
theorem VR {o:Obj} {kvs:List (Int×Value)} (x:o.IsDictOf (a1h G.prog G.w) kvs):(kvs.map (fun ζ=>ζ.1)).Nodup:=by
 obtain⟨es,ep,_,_,_,_,nd⟩:=x;exact nd
theorem aL4 {value slice:PySem.Expr} (hs:∀ o i,subscripted slice false o i=operate [o,i] (getItem o i)) (i:Inv e c) {v u:Value} {a b:V} (rv:i0 e.G c a v) (ru:i0 e.G c b u) (h:N1 a b c.σ Q) :
  Rn e c (subscriptTail value slice v u) (RV e) Q:=by
 refine k8 (h:oe _ _) fun k e1 h=>?_
 rw[iO e1] at ru
 obtain⟨t,rfl⟩:=ru
 cases q:U6 c.σ.mu a with
 | some l=>
  rw[q] at h
  refine k8 (h:oe _ _) fun w e2 h=>?_
  obtain⟨x,vs,kk,rfl,h1,hz,h2⟩:=tD i.hp rv q
  obtain⟨j,e3,e4,e5⟩:=aB7 e2
  obtain⟨y,e6,e7⟩:=(w6.mp h2).get e3
  have e6:vs[j]?=some y:=(eV ..).symm.trans e6
  have s1:l.length=vs.size:=(w6.mp h2).len
  have lj:=O0 e3
  rw[aE] at hz
  have f:Post e c (RV e) Q y c.s:=here i e7 h
  rw[s1] at e4 e5
  rcases h1 with h1 | h1
  ·rcases e5 with⟨p,rfl⟩ |⟨p,p2,rfl⟩
   ·exact sG (G7 h1).typeIs a1p.lookup (wpAny_getItem_list (G7 h1) p (by lia) e6 f) (hs _ _)
   ·exact sG (G7 h1).typeIs a1p.lookup (wpAny_getItem_list_neg (G7 h1) p p2 (by lia) e6 f) (hs _ _)
  ·have T:IsTup c.h x vs:=⟨_,h1,rfl,kk,rfl⟩
   exact sG T.typeIs slot_tuple_getitem.lookup (Ir T (by lia) (by lia) e4 e6 f) (hs _ _)
 | none=>
  rw[q] at h
  refine k8 (h:oe _ _) fun w e2 h=>?_
  rw[Nj] at e2
  refine g9 e2 fun p e3 e4=>?_
  refine g9 e4 fun j e5 e6=>?_
  obtain⟨x,o,kvs,rfl,h1,h2,h3,h4,_⟩:=VP i.hp rv e3
  have D:c.h.DictOf (a1h e.G.prog e.G.w) x kvs:=gE.mpr ⟨o,h1,h2⟩
  obtain⟨y,f1,f2⟩:=(w6.mp h4).get e6
  have g:kvs[j]?=some (k,y):=by
   have g1:=Sh e5
   rw[<-h3,bR] at g1
   rw[bR] at f1
   refine p7 g1 fun z g1 g2=>?_
   rw[g1] at f1
   have f1:=si f1
   rw[g1,<-f1,<-g2]
  exact sG D.typeIs slot_dict_getitem.lookup (wpAny_getItem_of (knd:=a1h e.G.prog e.G.w) (k:=k) (by simp[a1h,Value.isInt]) D.mapOf (Fe rfl (VR h2) g) (nK i f2.at h)) (hs _ _)
noncomputable def RO (e:Ev) (c:Cx) (x:Option V) (v:Value):Prop:=Option.casesOn x (v=.none) fun q=>i0 e.G c q v
theorem LA {x:Option V} {a:Option Int} (h:BE x=some a) {v:Value} (r:RO e c x v):IsPart v a:=by
 induction x using Option.casesOn with
 | none=>have h:=si h;rw[<-h,show v=.none from r];exact .none
 | some u=>
  refine p7 (h:u.int?.map some=some a) fun n h1 h2=>?_
  have r:i0 e.G c u v:=r
  rw[iO h1] at r
  obtain⟨t,rfl⟩:=r
  exact h2▸(.int _ _)
theorem Dj (items:Array Value) (lo hi:Option Int):(slicePick items lo hi none).toList=B3 items.toList lo hi:=by
 rw[slicePick_plain]
 unfold B3
 rw[Array.length_toList,sliceBounds_plain]
 show _=List.take (Int.toNat (_-_)) (List.drop (Int.toNat (Int.ofNat _)) _)
 rw[xQ];rfl
theorem p9.B3 {α β:Type} {R:α->β->Prop} {a:List α} {b:List β} (h:p9 R a b) (lo hi:Option Int):p9 R (Lake.B3 a lo hi) (Lake.B3 b lo hi):=by
 unfold Lake.B3
 refine h.len▸?_
 exact(h.drop _).take _
theorem aL9 {value slice:PySem.Expr} (hs:∀ o i,(∃ ops,subscripted slice false o i=operate ops (getItem o i))) (i:Inv e c) {v x y z:Value} {a:V} {lo hi st:Option V} (rv:i0 e.G c a v) (rx:RO e c lo x) (ry:RO e c hi y) (rz:RO e c st z) (h:Ga a lo hi st c.σ Q) :
  a1s (a1l e.G.prog e.G.w) e.A (subscriptTail value slice v (.ref c.h.objs.size)) (Post e c (RV e) Q) D4 {c.s with heap:=c.h.push {cls:=.type "slice",data:=.fields #[x,y,z]}}:=by
 refine k8 (h:oe _ _) fun lo' f1 h=>?_
 refine k8 h fun hi' f2 h=>?_
 refine k8 h fun st' f3 h=>?_
 have p1:=LA f1 rx
 have p2:=LA f2 ry
 have p3:=LA f3 rz
 have free:c.h.get? (c.h.push {cls:=.type "slice",data:=.fields #[x,y,z]}).objs.size=none:=kH (by rw[xG];exact J5 _)
 have run {ad:Addr} {vs:Array Value} {kk:Nat} {R:Value->Shared->Prop} (h1:c.h.get? ad=some (K5 vs kk)) (hz:vs.size<=d9) (p4:st'≠some 0)
   (f:R (.ref (c.h.push {cls:=.type "slice",data:=.fields #[x,y,z]}).objs.size) {c.s with heap:=(c.h.push {cls:=.type "slice",data:=.fields #[x,y,z]}).push (K5 (slicePick vs lo' hi' st') 0)}) :
   a1s (a1l e.G.prog e.G.w) e.A (subscriptTail value slice (.ref ad) (.ref c.h.objs.size)) R D4 {c.s with heap:=c.h.push {cls:=.type "slice",data:=.fields #[x,y,z]}}:=by
  have hL:(c.h.push {cls:=.type "slice",data:=.fields #[x,y,z]}).IsList ad vs:=G7 (F5 _ _ _ h1)
  exact sG (T:="list") hL.typeIs a1p.lookup (wpAny_getItem_list_slice hL (Ia ..) p1 p2 p3 p4 f (iA hz)) (hs _ _).choose_spec
 have le (vs:Array Value) (hz:vs.size<=d9):(slicePick vs lo' hi' st').size<=d9:=k6 (slicePick_size_le ..) hz
 cases q:a.E5 with
 | none=>
  rw[q] at h
  refine k8 (h:oe _ _) fun l e1 h=>?_
  obtain⟨ad,vs,kk,rfl,h1,hz,h2⟩:=mE i.hp rv e1
  cases st' with
  | none=>exact run h1 hz (fun h=>nn h) (qL (tk:=c.s.toks) i (fun b o g=>F5 _ _ _ (F5 _ _ _ g)) free (aH _ rfl) (le vs hz) (w6.mpr (by rw[Dj];exact(w6.mp h2).B3 lo' hi')) h)
  | some n=>
   obtain⟨⟨rfl,rfl,rfl⟩,hq⟩:=h
   exact run h1 hz (fun h=>absurd (si h) (by decide)) (qL (tk:=c.s.toks) i (fun b o g=>F5 _ _ _ (F5 _ _ _ g)) free (aH _ rfl) (le vs hz) (w6.mpr (by rw[krv_pick];exact(w6.mp h2).rev)) hq)
 | some l=>
  rw[q] at h
  refine g9 q fun d q1 q2=>?_
  rw[aR q1,dM q2] at rv
  obtain⟨ad,vs,kk,rfl,h1,hz,h2⟩:=rv
  have h1:=i.hp.sub _ _ h1
  cases st' with
  | none=>exact run h1 hz (fun h=>nn h) (AR (tk:=c.s.toks) i (fun b o g=>F5 _ _ _ (F5 _ _ _ g)) free (aH _ rfl) (le vs hz) (reps.mpr (by rw[Dj];exact(reps.mp h2).B3 lo' hi')) h)
  | some n=>
   obtain⟨⟨rfl,rfl,rfl⟩,hq⟩:=h
   exact run h1 hz (fun h=>absurd (si h) (by decide)) (AR (tk:=c.s.toks) i (fun b o g=>F5 _ _ _ (F5 _ _ _ g)) free (aH _ rfl) (le vs hz) (reps.mpr (by rw[krv_pick];exact(reps.mp h2).rev)) hq)
end
section
variable {G:Gd} {e:Ev} {c c':Cx} {Q:V->St->Prop}
theorem YD (x:Str) (t:Tok):(Value.str x t).isStr x=true:=by simp[Value.isStr]
theorem YC {x y:Str} (t:Tok) (h:x≠y):(Value.str x t).isStr y=false:=by simp[Value.isStr,h]
theorem V9.len {es:List DictEntry}:∀{xs:List Str} {vs:List Value},V9 es xs vs->es.length=vs.length/\vs.length<=xs.length:=by
 induction es with
 | nil=>intro xs vs h;rw[show vs=[] from h];exact⟨rfl,v7 _⟩
 | cons q es ih=>
  intro xs vs h
  obtain⟨_,_,_,_,e1,e2,_,h⟩:=h
  rw[e1,e2]
  exact⟨congrArg (fun ζ=>ζ+1) (ih h).1,u6 (ih h).2⟩
theorem Cg {q:DictEntry} {x:Str} {t:Tok} (h:q.key=.str x t):q.refKey=false:=by simp[DictEntry.refKey,h]
theorem V9.keys {es:List DictEntry}:∀{xs:List Str} {vs:List Value},V9 es xs vs->es.any (fun ζ=>ζ.refKey)=false:=by
 induction es with
 | nil=>intro _ _ _;rfl
 | cons q es ih=>
  intro xs vs h
  obtain⟨_,_,_,_,_,_,k,h⟩:=h
  rw[sQ,Cg k,ih h];rfl
theorem WV {q:DictEntry} {es:List DictEntry} {x y:Str} {t:Tok} (h:q.key=.str y t) (hne:y≠x):getL x (q::es)=getL x es:=by
 unfold getL
 rw[List.find?_cons_of_neg (by rw[h,YC _ hne];decide),sQ,Cg h,Bool.false_or]
theorem ZR {α:Type} {y x:α} {xs:List α} {j:Nat} (nd:(y::xs).Nodup) (h:xs[j]?=some x):y≠x:=fun w=>(H8.mp nd).1 (w▸aL h)
theorem V9.find {es:List DictEntry}:∀{xs:List Str} {vs:List Value} {x:Str} {v:Value} (j:Nat),V9 es xs vs->xs.Nodup->xs[j]?=some x->vs[j]?=some v->getL x es=some (some v):=by
 induction es with
 | nil=>intro xs vs x v j h _ _ g;rw[show vs=[] from h] at g;exact nn g
 | cons q es ih=>
  intro xs vs x v j h nd h1 h2
  obtain⟨y,xs',us,t,e1,e2,k,h⟩:=h
  rw[e1] at nd h1
  rw[e2] at h2
  induction j using Nat.casesOn with
  | zero=>
   have h1:=si h1
   have h2:=si h2
   unfold getL
   rw[List.find?_cons_of_pos (by rw[k,h1];exact YD _ _),<-h2]
  | succ j=>
   have h1:xs'[j]?=some x:=h1
   rw[WV k (ZR nd h1)]
   exact ih j h (H8.mp nd).2 h1 h2
theorem V9.miss {es:List DictEntry}:∀{xs:List Str} {vs:List Value} {x:Str},V9 es xs vs->x∉xs->getL x es=some none:=by
 induction es with
 | nil=>intro _ _ _ _ _;rfl
 | cons q es ih=>
  intro xs vs x h hx
  obtain⟨y,xs',us,t,e1,e2,k,h⟩:=h
  rw[e1] at hx
  rw[WV k fun w=>hx (w▸f9)]
  exact ih h fun w=>hx (l6 _ w)
theorem aB9 {α:Type} (u:α) (l:List α) (j:Nat) (v:α):setAt (u::l) (j+1) v=u::setAt l j v:=by
 show(bif Nat.blt j l.length then _ else _)=u::(bif Nat.blt j l.length then _ else _)
 cases Nat.blt j l.length<;>rfl
theorem V9.put {x:Str} {v:Value} {hs:Int} {t:Tok} {es:List DictEntry}:∀{xs:List Str} {vs:List Value} (j:Nat),V9 es xs vs->xs.Nodup->xs[j]?=some x->j<=vs.length->V9 (putL x hs (.str x t) v es) xs (setAt vs j v):=by
 induction es with
 | nil=>
  intro xs vs j h nd h1 h2
  rw[show vs=[] from h] at h2 ⊢
  rw[Nat.eq_zero_of_le_zero h2] at h1 ⊢
  induction xs using List.casesOn with
  | nil=>exact nn h1
  | cons y xs=>exact⟨y,xs,[],t,rfl,rfl,by rw[si h1],rfl⟩
 | cons q es ih=>
  intro xs vs j h nd h1 h2
  obtain⟨y,xs',us,t',e1,e2,k,h⟩:=h
  rw[e1] at nd h1 ⊢
  rw[e2] at h2 ⊢
  induction j using Nat.casesOn with
  | zero=>
   have h1:=si h1
   unfold putL
   rw[if_pos (by rw[k,h1];exact YD _ _)]
   exact⟨y,xs',us,t',rfl,rfl,k,h⟩
  | succ j=>
   have h1:xs'[j]?=some x:=h1
   unfold putL
   rw[if_neg (by rw[k,YC _ (ZR nd h1)];decide),aB9]
   exact⟨y,xs',_,t',rfl,rfl,k,ih j h (H8.mp nd).2 h1 (yJ h2)⟩
theorem p9.setAt {α β:Type} {R:α->β->Prop} {a:List α} {b:List β} {x:α} {y:β} (h:p9 R a b) (j:Nat) (r:R x y):p9 R (Lake.setAt a j x) (Lake.setAt b j y):=by
 unfold Lake.setAt
 refine h.len▸?_
 cases Nat.blt j a.length with
 | true=>exact h.set j r
 | false=>exact h.app (.one r)
theorem JO (C:Addr):(aD C).Nodup/\(aD C).length<=19:=by
 unfold aD
 split
 ·exact⟨by decide +kernel,by decide +kernel⟩
 ·split<;>exact⟨by decide +kernel,by decide +kernel⟩
noncomputable def Zl (C:Addr):Bool:=(List.range 19).all fun j=>Option.casesOn (posOf C j) true fun p=>eH[j]?==(aD C)[p]?&&(eH[j]?).isSome
theorem Zm {C:Addr} {j p:Nat} (h:posOf C j=some p):mJ C=true/\Zl C=true/\j<19:=by
 unfold posOf at h
 cases h1:Nat.beq C 55 with
 | true=>
  rw[h1] at h
  have:=I9 h1
  subst this
  refine⟨rfl,by decide +kernel,?_⟩
  cases h2:Nat.blt j 11 with
  | true=>exact W3 (E0 h2) (by decide)
  | false=>rw[h2] at h;exact nn h
 | false=>
  rw[h1] at h
  cases h3:Nat.beq C 202 with
  | true=>
   rw[h3] at h
   have:=I9 h3
   subst this
   refine⟨rfl,by decide +kernel,?_⟩
   cases h2:(Nat.ble 11 j&&Nat.blt j 15) with
   | true=>exact W3 (E0 ((N3 _ _).mp h2).2) (by decide)
   | false=>rw[h2] at h;exact nn h
  | false=>
   rw[h3] at h
   cases h4:(Nat.beq C 343||Nat.beq C 441) with
   | true=>
    rw[h4] at h
    have hj:j<19:=by
     cases h2:(Nat.ble 15 j&&Nat.blt j 19) with
     | true=>exact E0 ((N3 _ _).mp h2).2
     | false=>rw[h2] at h;exact nn h
    rcases(bQ _ _).mp h4 with z | z<;>have:=I9 z<;>subst this<;>exact⟨rfl,by decide +kernel,hj⟩
   | false=>rw[h4] at h;exact nn h
theorem Bv {C:Addr} {j p:Nat} (h:posOf C j=some p):mJ C=true/\∃ x,eH[j]?=some x/\(aD C)[p]?=some x:=by
 obtain⟨h1,h2,h3⟩:=Zm h
 have:=U1.mp h2 j (List.mem_range.mpr h3)
 rw[h] at this
 obtain⟨q1,q2⟩:=(N3 _ _).mp this
 obtain⟨x,q2⟩:=sZ.mp q2
 exact⟨h1,x,q2,(eq_of_beq q1).symm.trans q2⟩
structure NW (K:Frag) (C:Addr):Prop where
 dict:hasDictIn K C=true
 plain:plainOver K C=true
 makes:makesIn K C=true
 ga:findIn K (.ref C) "__getattribute__"=some (some (.builtin "object.__getattribute__"))
 sa:findIn K (.ref C) "__setattr__"=some (some (.builtin "object.__setattr__"))
 gx:findIn K (.ref C) "__getattr__"=some none
 attr:∀ x∈aD C,findIn K (.ref C) x=some none
theorem x9 {a b:Bool} (h:(a&&b)=true):a=true/\b=true:=(N3 _ _).mp h
theorem x8 {a b:Bool} {P:Prop} (h:(a&&b)=true) (k:a=true->b=true->P):P:=k (x9 h).1 (x9 h).2
theorem Mb {K:Frag} {C:Addr} (h:HL K C=true):NW K C:=by
 refine x8 h fun h g=>?_
 refine x8 h fun h f=>?_
 refine x8 h fun h e=>?_
 refine x8 h fun h d=>?_
 refine x8 h fun h c=>?_
 refine x8 h fun a b=>?_
 exact⟨a,b,c,eq_of_beq d,eq_of_beq e,eq_of_beq f,fun x hx=>eq_of_beq (U1.mp g x hx)⟩
theorem Gd.cls {C:Addr} (h:mJ C=true):NW G.K C:=Mb (G.cf C (by
 rcases(bQ _ _).mp h with h | h
 ·rcases(bQ _ _).mp h with h | h
  ·rcases(bQ _ _).mp h with h | h
   ·exact .inl (I9 h)
   ·exact .inr (.inl (I9 h))
  ·exact .inr (.inr (.inl (I9 h)))
 ·exact .inr (.inr (.inr (I9 h)))))
theorem A0.K (x:A0 G c):G.K.In c.h:=fun a o h=>x.sub _ _ (x.base _ _ (G.IZ a o h))
theorem Cm {F:HM} {d:D} {v:Value} (r:Rep G F d v):handedIn v=true:=by
 induction d using D.casesOn with
 | none=>rw[show v=.none from r];rfl
 | bool b=>rw[show v=.bool b from r];rfl
 | int=>obtain⟨_,rfl⟩:=r;rfl
 | str=>obtain⟨_,rfl⟩:=r;rfl
 | bytes=>obtain⟨_,rfl⟩:=r;rfl
 | tup=>obtain⟨_,_,_,rfl,_⟩:=r;rfl
 | lst=>obtain⟨_,_,_,rfl,_⟩:=r;rfl
 | D7=>obtain⟨_,_,_,rfl,_⟩:=r;rfl
 | obj=>obtain⟨_,_,_,_,rfl,_⟩:=r;rfl
theorem BV {u:V} {v:Value} (r:i0 G c u v):handedIn v=true:=by
 induction u using V.casesOn with
 | val d=>exact Cm r
 | loc i=>rw[r.1];rfl
 | tup l=>obtain⟨_,_,_,rfl,_⟩:=r;rfl
noncomputable def attrName (j:Nat):Str:=eH.getD j ""
theorem GG {j:Nat} {x:Str} (h:eH[j]?=some x):attrName j=x:=by unfold attrName;rw[xV,h];rfl
section
variable {s:Shared} {A:Around} {E:Value->Shared->Prop}
theorem WW {R:Value->Shared->Prop} (X:G.K.In s.heap) {a dx C:Addr} {o:Obj} {j p:Nat} {vs:List Value} {v:Value} {ex:Bool} (ha:s.heap.get? a=some (instObj C dx)) (hd:s.heap.get? dx=some o) (hl:lD o (aD C) vs) (hj:posOf C j=some p)
  (hv:vs[p]?=some v) (hh:handedIn v=true) (h:R v {s with toks:=s.toks+1}):a1s (a1l G.prog G.w) A (getAttr (.ref a) (attrName j) ex) R E s:=by
 obtain⟨hc,x,h1,h2⟩:=Bv hj
 obtain⟨es,n,rfl,hl⟩:=hl
 have c:=G.cls hc
 refine(GG h1)▸?_
 exact get_value X ⟨ha,rfl,rfl,hd⟩ c.ga (findObj_own (attr:=none) c.dict (c.attr x (aL h2)) rfl (by rw[lookIn_dict];exact hl.find _ (JO C).1 h2 hv)) hh h
theorem Zr (x:Str) (hsh:Int) (key v:Value):∀ es:List DictEntry,(putL x hsh key v es).length<=es.length+1:=by
 intro b7
 induction b7 with
 | nil=>exact g7 _
 | cons q es ih=>
  unfold putL
  cases q.key.isStr x
  ·exact u6 (ih)
  ·exact J5 _
theorem aC1 {R:Unit->Shared->Prop} (X:G.K.In s.heap) {a dx C:Addr} {o:Obj} {j p:Nat} {vs:List Value} {v:Value} (ha:s.heap.get? a=some (instObj C dx)) (hd:s.heap.get? dx=some o) (hl:lD o (aD C) vs) (hj:posOf C j=some p) (hp:p<=vs.length)
  (h:∀ f o',s.heap.get? dx=some o->(s.heap.update dx f).get? dx=some o'->lD o' (aD C) (setAt vs p v)->R () {s with heap:=s.heap.update dx f,toks:=s.toks+2}):a1s (a1l G.prog G.w) A (setAttr (.ref a) (attrName j) v) R E s:=by
 obtain⟨hc,x,h1,h2⟩:=Bv hj
 obtain⟨es,n,rfl,hl⟩:=hl
 have c:=G.cls hc
 refine(GG h1)▸?_
 have I:InstAt s.heap a (instObj C dx) C (some (dictOf es n)):=⟨ha,rfl,rfl,hd⟩
 have hl1:=hl.len
 have hl2:=(JO C).2
 refine set_plain X I c.sa (osa_open (s:={s with toks:=s.toks+1}) X I c.plain (r:=none) ?_ fun b=>?_)
 ·unfold takerIn;rw[c.attr x (aL h2)];rfl
 obtain⟨cd,hcd,hd'⟩:=any_some c.dict
 refine a1x (a2e (a1x (a1x (a2b ha (a1x ((looks_clsIn X hcd).at ?_))))))
 rw[hd']
 refine a2e (a:=some dx) (a1x (a2e (a1x ?_)))
 unfold nsSet
 refine a1x (a1x (a1v (a2e (a1x (wpAny_mkText (a1x (a2b hd ?_)))))))
 dsimp only
 have cc:(!es.toArray.any (·.key.isStr x)&&es.toArray.any (fun ζ=>ζ.refKey))=false:=by
  have e1:es.toArray.any (fun ζ=>ζ.refKey)=false:=by rw[<-PB];exact hl.keys
  rw[e1,Y8]
 rw[aRefKeyMayBeTheName_at,cc]
 have U:=putName_dict x (PyData.keyHash G.w.params x) (.str x (s.toks+1)) v es n
 refine wpAny_updatePart hd ?_
 have D':=OV (f:=Obj.putName x (PyData.keyHash G.w.params x) (.str x (s.toks+1)) v) hd (by rw[U];rfl)
 rw[U] at D'
 have len':=Zr x (PyData.keyHash G.w.params x) (.str x (s.toks+1)) v es
 refine a1x (wpAny_lookBehind D' (pastItsLine_dict (by rw[List.size_toArray,a1o];lia)) ?_)
 exact a2e (h _ _ hd D' ⟨_,_,rfl,hl.put _ (JO C).1 h2 hp⟩)
end
theorem Fq (i:Inv e c) {v:Value} {C:Addr} {l:List D} {j:Nat} {ex:Bool} (r:Rep e.G c.F (.obj C l) v) (h:NR C l j c.σ Q):Rn e c (getAttr v (attrName j) ex) (RV e) Q:=by
 refine k8 (h:oe _ _) fun p e1 h=>?_
 refine k8 h fun d e2 h=>?_
 obtain⟨a,dx,o,vs,rfl,f1,f2,f3,f4⟩:=r
 obtain⟨x,g1,g2⟩:=(reps.mp f4).get e2
 exact WW i.hp.K (i.hp.sub _ _ f1) (i.hp.sub _ _ f2) f3 e1 g1 (Cm g2) (nK (b:=V.val d) i g2 h)
theorem aL1 (i:Inv e c) {v:Value} {a:V} {j:Nat} {ex:Bool} (rv:i0 e.G c a v) (h:cM a j c.σ Q):Rn e c (getAttr v (attrName j) ex) (RV e) Q:=by
 induction a using V.casesOn with
 | val d=>
  refine k8 (h:oe _ _) fun q e1 h=>?_
  rw[vM e1] at rv
  exact Fq i rv h
 | loc x=>
  refine k8 (h:oe _ _) fun m e1 h=>?_
  have z:=i.hp.cell x m e1
  refine rv.1▸?_
  induction m using M.casesOn with
  | inst C=>
   refine k8 (h:oe _ _) fun q e2 h=>?_
   refine K9 h fun e3 h=>?_
   refine k8 h fun p e4 h=>?_
   refine k8 h fun u e5 h=>?_
   refine g9 e2 fun m g1 g2=>?_
   have y:=i.hp.cell _ m g1
   rw[tF g2,<-I9 e3] at y
   obtain⟨_,o,vs,y1,y2,y3⟩:=y
   obtain⟨w,g3,g4⟩:=(w6.mp y3).get e5
   exact WW i.hp.K z.2.1 y1 y2 e4 g3 (BV g4) (nK i g4.at h)
  | frozen d=>
   refine k8 (h:oe _ _) fun q e1 h=>?_
   rw[vM e1] at z
   exact Fq i z h
  | _=>exact h.elim
 | tup l=>exact h.elim
noncomputable abbrev RU:Cx->Unit->Unit->Prop:=fun ζ ζ ζ=>True
theorem i0.frame {F:HM} {vs:List (Option V)} {mu:List M} {s:Shared} {u:V} {v:Value} (r:i0 G c u v) (g:∀ a o,c.F a=some o->F a=some o) (hn:c.n<=mu.length):i0 G ⟨F,c.r,⟨vs,mu⟩,s⟩ u v:=i0.mono (c':=⟨F,c.r,⟨vs,mu⟩,s⟩) ⟨g,fun ζ ζ=>rfl,hn⟩ r
theorem o8.frame {F:HM} {vs:List (Option V)} {mu:List M} {s:Shared} {u:List V} {v:List Value} (r:o8 G c u v) (g:∀ a o,c.F a=some o->F a=some o) (hn:c.n<=mu.length):o8 G ⟨F,c.r,⟨vs,mu⟩,s⟩ u v:=o8.mono (c':=⟨F,c.r,⟨vs,mu⟩,s⟩) ⟨g,fun ζ ζ=>rfl,hn⟩ r
theorem aL8 {Q:St->Prop} (i:Inv e c) {v u:Value} {a b:V} {j:Nat} (rv:i0 e.G c a v) (ru:i0 e.G c b u) (h:DB a j b c.σ Q):Rn e c (setAttr v (attrName j) u) RU fun ζ=>Q:=by
 refine k8 (h:oe _ _) fun x e1 h=>?_
 rw[AI e1] at rv
 refine k8 h fun C e2 h=>?_
 refine k8 h fun q e3 h=>?_
 refine K9 h fun e4 h=>?_
 refine k8 h fun p e5 h=>?_
 refine K9 h fun e6 h=>?_
 rw[rE] at h
 refine g9 e2 fun m g1 g2=>?_
 refine g9 e3 fun m' g3 g4=>?_
 have z:=i.hp.cell _ m g1
 have y:=i.hp.cell _ m' g3
 rw[XY g2] at z
 rw[tF g4,<-I9 e4] at y
 obtain⟨hF,o,vs,y1,y2,y3⟩:=y
 refine rv.1▸?_
 have len:q.2.length=vs.length:=(w6.mp y3).len
 refine aC1 i.hp.K z.2.1 y1 y2 e5 (len▸E0 e6) fun f o' ζ D' at'=>?_
 exact LW (b:=()) (m:=.attrs C (setAt q.2 p b)) i z.2.2 hF (fun b hb=>OU _ _ _ _ hb) ⟨_,D'⟩ ⟨hF,o',_,D',at',(w6.mpr ((w6.mp y3).setAt p ru)).frame (fun ζ ζ h=>h) (I0 M5.symm)⟩ trivial h
end
section
variable {G:Gd} {e:Ev} {c c':Cx} {Q:V->St->Prop}
noncomputable abbrev Cx.fr (c:Cx) (F:HM) (mu:List M):Cx:=⟨F,c.r,⟨c.σ.vars,mu⟩,c.s⟩
structure Y5 (G:Gd) (c:Cx) (F:HM) (mu:List M):Prop where
 hp:A0 G (c.fr F mu)
 len:mu.length=c.n
 grow:∀ a o,c.F a=some o->F a=some o
 news:∀ b,F b≠none->c.F b≠none∨∃ i,i<c.n/\b=c.r i
theorem Y5.lt {F:HM} {mu:List M} (x:Y5 G c F mu) {i:Nat} (h:i<c.n):i<(c.fr F mu).n:=by show i<mu.length;rw[x.len];exact h
theorem Y5.trans {F F':HM} {mu d8:List M} (x:Y5 G c F mu) (y:Y5 G (c.fr F mu) F' d8):Y5 G c F' d8:=
 ⟨y.hp,y.len.trans x.len,fun a o h=>y.grow a o (x.grow a o h),fun b h=>(y.news b h).elim (x.news b) fun⟨i,hi,q⟩=>.inr ⟨i,x.len▸hi,q⟩⟩
theorem Y5.vs {F:HM} {mu:List M} {l:List V} {vs:List Value} (x:Y5 G c F mu) (r:o8 G c l vs):o8 G (c.fr F mu) l vs:=r.frame x.grow (I0 x.len.symm)
theorem A0.freeze (x:A0 G c) {i:Nat} {o:Obj} {m:M} (hi:i<c.n) (ho:c.h.get? (c.r i)=some o) (hF:c.F (c.r i)=none) (hm:T7 G (c.fr (W5 c.F (c.r i) o) (c.σ.mu.set i m)) i m):Y5 G c (W5 c.F (c.r i) o) (c.σ.mu.set i m):=
 ⟨x.put (m:=m) hi (aO hF) (fun a p h=>(FY h).elim (fun z=>by rw[z.1,z.2];exact ho) (x.sub a p)) (fun b z=>⟨fun h=>by rw[pB z];exact h,fun ζ h=>h⟩) ⟨o,ho⟩ hm,M5,aO hF,fun b h=>(yO h).imp id fun z=>⟨i,hi,z⟩⟩
theorem uA {f:List M->V->Option (D×List M)} (ih:∀{c:Cx} {mu:List M} {v:Value} {u:V} {d:D},A0 G c->i0 G c u v->f c.σ.mu u=some (d,mu)->∃ F,Y5 G c F mu/\Rep G F d v) :
  ∀{us:List V} {c:Cx} {mu:List M} {vs:List Value} {ds:List D},A0 G c->o8 G c us vs->G6 f c.σ.mu us=some (ds,mu)->∃ F,Y5 G c F mu/\t9 G F ds vs:=by
 intro b7
 induction b7 with
 | nil=>
  intro c _ _ _ x r h
  have h:=si h
  injection h with h1 h2
  subst h1 h2
  exact⟨c.F,⟨x,rfl,fun ζ ζ h=>h,fun ζ h=>.inl h⟩,r⟩
 | cons u us IH=>
  intro c _ _ _ x Xj h
  obtain⟨v,vs,q,a,b⟩:=Xj
  obtain⟨⟨d,r9⟩,e1,h⟩:=bind_some (h:(f c.σ.mu u).bind _=some _)
  obtain⟨⟨ds,X0⟩,e2,h⟩:=map_some h
  injection h with h1 h2
  subst h1 h2 q
  obtain⟨F1,z1,r1⟩:=ih x a e1
  obtain⟨F2,z2,r2⟩:=IH z1.hp (z1.vs b) e2
  exact⟨F2,z1.trans z2,v,vs,rfl,Rep.mono z2.grow r1,r2⟩
theorem mU:∀(n:Nat) {c:Cx} {mu:List M} {v:Value} {u:V} {d:D},A0 G c->i0 G c u v->fz n c.σ.mu u=some (d,mu)->∃ F,Y5 G c F mu/\Rep G F d v
 | 0,c,mu,v,u,d,x,r,h=>by
  refine p7 (h:u.d?.map (fun d=>(d,c.σ.mu))=some (d,mu)) fun d' h1 h=>?_
  injection h with h2 h3
  subst h2 h3
  rw[aR h1] at r
  exact⟨c.F,⟨x,rfl,fun ζ ζ h=>h,fun ζ h=>.inl h⟩,r⟩
 | n+1,c,mu,v,.val d',d,x,r,h=>by
  have h:=si h
  injection h with h1 h2
  subst h1 h2
  exact⟨c.F,⟨x,rfl,fun ζ ζ h=>h,fun ζ h=>.inl h⟩,r⟩
 | n+1,c,mu,v,.tup l,d,x,Yb,h=>by
  obtain⟨a,vs,k,q,h1,hz,h2⟩:=Yb
  obtain⟨⟨ds,r9⟩,e1,h⟩:=map_some (h:(G6 (fz n) c.σ.mu l).map _=some (d,mu))
  injection h with h3 h4
  subst h3 h4
  obtain⟨F1,z1,r1⟩:=uA (mU n) x h2 e1
  exact⟨F1,z1,a,vs,k,q,z1.grow _ _ h1,hz,r1⟩
 | n+1,c,mu,v,.loc i,d,x,Yh,h=>by
  obtain⟨q,hi⟩:=Yh
  refine g9 (h:(c.σ.mu[i]?).bind _=some (d,mu)) fun m q1 h=>?_
  have y:=x.cell i m q1
  subst q
  induction m using M.casesOn with
  | list l=>
   obtain⟨⟨ds,r9⟩,e1,h⟩:=bind_some (h:(G6 (fz n) c.σ.mu l).bind _=some (d,mu))
   refine p7 h fun l' e2 h=>?_
   injection h with h3 h4
   subst h3 h4
   obtain⟨hF,vs,k,b,hz,w⟩:=y
   obtain⟨F1,z1,r1⟩:=uA (mU n) x w e1
   refine g9 e2 fun m e2 e3=>?_
   have y1:=z1.hp.cell i m e2
   rw[YZ e3] at y1
   have rp:Rep G (W5 F1 (c.r i) (K5 vs k)) (.lst ds) (.ref (c.r i)):=⟨_,vs,k,rfl,fE,hz,t9.mono (aO y1.1) r1⟩
   exact⟨_,z1.trans (z1.hp.freeze (m:=.frozen (.lst ds)) (z1.lt hi) b y1.1 rp),rp⟩
  | dict ks l=>
   obtain⟨⟨ds,r9⟩,e1,h⟩:=bind_some (h:(G6 (fz n) c.σ.mu l).bind _=some (d,mu))
   refine p7 h fun l' e2 h=>?_
   injection h with h3 h4
   subst h3 h4
   obtain⟨hF,o,kvs,b,p1,p2,w,p3,p4⟩:=y
   obtain⟨F1,z1,r1⟩:=uA (mU n) x w e1
   refine g9 e2 fun m e2 e3=>?_
   have y1:=z1.hp.cell i m e2
   rw[HS e3] at y1
   have rp:Rep G (W5 F1 (c.r i) o) (.D7 ks ds) (.ref (c.r i)):=⟨_,o,kvs,rfl,fE,p1,p2,t9.mono (aO y1.1) r1,p3,p4⟩
   exact⟨_,z1.trans (z1.hp.freeze (m:=.frozen (.D7 ks ds)) (z1.lt hi) b y1.1 rp),rp⟩
  | inst C=>
   refine g9 (h:((c.σ.mu[i+1]?).bind M.attrs?).bind _=some (d,mu)) fun p e0 h=>?_
   obtain⟨⟨ds,r9⟩,e1,h⟩:=bind_some h
   refine g9 h fun C' e2 h=>?_
   refine g9 h fun p' e3 h=>?_
   refine g9 e0 fun m0 e0 Nt=>?_
   have y0:=x.cell _ m0 e0
   rw[tF Nt] at y0
   cases hc:Nat.beq C p.1 with
   | false=>rw[hc] at h;exact nn h
   | true=>
    rw[hc] at h
    have h:=si h
    injection h with h3 h4
    subst h3 h4
    obtain⟨_,o,vs,b2,f2,w⟩:=y0
    obtain⟨F1,z1,r1⟩:=uA (mU n) x w e1
    refine g9 e2 fun m e2 Nu=>?_
    have y1:=z1.hp.cell i m e2
    rw[XY Nu] at y1
    refine g9 e3 fun m' e3 Nx=>?_
    have y2:=z1.hp.cell _ m' e3
    rw[tF Nx] at y2
    have hi1:i+1<c.n:=y.2.2
    have hne:c.r i≠c.r (i+1):=fun w=>yL i (x.inj i (i+1) hi hi1 w).symm
    have z2:=z1.hp.freeze (m:=.dead) (z1.lt hi1) b2 y2.1 trivial
    have IM:W5 F1 (c.r (i+1)) o (c.r i)=none:=by rw[pB hne];exact y1.1
    have rp:Rep G (W5 (W5 F1 (c.r (i+1)) o) (c.r i) (instObj C (c.r (i+1)))) (.obj C ds) (.ref (c.r i)):=
     ⟨_,_,o,vs,rfl,fE,aO IM _ _ fE,(I9 hc)▸f2,t9.mono (fun a p h=>aO IM _ _ (aO y2.1 _ _ h)) r1⟩
    exact⟨_,(z1.trans z2).trans (z2.hp.freeze (m:=.frozen (.obj C ds)) (z2.lt (z1.lt hi)) y.2.1 IM rp),rp⟩
  | frozen d'=>
   have h:=si h
   injection h with h1 h2
   subst h1 h2
   exact⟨c.F,⟨x,rfl,fun ζ ζ h=>h,fun ζ h=>.inl h⟩,y⟩
  | _=>exact nn h
theorem Y5.inv {F:HM} {mu:List M} (z:Y5 e.G c F mu) (i:Inv e c):Inv e (c.fr F mu)/\Step I3 c (c.fr F mu):=by
 have nR {P:Prop} (p:Nat) (h1:c.n<=p) (h2:p<mu.length):P:=absurd (Y9 h1 (z.len▸h2)) (aM _)
 have g:Ge c (c.fr F mu):=⟨z.grow,fun ζ ζ=>rfl,I0 z.len.symm⟩
 exact⟨i.go z.hp g (fun ζ ζ h=>h) (fun b hb=>none_of fun q=>(z.news b q).elim (fun w=>w (i.bH b hb)) fun⟨j,hj,w⟩=>i.cF b hb j hj w) (fun ζ ζ p h1 h2=>nR p h1 h2) fun ζ ζ ζ h=>h,
  ⟨_,_,rfl⟩,g.grow,g.B9,g.len,fun ζ ζ h ζ ζ=>h,fun ζ o h=>⟨o,h⟩,fun b h=>(z.news b h).imp id .inr,fun p h1 h2=>nR p h1 h2⟩
theorem nT {v:Value} {a:V} {K:D->St->Prop} (i:Inv e c) (rv:i0 e.G c a v) (h:toD a c.σ K):∃ F mu d,Inv e (c.fr F mu)/\Step I3 c (c.fr F mu)/\Rep e.G F d v/\K d (c.fr F mu).σ:=by
 obtain⟨⟨d,mu⟩,h1,h⟩:=vO (h:oe _ _)
 obtain⟨F,z,r⟩:=mU 6 i.hp rv h1
 exact⟨F,mu,d,(z.inv i).1,(z.inv i).2,r,h⟩
theorem Ey {v:List Value} {a:List V} {K:List D->St->Prop} (i:Inv e c) (rv:o8 e.G c a v) (h:R7 a c.σ K):∃ F mu d,Inv e (c.fr F mu)/\Step I3 c (c.fr F mu)/\t9 e.G F d v/\K d (c.fr F mu).σ:=by
 obtain⟨⟨d,mu⟩,h1,h⟩:=vO (h:oe _ _)
 obtain⟨F,z,r⟩:=uA (mU 6) i.hp rv h1
 exact⟨F,mu,d,(z.inv i).1,(z.inv i).2,r,h⟩
end
section
variable {G:Gd} {e:Ev} {c c':Cx} {Q:V->St->Prop}
noncomputable def HF:BI->Value
 | .len=>.builtin "len"
 | .list=>.type "list"
 | .sum=>.builtin "sum"
 | .max=>.builtin "max"
 | .min=>.builtin "min"
 | .int=>.type "int"
 | .dict=>.type "dict"
theorem ints_of {F:HM}:∀{ds:List D} {vs:List Value} {ns:List Int},t9 G F ds vs->aS ds=some ns->∃ l:List (Int×Tok),vs=l.map (fun p=>Value.int p.1 p.2)/\l.map (fun ζ=>ζ.1)=ns:=by
 intro b7
 induction b7 with
 | nil=>intro _ _ r h;exact⟨[],r,G0 h⟩
 | cons d ds ih=>
  intro _ ns Xd h
  obtain⟨v,vs,q,a,r⟩:=Xd
  refine g9 (h:d.int?.bind (fun b=>(aS ds).map (fun ζ=>b::ζ))=some ns) fun n h1 h=>?_
  refine p7 h fun ns' h2 h=>?_
  obtain⟨l,h3,h4⟩:=ih r h2
  rw[zV h1] at a
  obtain⟨t,a⟩:=a
  exact⟨(n,t)::l,by rw[q,a,h3];rfl,by rw[<-h,<-h4];rfl⟩
theorem YA (l:List (Int×Tok)):(intItems l.toArray)=(l.map fun p=>Value.int p.1 p.2).toArray:=by simp[intItems]
theorem Zp (f:Nat->Int):∀ n,preSum f (n+1)=f 0+preSum (fun i=>f (i+1)) n:=by
 intro b7
 induction b7 with
 | zero=>exact(EM _).trans (aI _).symm
 | succ n ih=>
  show preSum f (n+1)+f (n+1)=f 0+(preSum (fun i=>f (i+1)) n+f (n+1))
  rw[ih,sN]
theorem Zo:∀(l:List (Int×Tok)),preSum (numAt l.toArray) l.length=(l.map (fun ζ=>ζ.1)).sum:=by
 intro b7
 induction b7 with
 | nil=>exact rfl
 | cons p l ih=>
  rw[eY,Zp,N5,u0,<-ih]
  have e:(fun i=>numAt (p::l).toArray (i+1))=numAt l.toArray:=by funext i;simp[numAt]
  rw[e]
  simp[numAt]
theorem Vm (l:List (Int×Tok)) (i:Nat):numAt l.toArray i=(l.map (fun ζ=>ζ.1)).getD i 0:=by simp[numAt,xV]
theorem foldl_max:∀(l:List Int) (a:Int),(∀ x∈a::l,x<=l.foldl max a)/\l.foldl max a∈a::l:=by
 intro b7
 induction b7 with
 | nil=>intro a;exact⟨fun x h=>by rw[j5.mp h];exact z0 _,.head _⟩
 | cons b l ih=>
  intro a
  have h1:=(ih (max a b)).1
  have h2:=(ih (max a b)).2
  have h0:=h1 _ (.head _)
  refine⟨fun x h=>?_,?_⟩
  ·rcases v5.mp h with rfl | h
   ·exact o9 (jC _ _) h0
   ·rcases v5.mp h with rfl | h
    ·exact o9 (cT _ _) h0
    ·exact h1 _ (.tail _ h)
  ·show l.foldl max (max a b)∈_
   rcases v5.mp h2 with h | h
   ·rw[h]
    rcases Int.le_total a b with z | z
    ·rw[EJ z];exact .tail _ (.head _)
    ·rw[EI z];exact .head _
   ·exact .tail _ (.tail _ h)
theorem yV:∀(f:Nat->Int) (n:Nat),argBest (fun i j=>decide (f i>f j)) n<=n/\∀ j,j<=n->f j<=f (argBest (fun i j=>decide (f i>f j)) n)
 | f,0=>⟨g7 _,fun j h=>by rw[Nat.le_zero.mp h];exact z0 _⟩
 | f,n+1=>by
  have h1:=(yV f n).1
  have h2:=(yV f n).2
  unfold argBest
  by_cases z:f (n+1)>f (argBest (fun i j=>decide (f i>f j)) n)
  ·rw[if_pos (decide_eq_true z)]
   refine⟨g7 _,fun j hj=>?_⟩
   rcases FI hj with w | w
   ·exact o9 (h2 j (sV w)) (EH z)
   ·rw[w];exact z0 _
  ·rw[if_neg (by rw[decide_eq_false z];decide)]
   refine⟨FH h1,fun j hj=>?_⟩
   rcases FI hj with w | w
   ·exact h2 j (sV w)
   ·rw[w];exact EL.mp z
theorem Kf {l:List (Int×Tok)} {n:Int} {ns:List Int} (h:l.map (fun ζ=>ζ.1)=n::ns):numAt l.toArray (argBest (fun i j=>decide (numAt l.toArray i>numAt l.toArray j)) (l.toArray.size-1))=ns.foldl max n:=by
 have b1:=(yV (numAt l.toArray) (l.toArray.size-1)).1
 have b2:=(yV (numAt l.toArray) (l.toArray.size-1)).2
 generalize argBest (fun i j=>decide (numAt l.toArray i>numAt l.toArray j)) (l.toArray.size-1)=j at b1 b2
 have len:l.toArray.size=ns.length+1:=by have:=congrArg List.length h;rw[i9] at this;exact this
 rw[len] at b1 b2
 have m1:=(foldl_max ns n).1
 have m2:=(foldl_max ns n).2
 have f {j:Nat} (hj:j<(n::ns).length):numAt l.toArray j=(n::ns)[j]:=by rw[Vm,h,xV,P5 hj];rfl
 apply Int.le_antisymm
 ·rw[f (lX b1)];exact m1 _ (List.getElem_mem _)
 ·obtain⟨p,hp,q⟩:=List.getElem_of_mem m2
  rw[<-q,<-f hp]
  exact b2 p (sV hp)
theorem kF {α:Type} {vs:List α} {f:α->Prop} (h:one vs f):∃ a,vs=[a]/\f a:=by
 induction vs using List.casesOn with
 | nil=>exact h.elim
 | cons a r=>induction r using List.casesOn with
  | nil=>exact⟨a,rfl,h⟩
  | cons b r=>exact h.elim
theorem fK {a:V} {v:Value} {x:Int} (r:i0 G c a v) (h:a.int?=some x):∃ t,v=.int x t:=by rw[iO h] at r;exact r
theorem bX (e:Ev):e.A.handled=none:=e.room.1
theorem Ed (x:A0 G c):sysModules<c.h.objs.size:=modules_low (G.lim c.h fun a o h=>x.sub _ _ (x.base _ _ h))
theorem Lo (i:Inv e c) {v:Value} {a:V} {l:List V} (rv:i0 e.G c a v) (h:U6 c.σ.mu a=some l) (q:Q (.val (.int l.length)) c.σ):Rn e c (call (.builtin "len") [v]) (RV e) Q:=by
 obtain⟨x,vs,kk,rfl,h1,hz,h2⟩:=tD i.hp rv h
 rw[show l.length=vs.size from(w6.mp h2).len] at q
 rw[aE] at hz
 rcases h1 with h1 | h1
 ·exact call_len_list (G7 h1) (by lia) (aY i q)
 ·exact P.len_tuple h1 (by lia) (aY i q)
theorem ZA {x:Addr} {vs:Array Value} {kk:Nat} {E R:Value->Shared->Prop} (h1:c.h.get? x=some (K5 vs kk)) (hz:vs.size<=d9) (f:∀(h':Heap) k,(∀ b o,c.h.get? b=some o->h'.get? b=some o)->h'.get? c.h.objs.size=some (K5 vs k)->R (.ref c.h.objs.size) {c.s with heap:=h'}) :
  a1s (a1l G.prog G.w) e.A (call (.type "list") [.ref x]) R E c.s:=
 call_list_seq x (T:="list") (n:=kk) (.inl rfl) h1 rfl rfl (fun h' k hk hn=>f h' k hk hn) (iA hz)
theorem Ln (i:Inv e c) {v:Value} {ks:List Int} {ds:List D} (rv:Rep e.G c.F (.D7 ks ds) v) (q:Q (.loc c.n) (c.σ.alloc (.dict ks (ds.map .val)))):Rn e c (call (.type "dict") [v]) (RV e) Q:=by
 obtain⟨a,o,kvs,rfl,h1,h2,h3,h4,h5,hl⟩:=rv
 have D:c.h.DictOf (a1h e.G.prog e.G.w) a kvs:=gE.mpr ⟨o,i.hp.sub _ _ h1,h2⟩
 refine kt_call_dict h5 D (iA (by rw[<-h3,i9] at hl;exact hl)) fun h' D' hs=>?_
 obtain⟨o',ho',hd'⟩:=gE.mp D'
 have hk:∀ b o,c.h.get? b=some o->h'.get? b=some o:=fun b o g=>by
  rw[hs.2 b fun z=>E6 (z▸L8 c.h) g]
  exact F5 _ _ _ g
 have last:∀ s,(c.alloc c.h.objs.size (.dict ks (ds.map .val)) s).r c.n=c.h.objs.size:=fun s=>iN
 exact LU (m:=.dict ks (ds.map .val)) (tk:=c.s.toks) i hk (L8 _) ⟨_,ho'⟩
  ⟨by rw[last];exact i.hp.free (L8 _),o',kvs,by rw[last];exact ho',hd',h3,(kO.mpr h4).mono pD,by rw[last];exact beq_eq_false_iff_ne.mpr (FN (Ed i.hp)),hl⟩ q
theorem aL6 (i:Inv e c) {vs:List Value} {us:List V} (rv:o8 e.G c us vs) (h:NT us c.σ Q):Rn e c (call (.builtin "max") vs) (RV e) Q:=by
 induction us using List.casesOn with
 | nil=>exact h.elim
 | cons a us=>
  obtain⟨va,vs,rfl,ra,rv⟩:=rv
  induction us using List.casesOn with
  | nil=>
   rw[show vs=[] from rv]
   obtain⟨F,mu,d,i',st,rd,h⟩:=nT i ra (show toD a c.σ fun d σ'=>oe d.E5 fun ds=>oe (aS ds) fun ns=>List.casesOn ns False fun n ns=>Q (.val (.int (ns.foldl max n))) σ' from h)
   refine k8 h fun ds e1 h=>?_
   refine k8 h fun ns e2 h=>?_
   induction ns using List.casesOn with
   | nil=>exact h.elim
   | cons n ns=>
    rw[dM e1] at rd
    obtain⟨x,ws,kk,rfl,h1,_,h2⟩:=rd
    obtain⟨l,e3,e4⟩:=ints_of h2 e2
    have e3:ws=intItems l.toArray:=by rw[YA,<-e3]
    subst e3
    refine max_intList (bX e) (G7 (i'.hp.sub _ _ h1)) (by have:=congrArg List.length e4;rw[i9] at this;show 0<l.length;rw[this];exact oY _) fun v h' tk hv hk=>?_
    obtain⟨t,rfl⟩:=intItems_at hv
    rw[Kf e4]
    exact(kJ (b:=V.val (.int _)) i' hk ⟨t,rfl⟩ h).trans st
  | cons b us=>
   obtain⟨vb,vs,rfl,rb,rv⟩:=rv
   refine k8 (h:oe _ _) fun x e1 h=>?_
   refine k8 h fun y e2 h=>?_
   obtain⟨t,rfl⟩:=fK ra e1
   obtain⟨u,rfl⟩:=fK rb e2
   induction us using List.casesOn with
   | nil=>
    rw[show vs=[] from rv]
    refine max_two_ints (bX e) fun h' tk hk=>?_
    have h:Q (.val (.int (max x y))) c.σ:=h
    by_cases z:y>x
    ·rw[if_pos z]
     rw[EJ (EH z)] at h
     exact kJ (b:=V.val (.int _)) i hk ⟨_,rfl⟩ h
    ·rw[if_neg z]
     rw[EI (EL.mp z)] at h
     exact kJ (b:=V.val (.int _)) i hk ⟨_,rfl⟩ h
   | cons d us=>
    obtain⟨vd,vs,rfl,rd,rv⟩:=rv
    induction us using List.casesOn with
    | nil=>
     rw[show vs=[] from rv]
     refine k8 (h:oe _ _) fun z e3 h=>?_
     obtain⟨w,rfl⟩:=fK rd e3
     refine max_three_ints (bX e) fun h' tk hk=>?_
     have key:∀ m t,m=max (max x y) z->Post e c (RV e) Q (.int m t) {c.s with heap:=h',toks:=tk}:=fun m t q=>kJ (b:=V.val (.int m)) i hk ⟨t,rfl⟩ (q▸h)
     by_cases z1:y>x
     ·rw[if_pos z1]
      by_cases z2:z>y
      ·rw[if_pos z2];exact key _ _ (by lia)
      ·rw[if_neg z2];exact key _ _ (by lia)
     ·rw[if_neg z1]
      by_cases z2:z>x
      ·rw[if_pos z2];exact key _ _ (by lia)
      ·rw[if_neg z2];exact key _ _ (by lia)
    | cons _ _=>exact(h:False).elim
theorem aL2 (i:Inv e c) {b:BI} {vs:List Value} {us:List V} (rv:o8 e.G c us vs) (h:CV b us c.σ Q):Rn e c (call (HF b) vs) (RV e) Q:=by
 induction b using BI.casesOn with
 | max=>exact aL6 i rv h
 | min=>
  induction us using List.casesOn with
  | nil=>exact h.elim
  | cons a us=>
   obtain⟨b,rfl,h⟩:=kF (h:one us _)
   obtain⟨va,_,rfl,ra,vb,_,rfl,rb,rfl⟩:=rv
   refine k8 h fun x e1 h=>?_
   refine k8 h fun y e2 h=>?_
   obtain⟨t,rfl⟩:=fK ra e1
   obtain⟨u,rfl⟩:=fK rb e2
   refine min_two_ints (bX e) fun h' tk hk=>?_
   by_cases z:y<x
   ·rw[if_pos z]
    rw[Int.min_eq_right (EH z)] at h
    exact kJ (b:=V.val (.int _)) i hk ⟨_,rfl⟩ h
   ·rw[if_neg z]
    rw[PK (EL.mp z)] at h
    exact kJ (b:=V.val (.int _)) i hk ⟨_,rfl⟩ h
 | len=>
  obtain⟨a,rfl,hq⟩:=kF (h:one us _)
  have h:=hq
  obtain⟨v,_,rfl,r,rfl⟩:=rv
  refine k8 h fun l e1 h=>?_
  exact Lo i r e1 h
 | list=>
  obtain⟨a,rfl,hq⟩:=kF (h:one us _)
  have h:=hq
  obtain⟨v,_,rfl,r,rfl⟩:=rv
  cases q:a.E5 with
  | none=>
   rw[q] at h
   refine k8 (h:oe _ _) fun l e1 h=>?_
   obtain⟨x,vs,kk,rfl,h1,hz,h2⟩:=mE i.hp r e1
   exact ZA h1 hz fun h' k hk hn=>qL (tk:=c.s.toks) i hk (L8 _) hn hz h2 h
  | some l=>
   rw[q] at h
   refine g9 q fun d q1 q2=>?_
   rw[aR q1,dM q2] at r
   obtain⟨x,vs,kk,rfl,h1,hz,h2⟩:=r
   exact ZA (i.hp.sub _ _ h1) hz fun h' k hk hn=>AR (tk:=c.s.toks) i hk (L8 _) hn hz h2 h
 | sum=>
  obtain⟨a,rfl,hq⟩:=kF (h:one us _)
  have h:=hq
  obtain⟨v,_,rfl,r,rfl⟩:=rv
  obtain⟨F,mu,d,i',st,rd,h⟩:=nT i r h
  refine k8 h fun ds e1 h=>?_
  refine k8 h fun ns e2 h=>?_
  rw[dM e1] at rd
  obtain⟨x,ws,kk,rfl,h1,_,h2⟩:=rd
  obtain⟨l,e3,rfl⟩:=ints_of h2 e2
  have e3:ws=intItems l.toArray:=by rw[YA,<-e3]
  subst e3
  refine sum_intListG (bX e) (G7 (i'.hp.sub _ _ h1)) fun h' tk t' hk=>?_
  rw[show l.toArray.size=l.length from rfl,Zo l]
  exact(kJ (b:=V.val (.int _)) i' hk ⟨t',rfl⟩ h).trans st
 | int=>
  obtain⟨a,rfl,hq⟩:=kF (h:one us _)
  have h:=hq
  obtain⟨v,_,rfl,r,rfl⟩:=rv
  refine k8 h fun x e1 h=>?_
  obtain⟨t,rfl⟩:=fK r e1
  exact call_int_int (here (b:=V.val (.int x)) i ⟨t,rfl⟩ h)
 | dict=>
  obtain⟨a,rfl,hq⟩:=kF (h:one us _)
  have h:=hq
  obtain⟨v,_,rfl,r,rfl⟩:=rv
  refine k8 h fun q e1 h=>?_
  refine g9 e1 fun d q1 q2=>?_
  rw[aR q1,zC q2] at r
  exact Ln i r h
end
section
theorem cB {α:Type} {p:Prop} [Decidable p] {o:Option α} {x:α} (h:(if p then o else none)=some x):p/\o=some x:=by
 by_cases z:p
 ·rw[if_pos z] at h;exact⟨z,h⟩
 ·rw[if_neg z] at h;exact nn h
theorem AF (env:Env) (x:Str):env.kindOf x=env.scope.names.lookup x:=rfl
variable {G:Gd} {e:Ev} {c c':Cx} {Q:V->St->Prop}
noncomputable def wX (G:Gd) (x:Str):GV->Prop
 | .const d=>∃ v,G.mg x=some v/\Rep G G.F0 d v
 | .fn a=>G.mg x=some (.ref a)/\∃ o fd,G.K.lookup a=some o/\o.data=.func fd
 | .cls a=>G.mg x=some (.ref a)
 | .bi b=>G.mg x=none/\G.mb x=some (HF b)
 | .range=>G.mg x=none/\G.mb x=some (.type "range")
 | .enum=>G.mg x=none/\G.mb x=some (.type "enumerate")
noncomputable def iD:Mt->Str
 | .append=>"append" | .pop=>"pop" | .extend=>"extend" | .pre=>"pre" | .post=>"post" | .copy=>"copy" | .short=>"short" | .enter=>"enter" | .walk=>"walk"
structure GX (G:Gd):Prop where
 tab:∀ x g,lF.lookup x=some g->wX G x g
 mt:∀ c m f,qI c m=some f->findIn G.K (.ref c) (iD m)=some (some (.ref f))/\typeIn G.K (.ref f)=some (.type "function")/\∃ o fd,G.K.lookup f=some o/\o.data=.func fd
structure Fits (e:Ev) (sc:Sc):Prop where
 names:e.env.scope.names=sc.names
 nm:e.nm=sc.nm
 tab:sc.gt=lF
 gx:GX e.G
noncomputable def aF (n:Nat):Prop:=∀{m:Nat} {e:Ev} {sc:Sc} {x:PySem.Expr} {ir:E} {c:Cx} {Q:V->St->Prop},cE m sc x=some ir->Fits e sc->Inv e c->(wp e.G e.k n).e ir c.σ Q->Rn e c (eval x e.env) (RV e) Q
noncomputable def cQ (n:Nat):Prop:=∀{m:Nat} {e:Ev} {sc:Sc} {x:PySem.Expr} {ir:E} {c:Cx} {Q:Bool->St->Prop},cE m sc x=some ir->Fits e sc->Inv e c->(wp e.G e.k n).t ir c.σ Q->Rn e c (isTrue x e.env (eval x e.env)) nY Q
theorem i0.step {fr:Addr->Prop} {u:V} {v:Value} (r:i0 G c u v) (st:Step fr c c'):i0 G c' u v:=r.mono st.ge
theorem o8.step {fr:Addr->Prop} {u:List V} {v:List Value} (r:o8 G c u v) (st:Step fr c c'):o8 G c' u v:=r.mono st.ge
theorem zR {nm:List Str} {x:Str} {i:Nat} (h:nm.idxOf? x=some i):nm[i]?=some x:=by
 induction nm generalizing i with
 | nil=>exact nn h
 | cons a l ih=>
  rw[sS] at h
  cases q:a==x with
  | true=>rw[q] at h;have h:=si h;rw[<-h,eq_of_beq q];rfl
  | false=>
   rw[q] at h
   refine p7 (h:(l.idxOf? x).map (fun ζ=>ζ+1)=some i) fun j h1 h2=>?_
   exact h2▸((show l[j]?=some x from ih h1))
theorem wL {sc:Sc} {x:Str} {i:Nat} (h:S6 sc x=some i):(sc.names.lookup x=some .local∨sc.names.lookup x=some .cell)/\sc.nm[i]?=some x:=by
 unfold S6 at h
 cases q:sc.names.lookup x with
 | none=>rw[q] at h;exact nn h
 | some k=>induction k using PySem.NameKind.casesOn<;>rw[q] at h<;>first | exact⟨.inl rfl,zR h⟩ | exact⟨.inr rfl,zR h⟩ | cases h
theorem IL {sc:Sc} {x:Str} {g:GV} (h:M7 sc x=some g):sc.names.lookup x=some .globalImplicit/\sc.gt.lookup x=some g:=by
 unfold M7 at h
 cases q:sc.names.lookup x with
 | none=>rw[q] at h;exact nn h
 | some k=>induction k using PySem.NameKind.casesOn<;>rw[q] at h<;>first | exact⟨rfl,h⟩ | cases h
theorem Ue {M:Model} {A:Around} {E:Value->Shared->Prop} {R:Value->Shared->Prop} (i:Inv e c) {j:Nat} {x:Str} {u:V} (hx:e.nm[j]?=some x) (hv:c.σ.vars[j]?=some (some u)) (h:∀ v,i0 e.G c u v->R v c.s):a1s M A (loadName e.env x) R E c.s:=by
 obtain⟨m,cm,h1,h2,h3⟩:=i.kD
 obtain⟨v,h4,h5⟩:=h3 j x u hx hv
 rcases h4 with⟨q1,q2⟩ |⟨q1,a,q2,q3⟩
 ·exact wpAny_loadName_local e.kind q1 h1 q2 (h v h5)
 ·exact wpAny_loadName_cell e.kind q1 q2 (q3▸h2 x a q2) (h v h5)
theorem Inv.top (i:Inv e c):∀ a o,e.G.F0 a=some o->c.h.get? a=some o:=fun a o h=>i.hp.sub _ _ (i.hp.base _ _ h)
theorem uX {E:Value->Shared->Prop} {R:Value->Shared->Prop} (i:Inv e c) {sc:Sc} (ft:Fits e sc) {x:Str} {pos:Pos} {v:Value} {g:GV} (hg:M7 sc x=some g) (hx:bJ x=true) (hv:wX e.G x g->e.G.mg x=some v∨(e.G.mg x=none/\e.G.mb x=some v))
  (h:wX e.G x g->R v c.s):a1s (a1l e.G.prog e.G.w) e.A (eval (.Name x pos) e.env) R E c.s:=by
 have h1:=(IL hg).1
 have h2:=(IL hg).2
 have gv:=ft.gx.tab x g (ft.tab▸h2)
 have ns:c.h.Ns e.env.globals e.G.mg:=by rw[e.glob];exact e.G.glob _ i.top
 refine Name_function_global e.kind (by rw[AF,ft.names];exact h1) ?_ (by unfold bJ at hx;exact(lS _).mp hx)
 rcases hv gv with q |⟨q1,q2⟩
 ·exact loadGlobal_global ns q (h gv)
 ·exact loadGlobal_builtin ns q1 (by rw[e.pL];exact e.G.pL _ i.top) q2 (h gv)
theorem mapM_nil {α β:Type} {f:α->Option β} {l:List β} (h:([]:List α).mapM f=some l):l=[]:=(G0 h).symm
theorem mapM_cons {α β:Type} {f:α->Option β} {a:α} {as:List α} {l:List β} (h:(a::as).mapM f=some l):∃ b bs,f a=some b/\as.mapM f=some bs/\l=b::bs:=by
 rw[xX] at h
 refine g9 (h:(f a).bind _=some l) fun b h1 h=>?_
 refine g9 (h:(as.mapM f).bind _=some l) fun bs h2 h=>?_
 exact⟨b,bs,h1,h2,(G0 h).symm⟩
theorem rI {x:PySem.Expr} {rest:List PySem.Expr} {env:Env} (h:notStar x=true):starEach (x::rest) env=(false,eval x env)::starEach rest env:=by induction x using PySem.Expr.casesOn<;>first | rfl | cases h
noncomputable abbrev Gx (e:Ev) (m:Nat):Cx->List V->List Value->Prop:=fun c u v=>o8 e.G c u v/\v.length=m
theorem truth {u:V} {v:Value} {Q:Bool->St->Prop} (r:i0 e.G c u v) (h:x7 u c.σ Q):∃ b,u=.val (.bool b)/\v=.bool b/\Q b c.σ:=by
 refine k8 h fun b h1 h=>?_
 rw[Ff h1] at r
 exact⟨b,Ff h1,r,h⟩
section
variable {n m:Nat} {sc:Sc} {pos:Pos} (ih:aF n) (iT:cQ n) (ft:Fits e sc)
include ih ft
theorem rG:∀{as:List PySem.Expr} {l:List E} {c:Cx} {Q:List V->St->Prop},as.mapM (cE m sc)=some l->as.all notStar=true->Inv e c->aC (wp e.G e.k n).e l c.σ Q->Rn e c (spliced (backTo pos (starEach as e.env))) (Gx e as.length) Q:=by
 intro b7
 induction b7 with
 | nil=>
  intro _ c Q h _ i hq
  rw[mapM_nil h] at hq
  exact OS (here (b:=[]) i ⟨rfl,rfl⟩ hq)
 | cons a as IH=>
  intro _ c Q h hs i hq
  obtain⟨b,bs,h1,h2,rfl⟩:=mapM_cons h
  refine(rI (x9 hs).1)▸?_
  exact OR (use (ih h1 ft i hq) fun c1 u v i1 st1 r1 p1=>use (IH h2 (x9 hs).2 i1 p1) fun c2 us vs i2 st2 r2 p2=>
   (here (b:=u::us) i2 ⟨⟨v,vs,rfl,r1.step st2,r2.1⟩,congrArg (fun ζ=>ζ+1) r2.2⟩ p2).trans (st1.trans st2))
theorem Ls:∀{cs:List PySem.Expr} {ops:List CmpOp} {l:List E} {c:Cx} {Q:V->St->Prop} {v:Value} {a:V},ops.length=cs.length->cs.mapM (cE m sc)=some l->Inv e c->i0 e.G c a v->Y0 (wp e.G e.k n).e l a ops c.σ Q->Rn e c (compareChain pos v ops (evalEach cs e.env)) (RV e) Q:=by
 intro b7
 induction b7 with
 | nil=>intro _ _ _ _ _ _ _ h _ _ hq;rw[mapM_nil h] at hq;exact hq.elim
 | cons x cs IH=>
  intro ops _ c Q v a hl h i rv hq
  obtain⟨b,bs,h1,h2,rfl⟩:=mapM_cons h
  match ops,cs,hl,h2,hq with
  | [o],[],_,h2,hq=>exact chain_last (use (ih h1 ft i hq) fun c1 u v i1 st1 r1 p1=>back st1 (CW i1 (rv.step st1) r1 p1))
  | o::o'::os,x'::cs,hl,h2,hq=>
   exact chain_link (use (ih h1 ft i hq) fun c1 u v i1 st1 r1 p1=>use (CW i1 (rv.step st1) r1 p1) fun c2 w y i2 st2 r2 p2=>by
    obtain⟨r,rfl,rfl,q2⟩:=truth r2 p2
    refine a2h ?_
    induction r using Bool.casesOn with
    | true=>exact back (st1.trans st2) (IH (bU hl) h2 i2 (r1.step st2) q2)
    | false=>exact(here i2 r2 q2).trans (st1.trans st2))
theorem aI1:∀{cs:List PySem.Expr} {ops:List CmpOp} {l:List E} {c:Cx} {Q:Bool->St->Prop} {v:Value} {a:V},ops.length=cs.length->cs.mapM (cE m sc)=some l->Inv e c->i0 e.G c a v->Y0 (wp e.G e.k n).e l a ops c.σ (fun v σ'=>x7 v σ' Q)->Rn e c (testChain pos v ops (evalEach cs e.env)) nY Q:=by
 intro b7
 induction b7 with
 | nil=>intro _ _ _ _ _ _ _ h _ _ hq;rw[mapM_nil h] at hq;exact hq.elim
 | cons x cs IH=>
  intro ops _ c Q v a hl h i rv hq
  obtain⟨b,bs,h1,h2,rfl⟩:=mapM_cons h
  match ops,cs,hl,h2,hq with
  | [o],[],_,h2,hq=>exact test_last (use (ih h1 ft i hq) fun c1 u v i1 st1 r1 p1=>use (CW i1 (rv.step st1) r1 p1) fun c2 w y i2 st2 r2 p2=>by
    obtain⟨r,rfl,rfl,q2⟩:=truth r2 p2
    exact a2h ((here i2 rfl q2).trans (st1.trans st2)))
  | o::o'::os,x'::cs,hl,h2,hq=>
   exact test_link (use (ih h1 ft i hq) fun c1 u v i1 st1 r1 p1=>use (CW i1 (rv.step st1) r1 p1) fun c2 w y i2 st2 r2 p2=>by
    obtain⟨r,rfl,rfl,q2⟩:=truth r2 p2
    refine a2h ?_
    induction r using Bool.casesOn with
    | true=>exact back (st1.trans st2) (IH (bU hl) h2 i2 (r1.step st2) q2)
    | false=>
     obtain⟨r,e1,_,q2⟩:=truth (e:=e) (v:=.bool false) r2 q2
     injection e1 with e1
     injection e1 with e1
     exact(here i2 e1.symm q2).trans (st1.trans st2))
theorem HG {op:BoolOp}:∀{cs:List PySem.Expr} {l:List E} {c:Cx} {Q:V->St->Prop},cs.mapM (cE m sc)=some l->Inv e c->BoolOp.casesOn (motive:=fun ζ=>Prop) op (NQ (wp e.G e.k n).e l c.σ Q) (NU (wp e.G e.k n).e l c.σ Q)->Rn e c (boolOp pos op (evalEach cs e.env)) (RV e) Q
 | [],_,_,_,h,_,hq=>by rw[mapM_nil h] at hq;induction op using PySem.BoolOp.casesOn<;>exact hq.elim
 | [x],_,c,Q,h,i,hq=>by
  obtain⟨b,bs,h1,h2,rfl⟩:=mapM_cons h
  rw[mapM_nil h2] at hq
  exact ih h1 ft i (by induction op using PySem.BoolOp.casesOn<;>exact hq)
 | x::x'::cs,_,c,Q,h,i,hq=>by
  obtain⟨b,bs,h1,h2,rfl⟩:=mapM_cons h
  obtain⟨b',bs',_,_,rfl⟩:=mapM_cons h2
  show Rn e c (do
   let v <-eval x e.env
   standAt pos
   let t <-holding [v] (truthy v)
   match op,t with
   | .And,false | .Or,true=>pure v
   | _,_=>boolOp pos op (evalEach (x'::cs) e.env)) _ _
  induction op using PySem.BoolOp.casesOn
  ·exact a1x (use (ih h1 ft i (hq:(wp e.G e.k n).e b c.σ _)) fun c1 u v i1 st1 r1 p1=>by
    obtain⟨r,rfl,rfl,q1⟩:=truth r1 p1
    refine a1x (a2g (a1x (a2a (a2h ?_))))
    induction r using Bool.casesOn with
    | true=>exact back st1 (HG (op:=.And) h2 i1 q1)
    | false=>exact a2e ((here i1 r1 q1).trans st1))
  ·exact a1x (use (ih h1 ft i (hq:(wp e.G e.k n).e b c.σ _)) fun c1 u v i1 st1 r1 p1=>by
    obtain⟨r,rfl,rfl,q1⟩:=truth r1 p1
    refine a1x (a2g (a1x (a2a (a2h ?_))))
    induction r using Bool.casesOn with
    | true=>exact a2e ((here i1 r1 q1).trans st1)
    | false=>exact back st1 (HG (op:=.Or) h2 i1 q1))
omit ih
include iT
theorem FZ {op:BoolOp}:∀{cs:List PySem.Expr} {l:List E} {c:Cx} {Q:Bool->St->Prop},cs.mapM (cE m sc)=some l->Inv e c->BoolOp.casesOn (motive:=fun ζ=>Prop) op (Y3 (wp e.G e.k n).t l c.σ Q) (iR (wp e.G e.k n).t l c.σ Q)->Rn e c (allTrue op cs e.env) nY Q
 | [],_,_,_,h,i,hq=>by
  rw[mapM_nil h] at hq
  induction op using PySem.BoolOp.casesOn
  ·exact wpAny_allTrue_And_nil (here i rfl hq)
  ·exact wpAny_allTrue_Or_nil (here i rfl hq)
 | x::cs,_,c,Q,h,i,hq=>by
  obtain⟨b,bs,h1,h2,rfl⟩:=mapM_cons h
  induction op using PySem.BoolOp.casesOn
  ·exact wpAny_allTrue_And_cons (use (iT h1 ft i (hq:(wp e.G e.k n).t b c.σ _)) fun c1 u v i1 st1 r1 p1=>by
    subst r1
    induction u using Bool.casesOn with
    | true=>exact back st1 (FZ (op:=.And) h2 i1 p1)
    | false=>exact(here i1 rfl p1).trans st1)
  ·exact wpAny_allTrue_Or_cons (use (iT h1 ft i (hq:(wp e.G e.k n).t b c.σ _)) fun c1 u v i1 st1 r1 p1=>by
    subst r1
    induction u using Bool.casesOn with
    | true=>exact(here i1 rfl p1).trans st1
    | false=>exact back st1 (FZ (op:=.Or) h2 i1 p1))
end
end
section
variable {G:Gd} {e:Ev} {c c' c1:Cx} {Q:V->St->Prop}
theorem Step.off {fr:Addr->Prop} (st:Step fr c c1) {a:Addr} (f:Off e c a) {o:Obj} (h:c.h.get? a=some o):Off e c1 a:=by
 refine⟨none_of fun q=>?_,fun j hj q=>?_,f.2.2⟩
 ·rcases st.newF a q with w | w |⟨j,hj,w⟩
  ·exact w f.1
  ·exact E6 w h
  ·exact f.2.1 j hj w
 ·by_cases z:j<c.n
  ·rw[st.B9 j z] at q;exact f.2.1 j z q
  ·have:=st.newR j (N7 z) hj
   rw[<-q] at this;exact E6 this h
theorem Step.off' {fr:Addr->Prop} (st:Step fr c c1) {a:Addr} {o:Obj} (hF:c.F a=none) (hR:∀ j,j<c.n->a≠c.r j) (h:c.h.get? a=some o):c1.F a=none/\∀ j,j<c1.n->a≠c1.r j:=by
 refine⟨none_of fun q=>?_,fun j hj q=>?_⟩
 ·rcases st.newF a q with w | w |⟨j,hj,w⟩
  ·exact w hF
  ·exact E6 w h
  ·exact hR j hj w
 ·by_cases z:j<c.n
  ·rw[st.B9 j z] at q;exact hR j z q
  ·have:=st.newR j (N7 z) hj
   rw[<-q] at this;exact E6 this h
theorem Inv.after (i:Inv e c) (st:Step I3 c c1) (hp:A0 e.G c1) (hv:∀(j:Nat) (u:V),c1.σ.vars[j]?=some (some u)->c.σ.vars[j]?=some (some u)):Inv e c1:=
 i.go hp st.ge hv (fun b hb=>let ⟨o,h⟩:=i.LC hb;(st.off' (i.bH b hb) (i.cF b hb) h).1) (fun b hb j h1 h2=>let ⟨o,h⟩:=i.LC hb;(st.off' (i.bH b hb) (i.cF b hb) h).2 j h2) fun b o hb h=>st.keep b o h id (i.cF b hb)
noncomputable def RP (e:Ev) (m:Nat) (c:Cx) (x:List Int×List V) (vs:List (Value×Value)):Prop:=allIntKeys vs=true/\(intKeyPairs vs).map (fun ζ=>ζ.1)=x.1/\o8 e.G c x.2 ((intKeyPairs vs).map (fun ζ=>ζ.2))/\x.1.length=m
section
variable {n m:Nat} {sc:Sc} {pos:Pos} (ih:aF n) (ft:Fits e sc)
include ih ft
theorem Yv:∀{ks:List (Option PySem.Expr)} {vs:List PySem.Expr} {kl vl:List E} {c:Cx} {Q:List Int->List V->St->Prop},ks.mapM (fun k=>k.bind (cE m sc))=some kl->vs.mapM (cE m sc)=some vl->ks.length=vs.length->Inv e c->DA (wp e.G e.k n).e kl vl c.σ Q->
  Rn e c (evalPairs (pairTrees ks vs e.env pos)) (RP e ks.length) fun x=>Q x.1 x.2:=by
 intro b7
 induction b7 with
 | nil=>
  intro vs _ _ c Q h1 h2 hl i hq
  have:=oU hl.symm
  subst this
  rw[mapM_nil h1,mapM_nil h2] at hq
  exact pairTrees_nil_walk (here (b:=([],[])) i ⟨rfl,rfl,rfl,rfl⟩ hq)
 | cons k ks IH=>
  intro vs _ _ c Q h1 h2 hl i hq
  obtain⟨b,bs,e1,e2,rfl⟩:=mapM_cons h1
  induction vs using List.casesOn with
  | nil=>cases hl
  | cons x vs=>
  obtain⟨d,ds,e3,e4,rfl⟩:=mapM_cons h2
  induction k using Option.casesOn with
  | none=>exact nn e1
  | some k=>
   exact pairTrees_cons_walk (use (ih e1 ft i (hq:(wp e.G e.k n).e b c.σ _)) fun c1 w u i1 st1 r1 p1=>use (ih e3 ft i1 p1) fun c2 w2 u2 i2 st2 r2 p2=>use (IH e2 e4 (bU hl) i2 p2) fun c3 y us i3 st3 r3 p3=>by
    refine k8 p3 fun j f1 p3=>?_
    obtain⟨t,rfl⟩:=fK r1 f1
    exact(here (b:=(j::y.1,w2::y.2)) i3 ⟨r3.1,congrArg (fun ζ=>j::ζ) r3.2.1,⟨u2,_,rfl,r2.step st3,r3.2.2.1⟩,congrArg (fun ζ=>ζ+1) r3.2.2.2⟩ p3).trans ((st1.trans st2).trans st3))
theorem Nl {ks:List (Option PySem.Expr)} {vs:List PySem.Expr} {kl vl:List E} (h1:ks.mapM (fun k=>k.bind (cE m sc))=some kl) (h2:vs.mapM (cE m sc)=some vl) (hl:ks.length=vs.length) (Qo:ks.length<15) (i:Inv e c)
  (hq:DA (wp e.G e.k n).e kl vl c.σ fun ns us σ'=>ns.Nodup/\Q (.loc σ'.mu.length) (σ'.alloc (.dict ns us))):Rn e c (eval (.Dict ks vs pos) e.env) (RV e) Q:=by
 have free:=L8 c.h
 have hsys:(c.h.objs.size==sysModules)=false:=beq_eq_false_iff_ne.mpr (FN (Ed i.hp))
 have last {c1:Cx} {mm:M} {s:Shared}:(c1.alloc c.h.objs.size mm s).r c1.n=c.h.objs.size:=iN
 obtain⟨o,ho,hd⟩:=gE.mp (Hz (knd:=a1h e.G.prog e.G.w) c.h)
 match ks,vs,hl,h1,h2 with
 | [],[],_,h1,h2=>
  rw[mapM_nil h1,mapM_nil h2] at hq
  exact wpAny_Dict_empty (LU (m:=.dict [] []) (tk:=c.s.toks) i (F5 _) free ⟨_,ho⟩ ⟨by rw[last];exact i.hp.free free,o,[],by rw[last];exact ho,hd,rfl,rfl,by rw[last];exact hsys,v7 _⟩ hq.2)
 | k::ks,x::vs,hl,h1,h2=>
  have hall:∀{l:List (Option PySem.Expr)} {kl:List E},l.mapM (fun k=>k.bind (cE m sc))=some kl->l.all (fun ζ=>ζ.isSome)=true:=by
   intro l
   induction l with
   | nil=>intro _ _;rfl
   | cons a l ih=>
    intro kl h
    obtain⟨b,bs,e1,e2,_⟩:=mapM_cons h
    induction a using Option.casesOn with
    | none=>exact nn e1
    | some _=>exact ih e2
  refine wpAny_Dict_walk (knd:=a1h e.G.prog e.G.w) (hall h1) hl nofun (yI Qo) ?_
  have hp:=F5 (h:=c.h) {cls:=.type "dict",data:=.dict #[]}
  refine use (c:=c.at {c.s with heap:=c.h.push {cls:=.type "dict",data:=.dict #[]}}) (Yv ih ft h1 h2 hl (i.keeps hp) hq) fun c1 y us i1 st1 r1 p1=>?_
  have f0:Off e (c.at {c.s with heap:=c.h.push {cls:=.type "dict",data:=.dict #[]}}) c.h.objs.size:=i.off free
  have f1:=st1.off f0 ho
  refine display_done_int r1.1 (by rw[r1.2.1];exact p1.1) (gE.mpr ⟨_,st1.keep _ _ ho id f0.2.1,hd⟩) fun h' D' hs=>?_
  obtain⟨o',ho',hd'⟩:=gE.mp D'
  exact post_join (m:=.dict y.1 y.2) ((Step.keeps (c:=c) (tk:=c.s.toks) hp).trans st1) free i1 f1 (fun b o hb h=>(hs.2 b hb).trans h) ⟨_,ho'⟩ ⟨by rw[last];exact f1.1,o',_,by rw[last];exact ho',hd',r1.2.1,r1.2.2.1.mono pD,by rw[last];exact hsys,by rw[r1.2.2.2,aE];lia⟩ p1.2
end
end
section
variable {G:Gd} {e:Ev} {c c' c1:Cx} {Q:V->St->Prop}
noncomputable def glue (n:Nat) (r r':Nat->Addr):Nat->Addr:=fun i=>if i<n then r i else r' (i-n)
theorem Qj {n:Nat} {r r':Nat->Addr} {i:Nat} (h:i<n):glue n r r' i=r i:=if_pos h
theorem WX {n:Nat} {r r':Nat->Addr} (i:Nat):glue n r r' (n+i)=r' i:=by
 unfold glue
 rw[if_neg (FP.mpr (H9 n i)),cZ]
noncomputable def Cx.glue (c c1:Cx):Cx:=⟨c1.F,Lake.glue c.n c.r c1.r,⟨c.σ.vars,c.σ.mu++c1.σ.mu.map (bM c.n)⟩,c1.s⟩
theorem zJ:(c.glue c1).n=c.n+c1.n:=by show(c.σ.mu++c1.σ.mu.map (bM c.n)).length=_;rw[o7,i9]
mutual
theorem i0.shift:∀{u:V} {v:Value},i0 G c1 u v->i0 G (c.glue c1) (L7 c.n u) v
 | .val _,_,r=>r
 | .loc i,_,r=>⟨by rw[r.1];exact congrArg Value.ref (WX i).symm,by rw[zJ];exact FD r.2 _⟩
 | .tup _,_,Xh=>by obtain⟨a,vs,k,h1,h2,h3,h4⟩:=Xh;exact⟨a,vs,k,h1,h2,h3,o8.shift h4⟩
theorem o8.shift:∀{u:List V} {v:List Value},o8 G c1 u v->o8 G (c.glue c1) (rF c.n u) v
 | [],_,r=>r
 | _::_,_,Xi=>by obtain⟨v,vs,q,a,b⟩:=Xi;exact⟨v,vs,q,i0.shift a,o8.shift b⟩
end
theorem below {n i:Nat} {P:Prop} (h:n<=i) (g:i<n):P:=absurd (Y9 h g) (aM _)
structure eT (G:Gd) (c c1:Cx):Prop where
 hp:A0 G c1
 st:Step I3 ⟨c.F,c.r,⟨[],[]⟩,c.s⟩ c1
theorem eT.keep (x:eT G c c1) {b:Addr} {o:Obj} (h:c.h.get? b=some o):c1.h.get? b=some o:=x.st.keep b o h id fun ζ h=>absurd h (aN _)
theorem eT.newF (x:eT G c c1) {b:Addr} (h:c1.F b≠none):c.F b≠none∨c.h.get? b=none:=(x.st.newF b h).imp id fun h=>h.elim id fun⟨_,h,_⟩=>absurd h (aN _)
theorem eT.drop (x:eT e.G c c1) (i:Inv e c):Inv e ⟨c1.F,c.r,c.σ,c1.s⟩/\Step I3 c ⟨c1.F,c.r,c.σ,c1.s⟩:=
 ⟨i.near (fun b=>c.h.get? b=none) (fun b=>i.off) x.st.grow x.hp.sub (fun ζ=>x.newF) fun b o ζ=>x.keep,
  x.st.same,x.st.grow,fun ζ ζ=>rfl,g7 _,fun b o h ζ ζ=>x.keep h,x.st.live,fun b h=>(x.newF h).imp id .inl,fun ζ=>below⟩
theorem eT.glue (x:eT e.G c c1) (i:Inv e c):Inv e (c.glue c1)/\Step I3 c (c.glue c1):=by
 have split {j:Nat} (h:j<(c.glue c1).n):j<c.n∨∃ k,k<c1.n/\j=c.n+k:=by
  rw[zJ] at h
  by_cases z:j<c.n
  ·exact .inl z
  ·exact .inr ⟨j-c.n,RD (N7 z) h,(FF (N7 z)).symm⟩
 have g:Ge c (c.glue c1):=⟨x.st.grow,fun j hj=>Qj hj,by rw[zJ];exact H9 _ _⟩
 have new {k:Nat} (hk:k<c1.n):c.h.get? (c1.r k)=none:=x.st.newR k (v7 _) hk
 have at_ (k:Nat):(c.glue c1).r (c.n+k)=c1.r k:=WX k
 have st:Step I3 c (c.glue c1):=⟨x.st.same,g.grow,g.B9,g.len,fun b o h ζ ζ=>x.keep h,x.st.live,fun b h=>(x.newF h).imp id .inl,fun j h1 h2=>(split h2).elim (below h1) fun Xx=>by obtain⟨k,hk,z⟩:=Xx;rw[z,at_];exact new hk⟩
 refine⟨i.after st ⟨x.hp.base,x.hp.sub,fun p q hp hq h=>?_,fun p m h=>?_,fun p hp=>?_⟩ fun ζ ζ h=>h,st⟩
 ·have VB {p k:Nat} {P:Prop} (hp:p<c.n) (hk:k<c1.n) (h:c.r p=c1.r k):P:=by
   obtain⟨o,g⟩:=i.hp.live p hp
   exact E6 (h▸new hk) g
  rcases split hp with hp |⟨k,hk,rfl⟩<;>rcases split hq with hq |⟨l,hl,rfl⟩
  ·rw[g.B9 p hp,g.B9 q hq] at h;exact i.hp.inj p q hp hq h
  ·rw[g.B9 p hp,at_] at h;exact VB hp hl h
  ·rw[at_,g.B9 q hq] at h;exact VB hq hk h.symm
  ·rw[at_,at_] at h;rw[x.hp.inj k l hk hl h]
 ·rcases split (O0 h) with hp |⟨k,hk,rfl⟩
  ·rw[show(c.glue c1).σ.mu[p]?=c.σ.mu[p]? from aJ hp] at h
   exact(i.hp.cell p m h).mono hp g (fun q=>none_of fun z=>(x.newF z).elim (fun w=>w q) fun w=>let ⟨o,q⟩:=i.hp.live p hp;E6 w q) fun o=>x.keep
  ·rw[show(c.glue c1).σ.mu[c.n+k]?=(c1.σ.mu.map (bM c.n))[k]? from(jD (H9 _ _)).trans (by rw[cZ]),bR] at h
   refine p7 h fun m' h1 h2=>?_
   have y:=x.hp.cell k m' h1
   subst h2
   cases m' with
   | list l=>obtain⟨a,vs,q,b,z,r⟩:=y;exact⟨by rw[at_];exact a,vs,q,by rw[at_];exact b,z,r.shift⟩
   | inst C=>exact⟨by rw[at_];exact y.1,by rw[at_,gI,at_];exact y.2.1,by rw[zJ,gI];exact FD y.2.2 _⟩
   | attrs C l=>obtain⟨a,o,vs,b,z,r⟩:=y;exact⟨by rw[at_];exact a,o,vs,by rw[at_];exact b,z,r.shift⟩
   | dict ks l=>obtain⟨a,o,kvs,b,p,q,r,z,l⟩:=y;exact⟨by rw[at_];exact a,o,kvs,by rw[at_];exact b,p,q,r.shift,by rw[at_];exact z,l⟩
   | frozen d=>show Rep e.G c1.F d (.ref ((c.glue c1).r (c.n+k)));rw[at_];exact y
   | dead=>trivial
 ·rcases split hp with hp |⟨k,hk,rfl⟩
  ·rw[g.B9 p hp];obtain⟨o,h⟩:=i.hp.live p hp;exact⟨o,x.keep h⟩
  ·rw[at_];exact x.hp.live k hk
noncomputable abbrev OJ (e:Ev) (c:Cx) (Q:V->St->Prop):Result->Shared->Prop:=fun r s'=>∃ v,r=.ok (.ret v)/\handedIn v=true/\Post e c (RV e) Q v s'
theorem MC {f:Value} {vs:List Value} (h:eU (a1l e.G.prog e.G.w) e.A (.call f ⟨vs,[]⟩) (OJ e c Q) c.s):Rn e c (call f vs) (RV e) Q:=
 a1y (U5 h fun r s' ⟨v,q,_,p⟩=>by subst q;exact p)
section
variable {A:Around} {k:Nat} {f:Value} {vs:List Value} {ds:List D}
theorem ZY (x:A0 G c):A0 G ⟨c.F,c.r,⟨[],[]⟩,c.s⟩:=⟨x.base,x.sub,fun ζ ζ h=>absurd h (aN _),fun ζ ζ h=>E6 rfl h,fun ζ h=>absurd h (aN _)⟩
theorem Cc (hr:nZ k A) (i:Inv e c) {d:D} (r:t9 e.G c.F ds vs) (h:C8 e.G k f (ds.map .val) [] fun r ζ=>r=.val d) (q:Q (.val d) c.σ):eU (a1l e.G.prog e.G.w) A (.call f ⟨vs,[]⟩) (OJ e c Q) c.s:=
 U5 (h A ⟨c.F,c.r,⟨[],[]⟩,c.s⟩ vs hr rfl (ZY i.hp) (kO.mpr r)) fun r s' ⟨v,e1,c1,u,e2,hp,st,rv,e3⟩=>by
  have x:eT e.G c c1:=⟨hp,st⟩
  subst e1 e2 e3
  exact⟨v,rfl,BV rv,⟨c1.F,c.r,c.σ,c1.s⟩,.val d,rfl,(x.drop i).1,(x.drop i).2,rv,q⟩
theorem ZU (hr:nZ k e.A) (i:Inv e c) {u:V} {mu:List M} (r:t9 e.G c.F ds vs) (h:C8 e.G k f (ds.map .val) [] fun r' d8=>r'=u/\d8=mu) (q:Q (L7 c.n u) (laid c.σ mu)):Rn e c (call f vs) (RV e) Q:=
 MC (U5 (h e.A ⟨c.F,c.r,⟨[],[]⟩,c.s⟩ vs hr rfl (ZY i.hp) (kO.mpr r)) fun r s' ⟨v,e1,c1,u',e2,hp,st,rv,e3,e4⟩=>by
  have x:eT e.G c c1:=⟨hp,st⟩
  subst e1 e2 e3 e4
  exact⟨v,rfl,BV rv,c.glue c1,_,rfl,(x.glue i).1,(x.glue i).2,rv.shift,q⟩)
theorem aC7 (hr:nZ k e.A) (i:Inv e c) {us:List V} {P:V->List M->Prop} (r:o8 e.G c us vs) (h:C8 e.G k f us c.σ.mu P) (q:∀ r mu,P r mu->Q r ⟨c.σ.vars,mu⟩):Rn e c (call f vs) (RV e) Q:=
 MC (U5 (h e.A ⟨c.F,c.r,⟨[],c.σ.mu⟩,c.s⟩ vs hr rfl (i.hp.same (vs':=[]) (s':=c.s) (fun ζ ζ h=>h) i.hp.sub fun ζ ζ=>⟨id,fun ζ=>id⟩) (r.frame (fun ζ ζ h=>h) (g7 _))) fun r s' ⟨v,e1,c1,u',e2,hp,st,rv,p⟩=>by
  subst e1 e2
  have st':Step I3 c ⟨c1.F,c1.r,⟨c.σ.vars,c1.σ.mu⟩,c1.s⟩:=⟨st.same,st.grow,st.B9,st.len,st.keep,st.live,st.newF,st.newR⟩
  exact⟨v,rfl,BV rv,⟨c1.F,c1.r,⟨c.σ.vars,c1.σ.mu⟩,c1.s⟩,u',rfl,i.after st' (hp.same (fun ζ ζ h=>h) hp.sub fun ζ ζ=>⟨id,fun ζ=>id⟩) fun ζ ζ h=>h,st',rv.frame (fun ζ ζ h=>h) (g7 _),q _ _ p⟩)
end
theorem yU {env:Env} {pos:Pos}:∀{as:List PySem.Expr},as.all notStar=true->(backTo pos (starEach as env)).any (fun ζ=>ζ.1)=false
 | [],_=>rfl
 | a::as,h=>by
  refine(rI (x9 h).1)▸?_
  exact yU (as:=as) (x9 h).2
theorem pQ {M:Model} {A:Around} {E:Value->Shared->Prop} {s:Shared} {env:Env} {f:Value} {as:List PySem.Expr} {pos:Pos} {Q:Args->Shared->Prop} (hs:as.all notStar=true)
  (h:a1s M A (spliced (backTo pos (starEach as env))) (fun vs s'=>Q ⟨vs,[]⟩ s') E s):a1s M A (evalArgs f true (backTo pos (starEach as env)) []) Q E s:=by
 induction as using List.casesOn with
 | nil=>
  unfold evalArgs
  show a1s M A (spliced [] >>= _) Q E s
  exact a1x (a2c h (fun vs s' h'=>a1x (a2e (a2a (a1x (a2e (a1x (a2e (a2e h')))))))) fun ζ ζ x=>x)
 | cons a as=>
  rw[rI (x9 hs).1] at h ⊢
  exact Calls.evalArgs_plain h
theorem Lm {A:Around} {s:Shared} {pos:Pos} {C:Addr} {args:List (Bool×Sem Value)} {E Q:Value->Shared->Prop} (hplain:args.any (fun ζ=>ζ.1)=false)
  (h:a1s (a1l G.prog G.w) A (evalArgs (.ref C) true args []) (fun x s₁=>Makes (a1l G.prog G.w) s₁.heap C/\x.kw=[]/\a1s (a1l G.prog G.w) A (call (.ref C) x.pos) Q E s₁) E s):a1s (a1l G.prog G.w) A (callWith pos (.ref C) [] args []) Q E s:=by
 unfold callWith
 refine a1x (a2a (a2c h (fun x s₁ h₁=>a1x (a2g ?_)) fun ζ ζ x=>x))
 obtain⟨Y,hk,hc⟩:=h₁
 obtain⟨⟨oc,od,cd,sl,hC,_⟩,_,_,_,_,hcall,_⟩:=Y
 have hs:(args.any (fun ζ=>ζ.1)||([]:List (Option Str×Sem Value)).any (fun ζ=>ζ.1.isNone))=false:=by rw[hplain];rfl
 refine hs▸?_
 refine a1x (m:=keeperOf (.ref C)) ?_
 unfold keeperOf
 refine a1x (wpAny_load hC (a1x (hcall.here ?_)))
 rw[if_pos (by simp)]
 refine a2e ?_
 refine hk▸?_
 exact a1x (a2c hc (fun r s₂ hr=>a1x (a2a (wpAny_point (a2e hr)))) fun ζ ζ x=>x)
end
section
variable {G:Gd} {e:Ev} {c c' c1:Cx} {Q:V->St->Prop}
theorem lookup_mem {α β:Type} [BEq α] [LawfulBEq α] {a:α} {b:β} {l:List (α×β)} (h:l.lookup a=some b):(a,b)∈l:=by
 induction l with
 | nil=>exact nn h
 | cons p l ih=>
  rw[cX] at h
  cases q:a==p.1 with
  | true=>rw[q] at h;rw[eq_of_beq q,<-si h];exact f9
  | false=>rw[q] at h;exact l6 _ (ih h)
theorem Uq {x:Str} {m:Mt} (h:KG x=some m):x=iD m:=by
 have hm:=lookup_mem (h:List.lookup x _=some m)
 have all:([("append",.append),("pop",.pop),("extend",.extend),("pre",.pre),("post",.post),("copy",.copy),("short",.short),("enter",.enter),("walk",.walk)]:List (Str×Mt)).all (fun p=>p.1==iD p.2)=true:=by decide +kernel
 exact eq_of_beq (U1.mp all (x,m) hm)
theorem Ur {C:Addr} {m:Mt} {f:Addr} (h:qI C m=some f):mJ C=true/\iD m∉aD C:=by
 have hm:∀ m,iD m∉eH.drop 15:=fun m=>by induction m using Mt.casesOn<;>decide +kernel
 have h:(bif Nat.beq C 343||Nat.beq C 441 then _ else none)=some f:=h
 cases q:(Nat.beq C 343||Nat.beq C 441) with
 | false=>rw[q] at h;cases h
 | true=>rcases(bQ _ _).mp q with z | z<;>have:=I9 z<;>subst this<;>exact⟨rfl,hm m⟩
theorem Ke {id:Str} {q p:Pos} {as:List PySem.Expr} {ks:List Keyword} {x:Str} {env:Env} (w:Sem Value):bif qO (.Call (.Name id q) as ks p) then attributeBase (.Call (.Name id q) as ks p) x env w=w else True:=by
 induction as using List.casesOn with
 | cons _ _=>exact Eq.refl w
 | nil=>
 induction ks using List.casesOn with
 | cons _ _=>exact Eq.refl w
 | nil=>
  show bif id != "super" then _ else _
  unfold attributeBase
  dsimp only
  cases id != "super" with
  | true=>exact if_pos rfl
  | false=>trivial
theorem TQ {o:PySem.Expr} {x:Str} {env:Env} (h:qO o=true) (w:Sem Value):attributeBase o x env w=w:=by
 have key:bif qO o then attributeBase o x env w=w else True:=by
  clear h
  induction o using PySem.Expr.casesOn with
  | Call f as ks p=>induction f using PySem.Expr.casesOn with
   | Name=>exact Ke w
   | _=>exact Eq.refl w
  | _=>exact Eq.refl w
 rw[h] at key;exact key
theorem Oo {env:Env} {as:List PySem.Expr} {pos:Pos} (hs:as.all notStar=true) (hl:as.length<10):methodCallForm (as.length+([]:List Keyword).length) (backTo pos (starEach as env)) (backToKw pos (keywordEach [] env))=true:=by
 have h1:(backTo pos (starEach as env)).all (fun x=>!x.1)=true:=by
  refine List.all_eq_not_any_not▸?_
  simp only[oQ]
  rw[yU hs];rfl
 unfold methodCallForm
 rw[h1,show backToKw pos (keywordEach [] env)=[] from rfl]
 simp
 lia
theorem ZJ {α β:Type} {f:α->Option β} {as:List α} {b:β} (h:as.mapM f=some [b]):∃ a,as=[a]/\f a=some b:=by
 induction as using List.casesOn with
 | nil=>cases mapM_nil h
 | cons a as=>
  obtain⟨d,ds,h1,h2,h3⟩:=mapM_cons h
  injection h3 with h3 h4
  induction as using List.casesOn with
  | nil=>exact⟨a,rfl,h3▸h1⟩
  | cons a' as'=>obtain⟨_,_,_,_,h5⟩:=mapM_cons h2;rw[<-h4] at h5;cases h5
theorem mapM_none {α β:Type} {f:α->Option β} {as:List α} (h:as.mapM f=some []):as=[]:=by
 induction as using List.casesOn with
 | nil=>rfl
 | cons a as=>obtain⟨_,_,_,_,h3⟩:=mapM_cons h;cases h3
theorem JW (x:A0 G c) {j:Nat} {l:List V} (h:(c.σ.mu[j]?).bind M.list?=some l):c.σ.mu[j]?=some (.list l)/\T7 G c j (.list l):=by
 refine g9 h fun m h1 h2=>?_
 rw[YZ h2] at h1
 exact⟨h1,x.cell j _ h1⟩
theorem JQ (i:Inv e c) {j k1:Nat} {l1 l2:List V} {vs:Array Value} {f:Array Value->Array Value} {v:Value} {u:V} (q:c.σ.mu[j]?=some (.list l1)) (hF:c.F (c.r j)=none) (b1:c.h.get? (c.r j)=some (K5 vs k1)) (hz:(f vs).size<=d9)
  (r:p9 (i0 e.G c) l2 (f vs).toList) (rv:i0 e.G c u v) (hq:Q u (c.σ.R3 j (.list l2))):Post e c (RV e) Q v {c.s with heap:=c.h.update (c.r j) (Obj.mapSeq f)}:=by
 have D:=OV (Obj.mapSeq f) b1 rfl
 have len:=I0 (M5 (as:=c.σ.mu) (i:=j) (a:=M.list l2)).symm
 exact LW (tk:=c.s.toks) (m:=.list l2) i (O0 q) hF (fun b hb=>OU _ _ _ _ hb) ⟨_,D⟩ ⟨hF,f vs,(if(f vs).size==vs.size then k1 else k1+1),D,hz,(w6.mpr r).frame (fun ζ ζ h=>h) len⟩ (rv.frame (fun ζ ζ h=>h) len) hq
theorem Jh {t:Sem Value} {pos:Pos} {j:Nat} (hj:j<c.n) (h:Rn e c t (RV e) fun v σ'=>lB j v σ' Q):Rn e c (callWith pos (.builtin "list.append") [.ref (c.r j)] [(false,t)] []) (RV e) Q:=
 PySem.P.append_list (use h fun c2 w u i2 st2 r2 p2=>by
  refine k8 (p2:oe _ _) fun l e1 p2=>?_
  refine K9 p2 fun hz p2=>?_
  obtain⟨q,hF,vs,k1,b1,z,r1⟩:=JW i2.hp e1
  have hz:vs.size<d9:=by rw[show vs.size=l.length from(w6.mp r1).len.symm];exact E0 hz
  have up:=(JQ (u:=.val .none) (v:=.none) (f:=fun xs=>xs.push u) i2 q hF b1 (by rw[Array.size_push];exact hz) (by rw[PC];exact(w6.mp r1).app (.one r2)) rfl p2).trans st2
  rw[st2.B9 j hj] at b1 up
  exact⟨vs,k1,by rw[aE] at hz;rw[a1o];lia,b1,up⟩)
theorem Ol {t:Sem Value} {pos:Pos} {j:Nat} (hj:j<c.n) (h:Rn e c t (RV e) fun v σ'=>Ft j v σ' Q):Rn e c (callWith pos (.builtin "list.extend") [.ref (c.r j)] [(false,t)] []) (RV e) Q:=
 PySem.P.extend_list (use h fun c2 w u i2 st2 r2 p2=>by
  refine k8 (p2:oe _ _) fun l e1 p2=>?_
  refine k8 p2 fun l2 e2 p2=>?_
  refine K9 p2 fun hz p2=>?_
  obtain⟨q,hF,vs,k1,b1,z,r1⟩:=JW i2.hp e1
  obtain⟨x,us,k2,rfl,b2,z2,UK⟩:=mE i2.hp r2 e2
  have hz:vs.size+us.size<=d9:=by rw[show vs.size=l.length from(w6.mp r1).len.symm,show us.size=l2.length from(w6.mp UK).len.symm];exact E0 (x9 hz).1
  have up:=(JQ (u:=.val .none) (v:=.none) (f:=fun xs=>xs++us) i2 q hF b1 (by rw[sI];exact hz) (by rw[xK];exact(w6.mp r1).app (w6.mp UK)) rfl p2).trans st2
  rw[st2.B9 j hj] at b1 up
  rw[aE] at hz
  exact⟨x,vs,us,k1,k2,by rw[a1o];lia,by rw[a1o];lia,by simp only[Builtin.List.listTooLong,a1o];simp;intro;lia,rfl,b1,b2,up⟩)
theorem Zk {pos:Pos} {j:Nat} (i:Inv e c) (h:Fz j c.σ Q):Rn e c (callWith pos (.builtin "list.pop") [.ref (c.r j)] [] []) (RV e) Q:=by
 refine k8 (h:oe _ _) fun l e1 h=>?_
 refine k8 h fun v hv h=>?_
 obtain⟨q,hF,vs,k1,b1,z,r1⟩:=JW i.hp e1
 have s1:l.length=vs.size:=(w6.mp r1).len
 rw[List.getLast?_eq_getElem?] at hv
 obtain⟨x,hx,hr⟩:=(w6.mp r1).get hv
 rw[s1] at hx
 have hpos:vs.size-1<vs.size:=O0 hx
 have e1:(vs.eraseIdxIfInBounds (vs.size-1)).toList=vs.toList.take (vs.size-1):=by
  rw[Array.eraseIdxIfInBounds,dif_pos hpos]
  simp
  rw[List.eraseIdx_eq_take_drop_succ]
  simp
  lia
 refine PySem.P.pop_list b1 ((eV ..).symm.trans hx) (JQ (f:=fun xs=>xs.eraseIdxIfInBounds (vs.size-1)) i q hF b1 ?_ ?_ hr h) (iA z)
 ·show(vs.eraseIdxIfInBounds (vs.size-1)).toList.length<=d9
  exact e1▸(k6 (PY ..) (k6 (Nat.pred_le _) z))
 ·show p9 _ _ (vs.eraseIdxIfInBounds (vs.size-1)).toList
  rw[e1,List.dropLast_eq_take,s1]
  exact(w6.mp r1).take _
theorem Us {n m:Nat} {sc:Sc} {o:PySem.Expr} {x:Str} {apos pos:Pos} {as:List PySem.Expr} {io:E} {mt:Mt} {l:List E} (ih:aF n) (ft:Fits e sc) (h1:cE m sc o=some io) (hx:KG x=some mt) (h2:as.mapM (cE m sc)=some l) (hs:as.all notStar=true) (hlen:as.length<10)
  (hline:(apos.endLine==pos.line)=true) (IW:qO o=true) (i:Inv e c) (h:(wp e.G e.k n).e io c.σ fun a σ'=>P4 e.G e.k (wp e.G e.k n) mt l a σ' Q):Rn e c (eval (.Call (.Attribute o x apos) as [] pos) e.env) (RV e) Q:=by
 have hpos:methodCallPos true o e.env apos pos=pure pos:=by unfold methodCallPos;simp[hline]
 rw[Uq hx,arm_eval_Call,TQ IW]
 refine a1x (use (ih h1 ft i h) fun c1 a v i1 st1 r1 p1=>a1x (a2g ?_))
 unfold methodCall
 refine(Oo hs hlen)▸?_
 show a1s _ _ (holding [v] (getMethod v (iD mt) (do return (<-importBound o e.env).getD true)) >>= _) _ _ c1.s
 refine k8 (p1:oe _ _) fun j f1 p1=>?_
 refine k8 p1 fun ob f2 p1=>?_
 rw[AI f1] at r1
 obtain⟨rfl,hj⟩:=r1
 have z:=i1.hp.cell j ob f2
 induction ob using M.casesOn with
 | list l0=>
  obtain⟨_,D5,k0,b0,_⟩:=z
  have hT:c1.s.TypeIs (.ref (c1.r j)) "list":=(G7 b0).typeIs
  have hdn:∀ a,Value.ref (c1.r j)=.ref a->∃ ob,c1.h.get? a=some ob/\ob.dict=none:=fun a g=>by injection g with g;exact⟨_,g▸b0,rfl⟩
  induction mt using Mt.casesOn with
  | append=>
   obtain⟨b,rfl,p1⟩:=kF (p1:one l _)
   obtain⟨a',rfl,g1⟩:=ZJ h2
   refine a1x (a2a (DW hT FU PySem.F.slot_list_append PySem.F.type_list_append hdn (a1x (a2d hpos ?_))))
   refine(rI (x9 hs).1)▸?_
   exact back st1 (Jh hj (ih g1 ft i1 p1))
  | extend=>
   obtain⟨b,rfl,p1⟩:=kF (p1:one l _)
   obtain⟨a',rfl,g1⟩:=ZJ h2
   refine a1x (a2a (DW hT FU PySem.F.slot_list_extend PySem.F.type_list_extend hdn (a1x (a2d hpos ?_))))
   refine(rI (x9 hs).1)▸?_
   exact back st1 (Ol hj (ih g1 ft i1 p1))
  | pop=>
   induction l using List.casesOn with
   | cons _ _=>exact p1.elim
   | nil=>
    have:=mapM_none h2
    subst this
    exact a1x (a2a (DW hT FU PySem.F.slot_list_pop PySem.F.type_list_pop hdn (a1x (a2d hpos (back st1 (Zk i1 p1))))))
  | _=>exact p1.elim
 | inst C=>
  refine k8 (p1:oe _ _) fun f g1 p1=>?_
  refine k8 p1 fun q g2 p1=>?_
  refine K9 p1 fun g3 p1=>?_
  refine g9 g2 fun mm g4 g5=>?_
  have y:=i1.hp.cell _ mm g4
  rw[tF g5,<-I9 g3] at y
  obtain⟨_,od,avs,b2,⟨es,n',rfl,hl⟩,_⟩:=y
  obtain⟨hc,hnot⟩:=Ur g1
  obtain⟨m1,m2,fo,fd,m3,m4⟩:=ft.gx.mt _ _ _ g1
  have cl:=e.G.cls hc
  have I:InstAt c1.h (c1.r j) (instObj C (c1.r (j+1))) C (some (dictOf es n')):=⟨z.2.1,rfl,rfl,b2⟩
  refine a1x (a2a (method_fn i1.hp.K I cl.ga cl.gx m1 m2 ?_ (a1x (a2d hpos (OQ (o:=fo) (fd:=fd) (pQ hs (use (rG ih ft h2 hs i1 p1) fun c2 us ws i2 st2 r2 p2=>?_)))))))
  ·show(lookIn (iD mt) (dictOf es n')).map _=_
   rw[lookIn_dict,hl.miss hnot];rfl
  obtain⟨P,p3,p4⟩:=p2
  exact⟨⟨i2.hp.K _ _ m3,m4⟩,back (st1.trans st2) (aC7 e.room i2 (us:=.loc j::us) ⟨_,_,rfl,(show i0 e.G c1 (.loc j) _ from⟨rfl,hj⟩).step st2,r2.1⟩ ((AI f1)▸p3) p4)⟩
 | _=>exact p1.elim
end
section
variable {G:Gd} {e:Ev} {c c' c1:Cx}
noncomputable def bk (n:Nat) (p:List Nat) (i:Nat):Nat:=if i<n then i else(p[i-n]?).getD 0
noncomputable def Cx.pick (c:Cx) (n:Nat) (p:List Nat) (vs:List (Option V)):Cx:=⟨c.F,fun i=>c.r (bk n p i),⟨vs,cI n p c.σ.mu⟩,c.s⟩
theorem ZZ:∀{l:List Nat},fS l=true->l.Nodup:=by
 intro b7
 induction b7 with
 | nil=>intro _;exact oX
 | cons x l ih=>intro h;exact H8.mpr ⟨fun hm=>Bool.noConfusion ((PS.mpr ⟨x,hm,yE x⟩).symm.trans ((lS _).mp (x9 h).1)),ih (x9 h).2⟩
theorem KR {α:Type}:∀{l:List α} {i j:Nat} {x:α},l.Nodup->l[i]?=some x->l[j]?=some x->i=j
 | a::l,0,0,x,_,_,_=>rfl
 | a::l,0,j+1,x,nd,h,g=>by have h:=si h;exact absurd (aL (show l[j]?=some x from g)) (h▸(H8.mp nd).1)
 | a::l,i+1,0,x,nd,h,g=>by have g:=si g;exact absurd (aL (show l[i]?=some x from h)) (g▸(H8.mp nd).1)
 | a::l,i+1,j+1,x,nd,h,g=>congrArg (fun ζ=>ζ+1) (KR (l:=l) (H8.mp nd).2 h g)
theorem Se:∀{p:List Nat} {i k:Nat},uI i p=some k->p[k]?=some i:=by
 intro b7
 induction b7 with
 | nil=>intro b8 b9 e8;first | exact nomatch e8 | exact nomatch b9 | exact nomatch b8 | cases e8 | cases b9 | cases b8
 | cons x p IH=>
  intro i k h
  have h:(bif Nat.beq x i then some 0 else(uI i p).map Nat.succ)=some k:=h
  cases q:Nat.beq x i with
  | true=>rw[q] at h;have h:=si h;rw[<-h,I9 q];rfl
  | false=>
   rw[q] at h
   refine p7 h fun j h1 h2=>?_
   refine h2▸?_
   exact(show p[j]?=some i from IH h1)
section
variable {n len:Nat} {p:List Nat} {mu:List M}
theorem jM {i:Nat} (h:i<n):bk n p i=i:=if_pos h
theorem jL {k:Nat}:bk n p (n+k)=(p[k]?).getD 0:=by unfold bk;rw[if_neg (FP.mpr (H9 _ _)),cZ]
theorem place {i:Nat} (h:i<n+p.length):i<n∨∃ k x,i=n+k/\p[k]?=some x:=by
 by_cases z:i<n
 ·exact .inl z
 ·have hk:i-n<p.length:=RD (N7 z) h
  exact .inr ⟨i-n,p[i-n],(FF (N7 z)).symm,P5 hk⟩
theorem qP (h:iI n p len=true) {k x:Nat} (g:p[k]?=some x):n<=x/\x<len:=by
 have:=U1.mp (x9 h).1 x (aL g)
 exact⟨E0 (x9 this).1,E0 (x9 this).2⟩
theorem Kr (h:iI n p len=true) {i j:Nat} (hi:i<n+p.length) (hj:j<n+p.length) (q:bk n p i=bk n p j):i=j:=by
 rcases place hi with hi |⟨k,x,rfl,hk⟩<;>rcases place hj with hj |⟨l,y,rfl,hl⟩
 ·rw[jM hi,jM hj] at q;exact q
 ·rw[jM hi,jL,hl] at q;have q:i=y:=q;exact below (qP h hl).1 (q▸hi)
 ·rw[jL,hk,jM hj] at q;have q:x=j:=q;exact below (qP h hk).1 (q▸hj)
 ·rw[jL,jL,hk,hl] at q
  rw[KR (ZZ (x9 h).2) hk ((show x=y from q)▸hl)]
theorem mG (h:iI n p len=true) (hn:n<=len) {i:Nat} (hi:i<n+p.length):bk n p i<len:=by
 rcases place hi with hi |⟨k,x,rfl,hk⟩
 ·rw[jM hi];exact W3 hi hn
 ·rw[jL,hk];exact(qP h hk).2
theorem LZ {i j:Nat} (h:qU n p i=some j):bk n p j=i/\j<n+p.length:=by
 have h:(bif Nat.blt i n then some i else(uI i p).map fun j=>n+j)=some j:=h
 cases q:Nat.blt i n with
 | true=>
  rw[q] at h
  have h:=si h
  have q:i<n:=E0 q
  subst h
  exact⟨jM q,W3 q (H9 _ _)⟩
 | false=>
  rw[q] at h
  refine p7 h fun k h1 h2=>?_
  have:=Se h1
  rw[<-h2,jL,this]
  exact⟨rfl,FD (O0 this) _⟩
theorem YM:∀(i:Nat) (mu:List M) (j:Nat),(keepR n p i mu)[j]?=bif Nat.blt (i+j) n then(mu[j]?).map (M.re n p (i+j) (i+j)) else none
 | i,[],j=>by cases Nat.blt (i+j) n<;>rfl
 | i,m::mu,j=>by
  show(bif Nat.blt i n then m.re n p i i::keepR n p (i+1) mu else [])[j]?=_
  cases q:Nat.blt i n with
  | true=>
   induction j using Nat.casesOn with
   | zero=>show some _=bif Nat.blt i n then _ else _;rw[q];rfl
   | succ j=>
    show(keepR n p (i+1) mu)[j]?=bif Nat.blt (i+(j+1)) n then(mu[j]?).map _ else none
    rw[YM (i+1) mu j,gI,lW 1 j]
  | false=>
   have:Nat.blt (i+j) n=false:=sJ.mpr fun z=>sJ.mp q (yF (Y9 (H9 i j) (show i+j<n from E0 z)))
   rw[this];rfl
theorem YN:∀(i:Nat) (mu:List M),n<=i+mu.length->i<=n->(keepR n p i mu).length=n-i
 | i,[],h,g=>(RB h).symm
 | i,m::mu,h,g=>by
  show(bif Nat.blt i n then m.re n p i i::keepR n p (i+1) mu else []).length=_
  cases q:Nat.blt i n with
  | true=>
   have q:i+1<=n:=E0 q
   show(keepR n p (i+1) mu).length+1=n-i
   rw[YN (i+1) mu (by rw[gI,lW 1];exact h) q];lia
  | false=>exact(RB (N7 fun z=>sJ.mp q (yF z))).symm
theorem AE (h:n<=mu.length):(keepR n p 0 mu).length=n:=YN 0 mu ((W4 _).symm▸h) (v7 _)
theorem ZL:∀(q:Nat) (l:List Nat) (k:Nat),(vG n p mu q l)[k]?=(l[k]?).map fun i=>((mu[i]?).getD .dead).re n p i (q+k)
 | _,[],_=>rfl
 | q,i::l,0=>rfl
 | q,i::l,k+1=>by
  show(vG n p mu (q+1) l)[k]?=_
  rw[ZL (q+1) l k,gI,lW 1 k];rfl
theorem ZM:∀(q:Nat) (l:List Nat),(vG n p mu q l).length=l.length
 | _,[]=>rfl
 | q,i::l=>congrArg (fun ζ=>ζ+1) (ZM (q+1) l)
theorem fU (h:n<=mu.length):(cI n p mu).length=n+p.length:=by
 unfold cI
 rw[o7,AE h,ZM]
theorem Yw (hp:iI n p mu.length=true) (h:n<=mu.length) {q:Nat} {m':M} (g:(cI n p mu)[q]?=some m'):∃ m,mu[bk n p q]?=some m/\m'=m.re n p (bk n p q) q:=by
 have hq:=O0 g
 rw[fU h] at hq
 unfold cI at g
 rcases place hq with hq |⟨k,x,rfl,hk⟩
 ·rw[aJ (by rw[AE h];exact hq),YM,W4,show Nat.blt q n=true from yF hq] at g
  refine p7 g fun m h1 h2=>?_
  rw[jM hq]
  exact⟨m,h1,h2.symm⟩
 ·rw[jD (by rw[AE h];exact H9 _ _),AE h,cZ,ZL,hk] at g
  have:=P5 (qP hp hk).2
  rw[jL,hk]
  have g:=si g
  have g:((mu[x]?).getD .dead).re n p x (n+k)=m':=g
  rw[this] at g
  exact⟨_,this,g.symm⟩
end
section
variable {n:Nat} {p:List Nat} {vs:List (Option V)} (hn:n<=c.n)
include hn
mutual
theorem i0.re:∀{u u':V} {v:Value},u.re n p=some u'->i0 G c u v->i0 G (c.pick n p vs) u' v
 | .val _,_,_,h,r=>by have h:=si h;subst h;exact r
 | .loc i,_,_,h,r=>by
  refine p7 (h:(qU n p i).map V.loc=_) fun j h1 h2=>?_
  have g1:=(LZ h1).1
  have g2:=(LZ h1).2
  subst h2
  exact⟨by rw[r.1];exact congrArg (fun z=>Value.ref (c.r z)) g1.symm,by rw[show(c.pick n p vs).n=_ from fU hn];exact g2⟩
 | .tup l,_,_,h,Wn=>by
  obtain⟨a,vs,k,h1,h2,h3,h4⟩:=Wn
  refine p7 (h:(V.res n p l).map V.tup=_) fun l' g1 g2=>?_
  subst g2
  exact⟨a,vs,k,h1,h2,h3,o8.re g1 h4⟩
theorem o8.re:∀{u u':List V} {v:List Value},V.res n p u=some u'->o8 G c u v->o8 G (c.pick n p vs) u' v
 | [],_,_,h,r=>by have h:=si h;subst h;exact r
 | u::us,_,_,h,Wo=>by
  obtain⟨v,vs,q,a,b⟩:=Wo
  refine g9 (h:(u.re n p).bind _=_) fun u' h1 h=>?_
  refine p7 h fun us' h2 h=>?_
  subst h
  exact⟨v,vs,q,i0.re h1 a,o8.re h2 b⟩
end
variable (hp:iI n p c.n=true)
include hp
theorem A0.pick (x:A0 G c):A0 G (c.pick n p vs):=by
 have len:(c.pick n p vs).n=n+p.length:=fU hn
 refine⟨x.base,x.sub,fun i j hi hj q=>?_,fun q m' h=>?_,fun i hi=>x.live _ (mG hp hn (len▸hi))⟩
 ·rw[len] at hi hj
  exact Kr hp hi hj (x.inj _ _ (mG hp hn hi) (mG hp hn hj) q)
 ·obtain⟨m,h1,rfl⟩:=Yw hp hn h
  have y:=x.cell _ m h1
  induction m using M.casesOn with
  | list l=>
   obtain⟨hF,us,k,b,z,r⟩:=y
   show T7 G _ q (Option.casesOn (V.res n p l) .dead .list)
   cases g:V.res n p l with
   | none=>trivial
   | some l'=>exact⟨hF,us,k,b,z,r.re hn g⟩
  | inst C=>
   show T7 G _ q (bif Option.casesOn (qU n p (bk n p q+1)) false (fun j=>Nat.beq j (q+1)) then .inst C else .dead)
   cases g:qU n p (bk n p q+1) with
   | none=>trivial
   | some j=>
    show T7 G _ q (bif Nat.beq j (q+1) then .inst C else .dead)
    cases g':Nat.beq j (q+1) with
    | false=>trivial
    | true=>
     obtain⟨g1,g2⟩:=LZ g
     rw[I9 g'] at g1 g2
     exact⟨y.1,by show c.h.get? _=some (instObj C (c.r (bk n p (q+1))));rw[g1];exact y.2.1,by rw[len];exact g2⟩
  | attrs C l=>
   obtain⟨hF,o,us,b,z,r⟩:=y
   show T7 G _ q (Option.casesOn (V.res n p l) .dead (.attrs C))
   cases g:V.res n p l with
   | none=>trivial
   | some l'=>exact⟨hF,o,us,b,z,r.re hn g⟩
  | dict ks l=>
   obtain⟨hF,o,kvs,b,z1,z2,r,z3,z4⟩:=y
   show T7 G _ q (Option.casesOn (V.res n p l) .dead (.dict ks))
   cases g:V.res n p l with
   | none=>trivial
   | some l'=>exact⟨hF,o,kvs,b,z1,z2,r.re hn g,z3,z4⟩
  | frozen d=>exact y
  | dead=>trivial
end
theorem Step.pick {fr:Addr->Prop} {p:List Nat} {vs:List (Option V)} (st:Step fr c c1) (hp:iI c.n p c1.n=true):Step fr c (c1.pick c.n p vs):=by
 have len:(c1.pick c.n p vs).n=c.n+p.length:=fU st.len
 refine⟨st.same,st.grow,fun i hi=>(congrArg c1.r (jM hi)).trans (st.B9 i hi),by rw[len];exact H9 _ _,st.keep,st.live,st.newF,fun i h1 h2=>?_⟩
 rw[len] at h2
 rcases place h2 with h2 |⟨k,x,rfl,hk⟩
 ·exact below h1 h2
 ·show c.h.get? (c1.r (bk c.n p (c.n+k)))=none
  rw[jL,hk]
  exact st.newR x (qP hp hk).1 (qP hp hk).2
theorem Inv.pick {n:Nat} {p:List Nat} {vs:List (Option V)} (i:Inv e c) (hn:n<=c.n) (hp:iI n p c.n=true) (hv:∀(j:Nat) (x:Str) (u:V),e.nm[j]?=some x->vs[j]?=some (some u)->∃ w,c.σ.vars[j]?=some (some w)/\w.re n p=some u):Inv e (c.pick n p vs):=by
 refine⟨i.hp.pick hn hp,i.bH,fun b hb j hj=>i.cF b hb _ (mG hp hn (by rw[<-show(c.pick n p vs).n=_ from fU hn];exact hj)),?_⟩
 obtain⟨m,cm,h1,h2,h3⟩:=i.kD
 refine⟨m,cm,h1,h2,fun j x u g1 g2=>?_⟩
 obtain⟨w,g3,g4⟩:=hv j x u g1 g2
 obtain⟨v,g5,g6⟩:=h3 j x w g1 g3
 exact⟨v,g5,g6.re hn g4⟩
theorem gO:∀(fs:List Nat) {vs:List (Option V)} {j:Nat} {u:V},(P8 fs vs)[j]?=some (some u)->vs[j]?=some (some u)/\j∉fs:=by
 intro b7
 induction b7 with
 | nil=>intro _ _ _ h;exact⟨h,A8⟩
 | cons f fs ih=>
  intro vs j u h
  obtain⟨h,h'⟩:=ih (vs:=vs.set f none) h
  by_cases z:f=j
  ·subst z
   rw[List.getElem?_set_self'] at h
   refine p7 h fun ζ ζ h=>?_
   exact nn h
  ·rw[N4 z] at h
   exact⟨h,fun hm=>(v5.mp hm).elim (fun w=>z w.symm) h'⟩
theorem Nq:∀{fs:List Nat} {vs:List (Option V)} {j:Nat} {u:V},j∉fs->vs[j]?=some (some u)->(P8 fs vs)[j]?=some (some u):=by
 intro b7
 induction b7 with
 | nil=>intro _ _ _ _ h;exact h
 | cons f fs ih=>intro vs j u hj h;exact ih (vs:=vs.set f none) (fun z=>hj (l6 _ z)) ((N4 fun z:f=j=>hj (by rw[z];exact f9)).trans h)
theorem Inv.less {vs:List (Option V)} (i:Inv e c) (hv:∀(j:Nat) (u:V),vs[j]?=some (some u)->c.σ.vars[j]?=some (some u)):Inv e ⟨c.F,c.r,⟨vs,c.σ.mu⟩,c.s⟩:=
 i.go (i.hp.same (fun ζ ζ h=>h) i.hp.sub fun ζ ζ=>⟨id,fun ζ=>id⟩) ⟨fun ζ ζ h=>h,fun ζ ζ=>rfl,g7 _⟩ hv i.bH (fun ζ ζ ζ=>below) fun ζ ζ ζ h=>h
theorem Step.vars {fr:Addr->Prop} {l l':List (Option V)} (st:Step fr c c1):Step fr ⟨c.F,c.r,⟨l,c.σ.mu⟩,c.s⟩ ⟨c1.F,c1.r,⟨l',c1.σ.mu⟩,c1.s⟩:=⟨st.same,st.grow,st.B9,st.len,st.keep,st.live,st.newF,st.newR⟩
theorem YY {fr:Addr->Prop} {fs:List Nat} {I:St->Prop} (i:Inv e c1) (st:Step fr c c1) (h:Let c.n fs I c1.σ):∃ c',c'.s=c1.s/\Inv e c'/\Step fr c c'/\I c'.σ/\∀ b,(∀ j,j<c1.n->b≠c1.r j)->c'.F b=c1.F b/\∀ j,j<c'.n->b≠c'.r j:=by
 obtain⟨p,h⟩:=h
 induction p using Option.casesOn with
 | none=>exact⟨⟨c1.F,c1.r,⟨P8 fs c1.σ.vars,c1.σ.mu⟩,c1.s⟩,rfl,i.less fun ζ ζ h=>(gO fs h).1,st.vars,h,fun b hb=>⟨rfl,hb⟩⟩
 | some p=>
  have hp:=h.1
  have h:=h.2
  refine⟨c1.pick c.n p (P8 fs (c1.σ.vars.map fun(v:Option V)=>v.bind (V.re c.n p))),rfl,i.pick st.len hp fun j ζ u ζ g=>?_,st.pick hp,h,fun b hb=>⟨rfl,fun j hj=>hb _ (mG hp st.len (by rw[<-show(c1.pick c.n p _).n=_ from fU st.len];exact hj))⟩⟩
  have g:=(gO fs g).1
  rw[bR] at g
  refine p7 g fun w g1 g2=>?_
  refine g9 g2 fun w' g3 g4=>?_
  exact⟨w',g3▸g1,g4⟩
end
section
variable {G:Gd} {e:Ev} {c c' c1:Cx} {fr:Addr->Prop}
theorem Ac {h:Heap} {a b:Addr} {m:Str->Option Value} {v:Option Value} (x:h.Ns a m) (y:h.IsCell b v):a≠b:=by
 rintro rfl
 obtain⟨o,es,ep,h1,h2,_⟩:=x
 obtain⟨o',h3,h4⟩:=y
 rw[h1] at h3
 have h3:=si h3
 subst h3
 rw[h2] at h4
 cases h4
noncomputable def xC (env:Env) (fr:Addr->Prop) (x:Str):Prop:=(env.kindOf x=some .local->fr env.locals)/\(env.kindOf x=some .cell->∀ c,env.cells.lookup x=some c->fr c)
theorem wI (env:Env) (x:Str):xC env (own env) x:=⟨fun ζ=>.inl rfl,fun ζ c h=>.inr ⟨x,h⟩⟩
theorem Ak (i:Inv e c) {a:Addr} {h':Heap} {tk:Nat} (vs:List (Option V)) (ha:own e.env a) (hf:fr a) (k:∀ b,b≠a->h'.get? b=c.h.get? b) (hl:∃ o,h'.get? a=some o) :
  A0 e.G ⟨c.F,c.r,⟨vs,c.σ.mu⟩,{c.s with heap:=h',toks:=tk}⟩/\Step fr c ⟨c.F,c.r,⟨vs,c.σ.mu⟩,{c.s with heap:=h',toks:=tk}⟩:=by
 have k' {b:Addr} {o:Obj} (z:b≠a) (h:c.h.get? b=some o):h'.get? b=some o:=(k b z).trans h
 refine⟨i.hp.same (s':={c.s with heap:=h',toks:=tk}) (fun ζ ζ h=>h) (fun b o h=>k' (fun z=>E6 (z▸i.bH a ha) h) (i.hp.sub b o h)) fun j hj=>⟨id,fun o h=>k' (U4 (i.cF a ha j hj)) h⟩,⟨_,_,rfl⟩,fun ζ ζ h=>h,fun ζ ζ=>rfl,g7 _,fun b o h h1 ζ=>k' (fun z=>h1 (z▸hf)) h,fun b o h=>?_,fun ζ=>.inl,fun ζ=>below⟩
 by_cases z:b=a
 ·exact z▸(hl)
 ·exact⟨o,k' z h⟩
theorem Dc {α:Type} {l:List (Option α)} {j j':Nat} {u w:α} (hj:j<l.length) (h:(l.set j (some u))[j']?=some (some w)):(j=j'/\w=u)∨(j≠j'/\l[j']?=some (some w)):=by
 by_cases z:j=j'
 ·subst z
  rw[gH hj] at h
  have h:=si h
  have h:=si h
  exact .inl ⟨rfl,h.symm⟩
 ·rw[N4 z] at h
  exact .inr ⟨z,h⟩
theorem MT {M:Model} {A:Around} (i:Inv e c) {j:Nat} {x:Str} {v:Value} {u:V} (hx:e.nm[j]?=some x) (hk:e.env.kindOf x=some .local∨e.env.kindOf x=some .cell) (r:i0 e.G c u v) (hj:j<c.σ.vars.length) (hf:xC e.env fr x) :
  a1s M A (storeName e.env x v) (Y6 e fr c RU fun ζ σ'=>σ'=c.σ.MF j u) D4 c.s:=by
 obtain⟨m,cm,h1,h2,h3⟩:=i.kD
 have uniq {j':Nat} {x':Str} (g1:e.nm[j']?=some x') (g2:j≠j'):x'≠x:=fun g3=>g2 (KR e.nodup hx (g3▸g1))
 have rep {s':Shared} {w:V} {y:Value} (r:i0 e.G c w y):i0 e.G ⟨c.F,c.r,c.σ.MF j u,s'⟩ w y:=r.frame (fun ζ ζ h=>h) (g7 _)
 rcases hk with hk | hk
 ·refine wpAny_storeName_local hk h1 (fun h' hn hs=>?_) (by rw[e.kind];rfl)
  obtain⟨K1,K2⟩:=Ak (fr:=fr) (tk:=c.s.toks+1) i (c.σ.vars.set j (some u)) (.inl rfl) (hf.1 hk) hs.2 (let ⟨o,es,ep,q,_⟩:=hn;⟨o,q⟩)
  refine⟨_,(),rfl,⟨K1,i.bH,i.cF,_,cm,hn,fun y a q=>?_,fun j' x' w g1 g2=>?_⟩,K2,trivial,rfl⟩
  ·obtain⟨o,q1,q2⟩:=h2 y a q
   exact⟨o,(hs.2 a (U4 (Ac h1 (h2 y a q)))).trans q1,q2⟩
  ·rcases Dc hj g2 with⟨rfl,rfl⟩ |⟨z,g2⟩
   ·rw[hx] at g1
    have g1:=si g1
    subst g1
    exact⟨v,.inl ⟨hk,if_pos rfl⟩,rep r⟩
   ·obtain⟨y,q1,q2⟩:=h3 j' x' w g1 g2
    exact⟨y,q1.imp (fun q=>⟨q.1,(if_neg (uniq g1 z)).trans q.2⟩) id,rep q2⟩
 ·obtain⟨a,hc⟩:=e.cells x hk
  refine wpAny_storeName_cell e.kind hk hc (h2 x a hc) fun h' hn hs=>?_
  obtain⟨K1,K2⟩:=Ak (fr:=fr) (tk:=c.s.toks) i (c.σ.vars.set j (some u)) (.inr ⟨x,hc⟩) (hf.2 hk a hc) hs.2 (let ⟨o,q,_⟩:=hn;⟨o,q⟩)
  refine⟨_,(),rfl,⟨K1,i.bH,i.cF,m,(fun y=>if y=x then some v else cm y),h1.sameBut hs (Ac h1 (h2 x a hc)),fun y b q=>?_,fun j' x' w g1 g2=>?_⟩,K2,trivial,rfl⟩
  ·show h'.IsCell b (if y=x then some v else cm y)
   by_cases z:y=x
   ·subst z
    rw[hc] at q
    have q:=si q
    rw[if_pos rfl,<-q];exact hn
   ·refine(if_neg z)▸?_
    obtain⟨o,q1,q2⟩:=h2 y b q
    exact⟨o,(hs.2 b fun w=>z (e.apart _ _ _ q (w▸hc))).trans q1,q2⟩
  ·rcases Dc hj g2 with⟨rfl,rfl⟩ |⟨z,g2⟩
   ·rw[hx] at g1
    injection g1 with g1
    subst g1
    exact⟨v,.inr ⟨hk,a,hc,if_pos rfl⟩,rep r⟩
   ·obtain⟨y,q1,q2⟩:=h3 j' x' w g1 g2
    exact⟨y,q1.imp id fun⟨p,b,p1,p2⟩=>⟨p,b,p1,(if_neg (uniq g1 z)).trans p2⟩,rep q2⟩
section
variable {A:Around} {s:Shared}
structure rZ (G:Gd) (A:Around) (I ax:Addr) (vs:Array Value) (St:Nat->Heap->Prop):Prop where
 W:Walks G.prog G.w A I [I,ax] [I] vs.size (fun i v=>vs[i]?=some v) St
 cls:∀ j h,St j h->∃ o,h.get? I=some o/\(o.cls=.type "list_iterator"∨o.cls=.type "tuple_iterator")
theorem zX {E:Value->Shared->Prop} {R:Value->Shared->Prop} (hh:A.handled=none) {ax:Addr} {vs:Array Value} {kk:Nat} (hx:s.heap.get? ax=some (K5 vs kk)∨s.heap.get? ax=some (eE vs kk))
  (h:∀ o St,rZ G A s.heap.objs.size ax vs St->St 0 (s.heap.push o)->o.isFreed=false->R (.ref s.heap.objs.size) {s with heap:=s.heap.push o}):a1s (a1l G.prog G.w) A (pyIter (.ref ax)) R E s:=by
 have hne:ax≠s.heap.objs.size:=fun z=>by rcases hx with hx | hx<;>exact E6 (z▸L8 s.heap) hx
 rcases hx with hx | hx
 ·exact wpAny_pyIter_list (G7 hx) (h _ _ ⟨Walks.list hh _ ax hne vs,fun j h st=>let ⟨o,q,d,_⟩:=st.1;⟨o,q,.inl d⟩⟩ ⟨⟨_,aH _ rfl,rfl,rfl⟩,(G7 hx).push _⟩ rfl)
 ·exact wpAny_pyIter_tuple (gY hx) (h _ _ ⟨Walks.tuple hh _ ax hne vs,fun j h st=>let ⟨o,q,d,_⟩:=st.1;⟨o,q,.inr d⟩⟩ ⟨⟨_,aH _ rfl,rfl,rfl⟩,(gY hx).push _⟩ rfl)
theorem vL {a b:Addr} (h:a≠b):a∉[b]:=fun z=>h (j5.mp z)
theorem Np {E:Value->Shared->Prop} {I ax:Addr} {vs:Array Value} {St:Nat->Heap->Prop} (x:rZ G A I ax vs St):∀(m i:Nat) (s:Shared) (Q:List Value->Shared->Prop),i+m=vs.size->St i s.heap->
  (∀ h' tk,St vs.size h'->(∀ b o,b≠I->s.heap.get? b=some o->h'.get? b=some o)->Q (vs.toList.drop i) {s with heap:=h',toks:=tk})->a1s (a1l G.prog G.w) A (draw (.ref I) m) Q E s:=by
 intro b7
 induction b7 with
 | zero=>
  intro i s Q hi st hQ
  have hi:i=vs.size:=hi
  subst hi
  have:=hQ s.heap s.toks st fun ζ ζ ζ h=>h
  rw[ER (show vs.toList.length<=vs.size from g7 _)] at this
  exact a2e this
 | succ m ih=>
  intro i s Q hi st hQ
  have hl:i<vs.size:=hi▸QU (oY m)
  refine a1x (x.W.item i _ _ _ hl st fun v h1 dZ hv st1 hk1=>a1x (a2a (ih (i+1) _ _ (by rw[<-hi,gI,lW 1]) st1 fun h2 M3 st2 hk2=>a2e ?_)))
  have:=hQ h2 M3 st2 fun b o hb h=>hk2 b o hb (hk1 b o (vL hb) h)
  rw[xT (hl:i<vs.toList.length)] at this
  rw[lR hl] at hv
  injection hv with hv
  refine hv▸?_
  exact this
theorem YF {E:Value->Shared->Prop} {Q:List Value->Shared->Prop} (hh:A.handled=none) {ax:Addr} {vs:Array Value} {kk:Nat} (hx:s.heap.get? ax=some (K5 vs kk)∨s.heap.get? ax=some (eE vs kk))
  (hQ:∀ h' tk,(∀ b o,s.heap.get? b=some o->h'.get? b=some o)->Q vs.toList {s with heap:=h',toks:=tk}):a1s (a1l G.prog G.w) A (unpackItems (.ref ax) vs.size none) Q E s:=by
 have body:a1s (a1l G.prog G.w) A (do
  let it <-holding [Value.ref ax] (pyIter (.ref ax))
  let items <-holding [it] (draw it vs.size)
  if items.length<vs.size then
   rule "unpack.too-few";raiseError "ValueError" s!"not enough values to unpack (expected {vs.size}, got {items.length})"
  if(<-holding items (pyNext it)).isSome then
   rule "unpack.too-many";raiseError "ValueError" s!"too many values to unpack (expected {vs.size})"
  return items) Q E s:=by
  refine a1x (a2a (zX hh hx fun o St x st ho=>?_))
  have new:∀ b o',s.heap.get? b=some o'->b≠s.heap.objs.size:=fun b o' h z=>E6 (z▸L8 s.heap) h
  refine a1x (a2a (Np x vs.size 0 _ _ (W4 _) st fun h1 dZ st1 hk1=>?_))
  rw[List.drop_zero,if_neg (show ¬vs.toList.length<vs.size from aM _)]
  exact a1x (a2a (x.W.done _ _ _ st1 fun h2 M3 hk2=>a2e (hQ h2 M3 fun b o' h=>hk2 b o' (vL (new b o' h)) (hk1 b o' (new b o' h) (F5 _ _ _ h)))))
 unfold unpackItems
 refine a1x ?_
 unfold notIterableAtAll
 rcases hx with h1 | h1
 ·exact a1x (a2f (G7 h1).typeIs slot_list_iter.lookup (a2e body))
 ·exact a1x (a2f (gY h1).typeIs PySem.F.slot_tuple_iter.lookup (a2e body))
end
theorem aB6 {α:Type} {x:PySem.Expr} {f:Str->Option α} {j:α} {P:PySem.Expr->Prop} (h:M9 x none f=some j) (k:∀ y p,f y=some j->P (.Name y p)):P x:=by
 revert h
 induction x using PySem.Expr.casesOn with
 | Name y p=>exact k y p
 | _=>exact nn
noncomputable def vH (sc:Sc) (x:PySem.Expr):Option Nat:=M9 x none (S6 sc)
theorem ZO {sc:Sc} {x:PySem.Expr} {j:Nat} (h:vH sc x=some j):∃ y p,x=.Name y p/\S6 sc y=some j:=aB6 (P:=fun x=>∃ y p,x=.Name y p/\S6 sc y=some j) h fun y p h=>⟨y,p,rfl,h⟩
theorem VX {sc:Sc} (ft:Fits e sc) {A:Around} {α:Type} {f:α->Value->Sem Unit} {g:α->Option Nat}:∀{as:List α} {is:List Nat} {c:Cx} {vs:List Value} {l:List V},(∀ a∈as,∀ j,g a=some j->∃ x,S6 sc x=some j/\xC e.env fr x/\∀{v:Value} {s:Shared} {Q:Unit->Shared->Prop},a1s (a1l e.G.prog e.G.w) A (storeName e.env x v) Q D4 s->a1s (a1l e.G.prog e.G.w) A (f a v) Q D4 s)->
  as.mapM g=some is->is.length=l.length->(∀ i∈is,i<c.σ.vars.length)->o8 e.G c l vs->Inv e c->
  a1s (a1l e.G.prog e.G.w) A (assignInOrder (as.map f) vs) (Y6 e fr c RU fun ζ σ'=>σ'=⟨bindTo is l c.σ.vars,c.σ.mu⟩) D4 c.s:=by
 intro b7
 induction b7 with
 | nil=>
  intro _ c vs l _ h hl _ r i
  rw[mapM_nil h] at hl ⊢
  rw[oU hl.symm] at r ⊢
  rw[show vs=[] from r]
  exact a2e (here (b:=()) i trivial rfl)
 | cons a as ih=>
  intro _ c vs l hg h hl hi r i
  obtain⟨j,js,e1,e2,rfl⟩:=mapM_cons h
  induction l using List.casesOn with
  | nil=>cases hl
  | cons u l=>
   obtain⟨v,vs,rfl,ra,r⟩:=r
   obtain⟨x,hx,hf,hw⟩:=hg a f9 j e1
   have hk:=(wL hx).1
   have hx:=(wL hx).2
   rw[<-ft.names] at hk
   refine a1x (a2a (hw (use (MT i (ft.nm▸hx) hk ra (hi j f9) hf) fun c1 ζ ζ i1 st1 ζ q1=>?_)))
   have len:c1.σ.vars.length=c.σ.vars.length:=by rw[q1];exact M5
   refine back st1 (a2c (ih (fun a h=>hg a (l6 _ h)) e2 (bU hl) (fun i hm=>len▸hi i (l6 _ hm)) (r.step st1) i1) (fun _ s' ⟨c2,b,p1,p2,p3,p4,p5⟩=>⟨c2,b,p1,p2,p3,p4,?_⟩) fun ζ ζ h=>h)
   rw[p5,q1];rfl
end
section
variable {G:Gd} {e:Ev} {c c' c1:Cx} {fr:Addr->Prop}
theorem ZI {α β:Type} {f:α->Option β}:∀{a:List α} {b:List β},a.mapM f=some b->a.length=b.length:=by
 intro b7
 induction b7 with
 | nil=>intro b h;rw[mapM_nil h];rfl
 | cons x xs ih=>intro b h;obtain⟨_,_,_,h2,rfl⟩:=mapM_cons h;exact congrArg (fun ζ=>ζ+1) (ih h2)
theorem Jq {sc:Sc} {env:Env}:∀{es:List PySem.Expr} {is:List Nat},es.mapM (vH sc)=some is->assignEach es env=es.map fun x=>(false,fun v=>assign x env v):=by
 intro b7
 induction b7 with
 | nil=>intro is h;exact rfl
 | cons x es ih=>
  intro is h
  obtain⟨j,js,e1,e2,rfl⟩:=mapM_cons h
  obtain⟨y,p,rfl,_⟩:=ZO e1
  show(false,assign (.Name y p) env)::assignEach es env=_
  rw[ih e2];rfl
theorem Vk {α:Type}:∀(l:List α) {f:α->Value->Sem Unit},(l.map fun x=>(false,f x)).findIdx? (fun ζ=>ζ.1)=none:=by
 intro b7
 induction b7 with
 | nil=>intro _;exact rfl
 | cons a l ih=>intro f;rw[N5,List.findIdx?_cons,ih];rfl
theorem CQ {sc:Sc} (ft:Fits e sc) {x:PySem.Expr} {t:Tg} {v:Value} {u:V} {Q:St->Prop} (hc:P6 sc x=some t) (hf:∀ y∈kT x,xC e.env fr y) (i:Inv e c) (r:i0 e.G c u v) (h:C6 t u c.σ Q) :
  a1s (a1l e.G.prog e.G.w) e.A (assign x e.env v) (Y6 e fr c RU fun ζ=>Q) D4 c.s:=by
 induction x using PySem.Expr.casesOn with
 | Name y pos=>
  refine p7 (hc:(S6 sc y).map Tg.var=some t) fun j e1 e_=>?_
  subst e_
  obtain⟨hk,hx⟩:=wL e1
  rw[<-ft.names] at hk
  refine K9 h fun hj hq=>?_
  exact a1w (use (MT i (ft.nm▸hx) hk r (E0 hj) (hf y f9)) fun c1 b ζ i1 st1 ζ q1=>(here (b:=()) i1 trivial (q1▸hq)).trans st1)
 | Tuple es kk pos=>
  refine p7 (hc:(es.mapM (vH sc)).map Tg.tup=some t) fun is e1 e_=>?_
  subst e_
  refine k8 (h:oe _ _) fun l e2 h=>?_
  refine K9 h fun g hq=>?_
  refine x8 g fun g1 g2=>?_
  refine x8 g2 fun ζ g3=>?_
  have g1:=I9 g1
  obtain⟨ax,vs,kk,rfl,h1,_,h2⟩:=tD i.hp r e2
  rw[arm_assign_Tuple]
  refine a1x (a2g ?_)
  unfold unpack
  rw[Jq e1,Vk,i9,ZI e1,g1,show l.length=vs.size from(w6.mp h2).len,A6]
  refine a1x (a2a (YF (bX e) h1 fun h' tk hk=>?_))
  refine back (Step.keeps (c:=c) hk) (use (c:=c.at {c.s with heap:=h',toks:=tk}) (VX (fr:=fr) ft (fun a ha j hj=>?_) e1 g1 (fun j hm=>E0 (U1.mp g3 j hm)) h2.at (i.keeps hk)) fun c1 b ζ i1 st1 ζ q1=>(here (b:=()) i1 trivial (q1▸hq)).trans st1)
  obtain⟨y,p,rfl,hy⟩:=ZO hj
  exact⟨y,hy,hf y (EY.mpr ⟨_,ha,rfl⟩),fun h=>a1w h⟩
 | _=>exact nn hc
theorem TY {j:Nat}:∀{is:List Nat} {l:List V} {vs:List (Option V)},j∉is->(bindTo is l vs)[j]?=vs[j]?
 | [],_,_,_=>rfl
 | _::_,[],_,_=>rfl
 | i::is,u::l,vs,h=>by
  show(bindTo is l (vs.set i (some u)))[j]?=_
  rw[TY fun z=>h (l6 _ z),N4 fun z:i=j=>h (by rw[z];exact f9)]
theorem aM0 {t:Tg} {u:V} {σ:St} {Q:St->Prop} (h:C6 t u σ Q) (hf:∀ i∈O8 t,∀ w,σ.vars[i]?≠some (some w)):C6 t u σ fun σ'=>Q σ'/\σ'.mu=σ.mu/\∀(j:Nat) w,σ.vars[j]?=some (some w)->σ'.vars[j]?=some (some w):=by
 induction t using Tg.casesOn with
 | var i=>
  refine K9 (h:j7 _ _) fun h1 h=>?_
  exact s9 h1 ⟨h,rfl,fun j w g=>(N4 fun z:i=j=>hf i f9 w (by rw[z];exact g)).trans g⟩
 | tup is=>
  refine k8 (h:oe _ _) fun l e1 h=>?_
  refine K9 h fun h1 h=>?_
  exact j6 e1 (s9 h1 ⟨h,rfl,fun j w g=>(TY fun z=>hf j z w g).trans g⟩)
theorem TV:∀{a b:List Nat} {x y:List V} {vs:List (Option V)},a.length=x.length->bindTo (a++b) (x++y) vs=bindTo b y (bindTo a x vs)
 | [],_,x,_,_,h=>by rw[oU h.symm];rfl
 | i::a,b,[],_,_,h=>by cases h
 | i::a,b,u::x,y,vs,h=>TV (a:=a) (x:=x) (bU h)
theorem UA {i:Nat} {u:V}:∀{is:List Nat} {l:List V} {vs:List (Option V)},i∉is->bindTo is l (vs.set i (some u))=(bindTo is l vs).set i (some u)
 | [],_,_,_=>rfl
 | _::_,[],_,_=>rfl
 | j::is,w::l,vs,h=>by
  show bindTo is l ((vs.set i _).set j _)=(bindTo is l (vs.set j _)).set i _
  rw[List.set_comm _ _ fun z:i=j=>h (by rw[z];exact f9),UA fun z=>h (l6 _ z)]
theorem TZ:∀{is:List Nat} {l:List V} {vs:List (Option V)},is.length=l.length->is.Nodup->bindTo is.reverse l.reverse vs=bindTo is l vs
 | [],_,_,h,_=>by rw[oU h.symm];rfl
 | i::is,[],_,h,_=>by cases h
 | i::is,u::l,vs,h,nd=>by
  have nd:=H8.mp nd
  rw[jF,jF,TV (by rw[jE,jE];exact bU h),TZ (bU h) nd.2]
  exact(UA nd.1).symm
theorem mapM_append {α β:Type} {f:α->Option β}:∀{a b:List α} {x y:List β},a.mapM f=some x->b.mapM f=some y->(a++b).mapM f=some (x++y):=by
 intro b7
 induction b7 with
 | nil=>intro b x y h1 h2;rw[mapM_nil h1];exact h2
 | cons p a ih=>
  intro b x y h1 h2
  obtain⟨q,qs,e1,e2,rfl⟩:=mapM_cons h1
  rw[EO,xX,e1,ih e2 h2];rfl
theorem Up {α β:Type} {f:α->Option β}:∀{a:List α} {x:List β},a.mapM f=some x->a.reverse.mapM f=some x.reverse:=by
 intro b7
 induction b7 with
 | nil=>intro x h;rw[mapM_nil h];rfl
 | cons p a ih=>
  intro x h
  obtain⟨q,qs,e1,e2,rfl⟩:=mapM_cons h
  rw[jF,jF]
  exact mapM_append (ih e2) (by rw[xX,e1];rfl)
theorem Va {f:PySem.Expr->Option Str} {sc:Sc} (hf:∀ x y,f x=some y->∃ p,x=.Name y p):∀{ts:List PySem.Expr} {is:List Nat},(ts.filterMap f).length=ts.length->ts.mapM (vH sc)=some is->(ts.filterMap f).mapM (S6 sc)=some is:=by
 intro b7
 induction b7 with
 | nil=>intro is _ h;exact h
 | cons t ts ih=>
  intro is hl h
  obtain⟨j,js,e1,e2,rfl⟩:=mapM_cons h
  cases q:f t with
  | none=>
   rw[List.filterMap_cons_none q] at hl
   exact below (I0 hl.symm) (lX (List.length_filterMap_le f ts))
  | some x=>
   rw[List.filterMap_cons_some q] at hl ⊢
   obtain⟨p,rfl⟩:=hf t x q
   rw[xX,show S6 sc x=some j from e1,ih (bU hl) e2];rfl
theorem uN {α:Type} {P:α->Prop} {c:Bool} {a b:α} (h1:P a) (h2:c=false->P b):P (if c=true then a else b):=by
 induction c using Bool.casesOn with
 | true=>exact h1
 | false=>exact h2 rfl
theorem aG1 {env:Env} {ts:List PySem.Expr} {kk:Nat} {p:Pos} {v:PySem.Expr} (hs:MY (.Tuple ts kk p) v=true) :
  ∃ r,swappedStores [.Tuple ts kk p] v env=pure r/\(∀ names,r=some names->∃ f:PySem.Expr->Option Str,(∀ x y,f x=some y->∃ p,x=.Name y p)/\names=ts.filterMap f/\names.length=ts.length):=by
 let O (s:Sem (Option (List Str))):Prop:=∃ r,s=pure r/\(∀ names,r=some names->∃ f:PySem.Expr->Option Str,(∀ x y,f x=some y->∃ p,x=.Name y p)/\names=ts.filterMap f/\names.length=ts.length)
 have no:O (pure none):=⟨none,rfl,nofun⟩
 show O _
 induction v using PySem.Expr.casesOn with
 | Tuple vs k2 p2=>
  unfold swappedStores
  refine uN no fun ζ=>uN no fun ζ=>uN no fun hn=>uN no fun Rc=>?_
  have hc:vs.all (constantsAlone 8)=false:=(lS _).mp (((bQ _ _).mp (hs:(vs.all (foldedForSure 8)||!vs.all (constantsAlone 8))=true)).resolve_left fun h=>tf (h.symm.trans Rc))
  refine(if_neg (hc▸Bool.false_ne_true))▸?_
  refine⟨some _,rfl,fun names h=>⟨_,fun x y he=>?_,(si h).symm,si h▸Decidable.of_not_not fun h=>tf (((bQ _ _).mpr (.inl (bne_iff_ne.mpr h))).symm.trans hn)⟩⟩
  have gen {P:PySem.Expr->Prop} (k:∀ p,P (.Name y p)):P x:=by
   revert he
   induction x using PySem.Expr.casesOn with
   | Name id p=>exact uN (P:=fun o=>o=some y->P (.Name id p)) (fun h=>si h▸k p) fun ζ=>nn
   | _=>exact nn
  exact gen (P:=fun x=>∃ p,x=.Name y p) fun p=>⟨p,rfl⟩
 | _=>exact no
end
section
variable {G:Gd} {e:Ev} {c c' c1:Cx}
noncomputable def DK (ifs:List PySem.Expr) (env:Env):Sem Bool:=forIn ifs true fun x r=>if r=true then do let ok <-isTrue x env (eval x env);pure (ForInStep.yield ok) else pure (ForInStep.yield r)
theorem aI2 {env:Env}:∀(ifs:List PySem.Expr),(forIn ifs false fun x r=>if r=true then do let ok <-isTrue x env (eval x env);pure (ForInStep.yield ok) else pure (ForInStep.yield r):Sem Bool)=pure false:=by
 intro b7
 induction b7 with
 | nil=>exact rfl
 | cons x xs ih=>
  rw[EU]
  simp only[EB,if_false,pure_bind]
  exact ih
theorem aI3 {n m:Nat} {sc:Sc} (iT:cQ n) (ft:Fits e sc):∀{ifs:List PySem.Expr} {l:List E} {c:Cx} {Q:Bool->St->Prop},ifs.mapM (cE m sc)=some l->Inv e c->wN (wp e.G e.k n).t l c.σ Q->Rn e c (DK ifs e.env) nY Q:=by
 intro b7
 induction b7 with
 | nil=>
  intro _ c Q h i hq
  rw[mapM_nil h] at hq
  exact a2e (here i rfl hq)
 | cons x xs ih=>
  intro _ c Q h i hq
  obtain⟨b,bs,h1,h2,rfl⟩:=mapM_cons h
  unfold DK
  rw[EU]
  refine a1x (a1x (use (iT h1 ft i (hq:(wp e.G e.k n).t b c.σ _)) fun c1 u v i1 st1 r1 p1=>a2e ?_))
  subst r1
  induction u using Bool.casesOn with
  | true=>exact back st1 (ih h2 i1 p1)
  | false=>
   show a1s _ _ (forIn xs false _) _ _ _
   rw[aI2]
   exact a2e ((here i1 rfl p1).trans st1)
structure CI (e:Ev) (vars:List (Option V)) (n:Nat) (D:Addr) (c:Cx) (acc:List Lake.D):Prop where
 i:Inv e c
 vars:c.σ.vars=vars
 len:c.n=n
 acc:∃ ys kk,c.h.get? D=some (K5 ys kk)/\t9 e.G c.F acc ys.toList
 off:Off e c D
noncomputable abbrev IC (e:Ev):Addr->Prop:=fun b=>b=e.env.locals
noncomputable abbrev gT (e:Ev) (D:Addr):Addr->Prop:=fun b=>b=e.env.locals∨b=D
theorem LP {n:Nat} {vs:List (Option V)}:(c.pick n [] vs).σ.mu=cut n c.σ.mu:=u9 _
section
variable {vars:List (Option V)} {n₀:Nat} {D:Addr} {acc:List Lake.D}
theorem US (ci:CI e vars c.n D c acc) {c3 c4:Cx} (i3:Inv e c3) (st3:Step (IC e) c c3) (hm:c3.σ.mu=c.σ.mu) (hv:∀(j:Nat) (u:V),vars[j]?=some (some u)->c3.σ.vars[j]?=some (some u)) (i4:Inv e c4) (H6:Step I3 c3 c4) :
  CI e vars c.n D (c4.pick c.n [] vars) acc/\Step (gT e D) c (c4.pick c.n [] vars):=by
 obtain⟨ys,kk,ha,hr⟩:=ci.acc
 have uF:=st3.keep D _ ha (fun z=>ci.off.2.2 (.inl z)) ci.off.2.1
 have f3:=st3.off ci.off ha
 have Qu:=H6.keep D _ uF id f3.2.1
 have f4:=H6.off f3 uF
 have l3:c3.n=c.n:=congrArg List.length hm
 have hl:c.n<=c4.n:=l3▸H6.len
 have sp:Step I3 ⟨c3.F,c3.r,⟨vars,c3.σ.mu⟩,c3.s⟩ (c4.pick c3.n [] vars):=Step.pick (c:=⟨c3.F,c3.r,⟨vars,c3.σ.mu⟩,c3.s⟩) (c1:=c4) (p:=[]) (vs:=vars) ⟨H6.same,H6.grow,H6.B9,H6.len,H6.keep,H6.live,H6.newF,H6.newR⟩ rfl
 rw[l3] at sp
 refine⟨⟨(i3.less hv).after sp (i4.hp.pick hl rfl) fun ζ ζ h=>h,rfl,(fU hl).trans (yD _),⟨ys,kk,Qu,t9.mono H6.grow (t9.mono st3.grow hr)⟩,f4.1,fun j hj=>f4.2.1 _ (mG (p:=[]) (len:=c4.n) rfl hl (by rw[<-show(c4.pick c.n [] vars).n=_ from fU hl];exact hj)),f4.2.2⟩,?_⟩
 exact Step.pick ((st3.weak fun b h=>.inl h).trans (H6.weak fun b h=>h.elim)) rfl
theorem Lw (ci:CI e vars n₀ D c acc) {y:Value} {d:Lake.D} (r:Rep e.G c.F d y) {ys:Array Value} (hl:c.h.PlainList D ys) {h':Heap} {tk:Nat} (hp:h'.PlainList D (ys.push y)) (hs:Heap.SameBut D c.h h') :
  CI e vars n₀ D (c.at {c.s with heap:=h',toks:=tk}) (acc++[d])/\Step (gT e D) c (c.at {c.s with heap:=h',toks:=tk}):=by
 have ch {b:Addr} {o:Obj} (z:b≠D) (h:c.h.get? b=some o):h'.get? b=some o:=(hs.2 b z).trans h
 obtain⟨ys',kk,ha,hr⟩:=ci.acc
 obtain⟨n1,e1⟩:=hl
 have:ys'=ys:=by rw[ha] at e1;have e1:=si e1;injection e1 with _ _ e1;injection e1
 subst this
 obtain⟨n2,e2⟩:=hp
 refine⟨⟨ci.i.offs (s:={c.s with heap:=h',toks:=tk}) (·=D) (fun b z=>z▸ci.off) fun b o z h=>ch z h,ci.vars,ci.len,⟨_,n2,e2,reps.mpr (by rw[PC];exact(reps.mp hr).app (.one r))⟩,ci.off⟩,⟨_,_,rfl⟩,fun ζ ζ h=>h,fun ζ ζ=>rfl,g7 _,fun b o h h1 ζ=>ch (fun z=>h1 (.inr z)) h,fun b o h=>?_,fun ζ=>.inl,fun ζ=>below⟩
 by_cases z:b=D
 ·exact⟨_,z▸e2⟩
 ·exact⟨o,ch z h⟩
noncomputable def BP (e:Ev) (vars:List (Option V)) (n₀:Nat) (D:Addr) (c:Cx) (L:Nat->Prop) (K:List Lake.D->List M->Prop) (s':Shared):Prop:=
 ∃ c' acc,c'.s=s'/\CI e vars n₀ D c' acc/\Step (gT e D) c c'/\L acc.length/\K acc c'.σ.mu
theorem BP.mono {e:Ev} {vars:List (Option V)} {n₀:Nat} {D:Addr} {c:Cx} {L L':Nat->Prop} {K:List Lake.D->List M->Prop} {s':Shared} (h:BP e vars n₀ D c L K s') (g:∀ l,L l->L' l):BP e vars n₀ D c L' K s':=by obtain⟨c',acc',q1,q2,q3,q4,q5⟩:=h;exact⟨c',acc',q1,q2,q3,g _ q4,q5⟩
noncomputable def sE (e:Ev) (E:Value->Shared->Prop) (target:PySem.Expr) (ifs:List PySem.Expr) (RW:(Shared->Prop)->Shared->Prop) (P:Shared->Prop) (v:Value) (s:Shared):Prop:=
 a1s (a1l e.G.prog e.G.w) e.A (assign target e.env v) (fun ζ s3=>a1s (a1l e.G.prog e.G.w) e.A (DK ifs e.env) (fun ok s4=>if ok=true then RW P s4 else P s4) E s3) E s
noncomputable def WA (e:Ev) (E:Value->Shared->Prop) (elt:PySem.Expr) (D:Addr) (P:Shared->Prop) (s:Shared):Prop:=
 a1s (a1l e.G.prog e.G.w) e.A (eval elt e.env) (fun y s5=>a1s (a1l e.G.prog e.G.w) e.A (call (.builtin "list.append") [.ref D,y]) (fun ζ s6=>P s6) E s5) E s
section
variable {n m:Nat} {sc:Sc} (iE:aF n) (iT:cQ n) (ft:Fits e sc) {target:PySem.Expr} {t:Tg} {ifs:List PySem.Expr} {cA:List E} (ht:P6 sc target=some t) (hloc:∀ x∈kT target,e.env.kindOf x=some .local) (gU:ifs.mapM (cE m sc)=some cA)
include iT ft ht hloc gU
theorem Fb (ci:CI e vars c.n D c acc) (hfree:∀ i∈O8 t,∀ w,vars[i]?≠some (some w)) {E:Value->Shared->Prop} {v:Value} {d:Lake.D} (rv:Rep e.G c.F d v) {Y:St->St->Prop} {N:List M->Prop} {RW:(Shared->Prop)->Shared->Prop} {P:Shared->Prop}
  (h:C6 t (.val d) ⟨vars,c.σ.mu⟩ fun σ=>wN (wp e.G e.k n).t cA σ fun ok σ'=>br ok (Y σ σ') (N (cut c.n σ'.mu)))
  (yes:∀ c3 c4,Inv e c3->Step (IC e) c c3->c3.σ.mu=c.σ.mu->(∀(j:Nat) (u:V),vars[j]?=some (some u)->c3.σ.vars[j]?=some (some u))->Inv e c4->Step I3 c3 c4->Y c3.σ c4.σ->RW P c4.s)
  (no:∀ c',CI e vars c.n D c' acc->Step (gT e D) c c'->N c'.σ.mu->P c'.s):sE e E target ifs RW P v c.s:=by
 rw[show(⟨vars,c.σ.mu⟩:St)=c.σ by rw[<-ci.vars]] at h
 refine use (c:=c) (CQ (fr:=IC e) (u:=.val d) ft ht (fun x hx=>⟨fun ζ=>rfl,fun h=>by rw[hloc x hx] at h;cases h⟩) ci.i rv (aM0 h fun i hi w z=>hfree i hi w (by rw[<-ci.vars];exact z))) fun c3 ζ ζ i3 st3 ζ q=>?_
 obtain⟨q3,hm,hv⟩:=q
 rw[ci.vars] at hv
 refine use (aI3 iT ft gU i3 q3) fun c4 ok ok' i4 H6 r4 p4=>?_
 subst r4
 induction ok using Bool.casesOn with
 | false=>
  obtain⟨Lu,t4⟩:=US ci i3 st3 hm hv i4 H6
  exact no (c4.pick c.n [] vars) Lu t4 (by rw[LP];exact p4)
 | true=>exact yes c3 c4 i3 st3 hm hv i4 H6 p4
include iE
theorem UD {elt:PySem.Expr} {el:E} (helt:cE m sc elt=some el) {K:List Lake.D->List M->Prop} {E:Value->Shared->Prop} {v:Value} {d:Lake.D} (ci:CI e vars n₀ D c acc) (hlim:acc.length<d9) (hfree:∀ i∈O8 t,∀ w,vars[i]?≠some (some w)) (rv:Rep e.G c.F d v)
  (h:J3 (wp e.G e.k n) vars n₀ el t cA d acc c.σ.mu K) {P:Shared->Prop} (hP:∀ s',BP e vars n₀ D c (·<=acc.length+1) K s'->P s'):sE e E target ifs (WA e E elt D) P v c.s:=by
 have:=ci.len
 subst this
 refine Fb iT ft ht hloc gU ci hfree rv (N:=K acc) h (fun c3 c4 i3 st3 hm hv i4 H6 p4=>?_) fun c' ci' st' q=>hP _ ⟨c',acc,rfl,ci',st',J5 _,q⟩
 refine use (iE helt ft i4 p4) fun c5 u y i5 MM r5 p5=>?_
 obtain⟨F,mu,rd,i6,MN,r6,p6⟩:=nT i5 r5 p5
 obtain⟨UR,t6⟩:=US ci i3 st3 hm hv i6 ((H6.trans MM).trans MN)
 obtain⟨ys,kk,ha,hr⟩:=UR.acc
 refine wpAny_list_append_plain ⟨kk,ha⟩ (fun h' hp hs=>?_) (by rw[show ys.size=acc.length from(reps.mp hr).len.symm,a1o];rw[aE] at hlim;lia)
 obtain⟨Lv,t7⟩:=Lw (tk:=c5.s.toks) UR r6 ⟨kk,ha⟩ hp hs
 exact hP _ ⟨_,_,rfl,Lv,t6.trans t7,by rw[o7];exact g7 _,by show K _ ((c5.fr F mu).pick c.n [] vars).σ.mu;rw[LP];exact p6⟩
end
end
end
section
variable {G:Gd} {e:Ev} {c c' c1:Cx}
theorem YX {M:Model} {A:Around} {s:Shared} {E:Value->Shared->Prop} {Q:Unit->Shared->Prop} {target:PySem.Expr} {v:Value} {I:Addr} {o:Obj} (ho:s.heap.get? I=some o) (hT:∀ T,o.cls=.type T->["enumerate","zip","dict_itemiterator","dict_reverseitemiterator","odict_iterator","itertools.zip_longest","itertools.pairwise"].contains T=false) (h:Q () s):a1s M A (a1i target (.ref I) v) Q E s:=by
 have go:a1s M A (match (Value.ref I,v) with
  |(.ref r,.ref a)=>(do
   let o <-load r
   match o.cls,o.data with
   | .type n,.fields vs=>
    if ["enumerate","zip","dict_itemiterator","dict_reverseitemiterator","odict_iterator","itertools.zip_longest","itertools.pairwise"].contains n&&vs[0]?==some (rawInt a) then
     rule "for.unpacks-the-owned-tuple"
     updateField r 0 .none
   | _,_=>pure ():Sem Unit)
  | _=>pure ()) Q E s:=by
  induction v using PySem.Value.casesOn with
  | ref a=>
   dsimp only
   refine a1x (wpAny_load ho ?_)
   split
   ·rename_i nn vs e1 e2
    refine(hT nn e1)▸?_
    exact a2e h
   ·exact a2e h
  | _=>exact a2e h
 unfold a1i
 induction target using PySem.Expr.casesOn<;>first | exact a2e h | exact go
theorem YW {M:Model} {A:Around} {s:Shared} {E:Value->Shared->Prop} {Q:Unit->Shared->Prop} {target:PySem.Expr} {v:Value} {I:Addr} (hI:∃ o,s.heap.get? I=some o/\(o.cls=.type "list_iterator"∨o.cls=.type "tuple_iterator")) (h:Q () s):a1s M A (a1i target (.ref I) v) Q E s:=by
 obtain⟨o,ho,hc⟩:=hI
 exact YX ho (fun T hT=>by rcases hc with hc | hc<;>rw[hc] at hT<;>injection hT with hT<;>subst hT<;>decide +kernel) h
noncomputable def DL (e:Ev) (x:PySem.Expr) (d:Nat) (D:Addr) (target:PySem.Expr) (ifs:List PySem.Expr) (RW:(Value->Shared->Prop)->(Shared->Prop)->Shared->Prop):Prop:=
 ∀(it:Value) (Q:Fin->Shared->Prop) (E:Value->Shared->Prop) (s:Shared),
  a1s (a1l e.G.prog e.G.w) e.A (pyNext it) (fun r s1=>Option.casesOn r (Q (.done .next) s1) fun v=>a1s (a1l e.G.prog e.G.w) e.A (a1i target it v) (fun ζ s2=>sE e E target ifs (RW E) (fun s5=>Q (.again (.compLoop x d it (.ref D) e.env)) s5) v s2) E s1) E s->
  a1s (a1l e.G.prog e.G.w) e.A (compTurn x d it (.ref D) e.env) Q E s
section
variable {vars:List (Option V)} {n₀:Nat} {D I ax:Addr} {acc:List Lake.D}
theorem JS {elt:PySem.Expr} {gens:List Comprehension} {scope:Scope} {pos:Pos} {d:Nat} {target:PySem.Expr} {ifs:List PySem.Expr} {RW:(Value->Shared->Prop)->(Shared->Prop)->Shared->Prop} (den:DL e (.ListComp elt gens scope pos) d D target ifs RW)
  {B:Lake.D->List Lake.D->List M->(List Lake.D->List M->Prop)->Prop} {St:Nat->Heap->Prop} {vs:Array Value} {ds:List Lake.D} {oa:Obj} (L:Nat->Nat->Prop) (x:rZ e.G e.A I ax vs St)
  (body:∀{c:Cx} {acc:List Lake.D} {v:Value} {dd:Lake.D} {j:Nat} {K:List Lake.D->List M->Prop} {E:Value->Shared->Prop} {P:Shared->Prop},CI e vars n₀ D c acc->j<vs.size->L j acc.length->Rep e.G c.F dd v->B dd acc c.σ.mu K->(∀ s',BP e vars n₀ D c (L (j+1)) K s'->P s')->sE e E target ifs (RW E) P v c.s)
  {K:List Lake.D->List M->Prop} {c₀:Cx} (T0:Step (gT e D) c₀ c) (free:c₀.h.get? I=none) (ci:CI e vars n₀ D c acc) (hax:c.F ax=some oa) (st:St 0 c.h) (hI:Off e c I) (uE:I≠D) (r:t9 e.G c.F ds vs.toList) (hL:L 0 acc.length) (h:z7 B ds acc c.σ.mu K) :
  eU (a1l e.G.prog e.G.w) e.A (.compLoop (.ListComp elt gens scope pos) d (.ref I) (.ref D) e.env) (fun r s'=>r=.ok .next/\BP e vars n₀ D c₀ (L vs.size) K s') c.s:=by
 have hlen:ds.length=vs.size:=(reps.mp r).len
 refine codeAny_loop rfl (fun m s'=>∃ j c' acc',m=vs.size+1-j/\j<=vs.size/\c'.s=s'/\CI e vars n₀ D c' acc'/\St j c'.h/\Step (gT e D) c₀ c'/\(∀ a o,c.F a=some o->c'.F a=some o)/\Off e c' I/\L j acc'.length/\z7 B (ds.drop j) acc' c'.σ.mu K) (fun m s1 uD=>?_) (vs.size+1)
  ⟨0,c,acc,rfl,v7 _,rfl,ci,st,T0,fun ζ ζ h=>h,hI,hL,h⟩
 obtain⟨j,c1,RL,rfl,hj,rfl,tS,st1,T1,zM,uD,XE,g1⟩:=uD
 refine wpAny_noted (den _ _ _ _ ?_)
 have carry {h':Heap} {tk:Nat} (hk:∀ b o,b∉[I]->c1.h.get? b=some o->h'.get? b=some o):CI e vars n₀ D (c1.at {c1.s with heap:=h',toks:=tk}) RL/\Step (gT e D) c₀ (c1.at {c1.s with heap:=h',toks:=tk}):=by
  obtain⟨ys,kk,ha,hr⟩:=tS.acc
  exact⟨⟨tS.i.offs (s:={c1.s with heap:=h',toks:=tk}) (·=I) (fun b z=>z▸uD) fun b o z=>hk b o (vL z),tS.vars,tS.len,⟨ys,kk,hk _ _ (vL (U4 uE)) ha,hr⟩,tS.off⟩,T1.wJ fun b o hb=>hk b o (vL fun z=>hb (z▸free))⟩
 by_cases hlt:j<vs.size
 ·refine x.W.item j _ _ _ hlt st1 fun v h2 M3 hv st2 hk2=>?_
  have yZ:=(carry (tk:=M3) hk2).1
  have T2:=(carry (tk:=M3) hk2).2
  have hd:j<ds.length:=hlen▸hlt
  obtain⟨y,q1,q2⟩:=(reps.mp r).get (P5 hd)
  have q1:vs[j]?=some y:=(eV ..).symm.trans q1
  rw[hv] at q1
  have q1:=si q1
  subst q1
  rw[xT hd] at g1
  refine YW (x.cls _ _ st2) (body (c:=c1.at {c1.s with heap:=h2,toks:=M3}) yZ hlt XE (Rep.mono zM q2) g1 fun s3 hb=>?_)
  obtain⟨c3,Jd,rfl,UQ,T3,Qt,g3⟩:=hb
  obtain⟨o2,ho2,_⟩:=x.cls _ _ st2
  have hIC:¬gT e D I:=fun h=>h.elim (fun h=>hI.2.2 (.inl h)) uE
  refine⟨rfl,_,RE _ _ (QV hlt),j+1,c3,Jd,rfl,hlt,rfl,UQ,?_,T2.trans T3,fun a o h=>T3.grow _ _ (zM _ _ h),T3.off (c:=c1.at {c1.s with heap:=h2,toks:=M3}) uD ho2,Qt,g3⟩
  refine x.W.frame _ _ _ st2 fun b hb o h=>?_
  rcases v5.mp hb with rfl | hb
  ·exact T3.keep b o h hIC uD.2.1
  ·rw[j5.mp hb] at h ⊢
   have e2:=yZ.i.hp.sub ax oa (zM _ _ hax)
   rw[show h2.get? ax=_ from e2] at h
   have h:=si h
   exact h▸UQ.i.hp.sub _ _ (T3.grow _ _ (zM _ _ hax))
 ·have hj':j=vs.size:=FG hj (N7 hlt)
  subst hj'
  refine x.W.done _ _ _ st1 fun h2 M3 hk2=>?_
  have yZ:=(carry (tk:=M3) hk2).1
  have T2:=(carry (tk:=M3) hk2).2
  rw[ER (I0 hlen)] at g1
  exact⟨rfl,_,RL,rfl,yZ,T2,XE,g1⟩
end
noncomputable def MS (ipos:Pos) (target:PySem.Expr) (ifs:List PySem.Expr) (elt:PySem.Expr) (e:PySem.Expr) (d:Nat) (it acc:Value) (env:Env):Sem Fin:=do
 standAt ipos
 match <-pyNext it with
 | none=>pure (.done .next)
 | some v=>
  a1i target it v
  assign target env v
  let mut ok:=true
  for c in ifs do
   if ok then ok <-isTrue c env (eval c env)
  if ok then
   (do let _ <-call (.builtin "list.append") [acc,<-eval elt env])
  PySem.again (.compLoop e d it acc env)
noncomputable def Du (ipos:Pos) (target:PySem.Expr) (ifs:List PySem.Expr) (F4:PySem.Expr) (e:PySem.Expr) (d:Nat) (it acc:Value) (env:Env):Sem Fin:=do
 standAt ipos
 match <-pyNext it with
 | none=>pure (.done .next)
 | some v=>
  a1i target it v
  assign target env v
  let mut ok:=true
  for c in ifs do
   if ok then ok <-isTrue c env (eval c env)
  if ok then
   let x <-eval F4 env
   standAt F4.pos
   let x <-foldedSetIterable F4 env x
   let _ <-runOwn (.compStart e (d+1) (<-holding [x] (pyIter x)) acc env) env
  PySem.again (.compLoop e d it acc env)
section
variable {D:Addr}
noncomputable def XX (e:Ev) (x:PySem.Expr) (d:Nat) (F4:PySem.Expr) (D:Addr) (E:Value->Shared->Prop) (P:Shared->Prop) (s:Shared):Prop:=
 a1s (a1l e.G.prog e.G.w) e.A (eval F4 e.env) (fun y s5=>a1s (a1l e.G.prog e.G.w) e.A (foldedSetIterable F4 e.env y) (fun x' s6=>a1s (a1l e.G.prog e.G.w) e.A (pyIter x') (fun it s7=>a1s (a1l e.G.prog e.G.w) e.A (runOwn (.compStart x (d+1) it (.ref D) e.env) e.env) (fun ζ s8=>P s8) E s7) E s6) E s5) E s
theorem VJ {ipos:Pos} {target elt:PySem.Expr} {ifs:List PySem.Expr} {x:PySem.Expr} {d:Nat} (h:∀ it,compTurn x d it (.ref D) e.env=MS ipos target ifs elt x d it (.ref D) e.env):DL e x d D target ifs fun E=>WA e E elt D:=by
 intro it Q E s hq
 rw[h]
 refine a1x (a2g (a1x (a2c hq (fun r s1 h1=>?_) fun ζ ζ e=>e)))
 induction r using Option.casesOn with
 | none=>exact a2e h1
 | some v=>
  refine a1x (a2c h1 (fun ζ s2 h2=>a1x (a2c h2 (fun ζ s3 h3=>a1x (a2c h3 (fun ok s4 h4=>?_) fun ζ ζ e=>e)) fun ζ ζ e=>e)) fun ζ ζ e=>e)
  induction ok using Bool.casesOn with
  | false=>exact a2e h4
  | true=>exact a1x (a1x (a2c h4 (fun x s5 h5=>a1x (a2c h5 (fun ζ s6 h6=>a2e (a2e h6)) fun ζ ζ e=>e)) fun ζ ζ e=>e))
theorem Nf {ipos:Pos} {target F4:PySem.Expr} {ifs:List PySem.Expr} {x:PySem.Expr} {d:Nat} (h:∀ it,compTurn x d it (.ref D) e.env=Du ipos target ifs F4 x d it (.ref D) e.env):DL e x d D target ifs (XX e x d F4 D):=by
 intro it Q E s hq
 rw[h]
 refine a1x (a2g (a1x (a2c hq (fun r s1 h1=>?_) fun ζ ζ e=>e)))
 induction r using Option.casesOn with
 | none=>exact a2e h1
 | some v=>
  refine a1x (a2c h1 (fun ζ s2 h2=>a1x (a2c h2 (fun ζ s3 h3=>a1x (a2c h3 (fun ok s4 h4=>?_) fun ζ ζ e=>e)) fun ζ ζ e=>e)) fun ζ ζ e=>e)
  induction ok using Bool.casesOn with
  | false=>exact a2e h4
  | true=>exact a1x (a2c h4 (fun y s5 h5=>a1x (a2g (a1x (a2c h5 (fun x' s6 h6=>a1x (a2a (a2c h6 (fun aZ s7 h7=>a1x (a2c h7 (fun ζ s8 h8=>a2e h8) fun ζ ζ e=>e)) fun ζ ζ e=>e))) fun ζ ζ e=>e)))) fun ζ ζ e=>e)
theorem MR {A:Around} {env:Env} {s:Shared} {elt:PySem.Expr} {gens:List Comprehension} {scope:Scope} {pos:Pos} {d:Nat} {g:Comprehension} {R:Result->Shared->Prop} {I ax:Addr} {St:Nat->Heap->Prop} {vs:Array Value} (hg:gens[d]?=some g) (ha:g.is_async=0) (x:rZ G A I ax vs St) (st:St 0 s.heap)
  (h:eU (a1l G.prog G.w) A (.compLoop (.ListComp elt gens scope pos) d (.ref I) (.ref D) env) R s):eU (a1l G.prog G.w) A (.compStart (.ListComp elt gens scope pos) d (.ref I) (.ref D) env) R s:=by
 refine codeAny_of_tree ?_
 show a1s _ _ ((compStart (.ListComp elt gens scope pos) d (.ref I) (.ref D) env).onRaise (fun x=>do noteFrame x env;standAt theWindowsPlace)) _ _ s
 refine wpAny_notedAt ?_
 unfold compStart
 show a1s _ _ (if((gens[d]?).elim false (·.is_async != 0))=true then _ else _) _ _ s
 rw[hg]
 simp only[Option.elim_some,ha,bne_self_eq_false,EB,if_false]
 show a1s _ _ (ask >>= _) _ _ s
 refine a1x (a1v (wpAny_ite ?_))
 split
 ·first
   | exact a1x (a2e (a2e (And.intro rfl h)))
   | exact a2e (And.intro rfl h)
 ·refine a1x (wpAny_rule ?_)
  have hc:(clausesOf (.ListComp elt gens scope pos))[d]?=some g:=hg
  rw[hc]
  exact a1x (a2g (a1x (x.W.self 0 _ _ _ st (a2e (And.intro rfl h)))))
end
theorem HZ {env:Env} {sc:Sc} {m:Nat} {x:PySem.Expr} {ir:E} (h:cE m sc x=some ir) (v:Value):foldedSetIterable x env v=pure v:=by
 induction m using Nat.casesOn with
 | zero=>exact nn h
 | succ m=>
  revert h
  induction x using PySem.Expr.casesOn with
  | Set=>exact nn
  | _=>exact fun ζ=>Eq.refl (pure v)
end
section
variable {G:Gd} {e:Ev} {c c' c1:Cx}
mutual
theorem i0.self {p:List Nat}:∀{u:V} {v:Value},i0 G c u v->u.re c.n p=some u
 | .val _,_,_=>rfl
 | .loc i,_,r=>by show(bif Nat.blt i c.n then some i else _).map V.loc=_;rw[show Nat.blt i c.n=true from yF r.2];rfl
 | .tup l,_,Wm=>by obtain⟨a,vs,k,h1,h2,h3,h4⟩:=Wm;show(V.res c.n p l).map V.tup=_;rw[o8.self h4];rfl
theorem o8.self {p:List Nat}:∀{u:List V} {v:List Value},o8 G c u v->V.res c.n p u=some u
 | [],_,_=>rfl
 | u::us,_,Wt=>by obtain⟨v,vs,q,a,b⟩:=Wt;show(u.re c.n p).bind (fun v=>(V.res c.n p us).map fun vs=>v::vs)=_;rw[i0.self a,o8.self b];rfl
end
theorem ME {F:HM} {d:D} {l:List D} {v:Value} (r:Rep G F d v) (h:d.seq?=some l):Sq F (t9 G F l) v:=by
 induction d using D.casesOn with
 | tup l'=>have h:=si h;subst h;exact Tup.sq r
 | lst l'=>have h:=si h;subst h;exact W0.sq r
 | _=>exact nn h
theorem aI9 (elt target iter:PySem.Expr) (ifs:List PySem.Expr) (scope:Scope) (pos:Pos) (it acc:Value) (env:Env) :
 compTurn (.ListComp elt [⟨target,iter,ifs,0⟩] scope pos) 0 it acc env=MS iter.pos target ifs elt (.ListComp elt [⟨target,iter,ifs,0⟩] scope pos) 0 it acc env:=rfl
theorem aJ0 (elt target iter R6 F4:PySem.Expr) (ifs L4:List PySem.Expr) (scope:Scope) (pos:Pos) (it acc:Value) (env:Env) :
 compTurn (.ListComp elt [⟨target,iter,ifs,0⟩,⟨R6,F4,L4,0⟩] scope pos) 1 it acc env=MS F4.pos R6 L4 elt (.ListComp elt [⟨target,iter,ifs,0⟩,⟨R6,F4,L4,0⟩] scope pos) 1 it acc env:=rfl
theorem aJ2 (elt target iter R6 F4:PySem.Expr) (ifs L4:List PySem.Expr) (scope:Scope) (pos:Pos) (it acc:Value) (env:Env) :
 compTurn (.ListComp elt [⟨target,iter,ifs,0⟩,⟨R6,F4,L4,0⟩] scope pos) 0 it acc env=Du iter.pos target ifs F4 (.ListComp elt [⟨target,iter,ifs,0⟩,⟨R6,F4,L4,0⟩] scope pos) 0 it acc env:=rfl
section
variable {n m:Nat} {sc:Sc} (iE:aF n) (iT:cQ n) (ft:Fits e sc) {target R6:PySem.Expr} {t t2:Tg} {ifs L4:List PySem.Expr} {cA jU:List E} (ht:P6 sc target=some t) (hloc:∀ x∈kT target,e.env.kindOf x=some .local) (gU:ifs.mapM (cE m sc)=some cA)
 (zQ:P6 sc R6=some t2) (XK:∀ x∈kT R6,e.env.kindOf x=some .local) (XI:L4.mapM (cE m sc)=some jU)
variable {vars:List (Option V)} {n₀:Nat} {D:Addr} {acc:List Lake.D}
include iE iT ft ht hloc gU zQ XK XI
theorem Ku {elt iter F4:PySem.Expr} {el aZ:E} {scope:Scope} {pos:Pos} (helt:cE m sc elt=some el) (XJ:cE m sc F4=some aZ) {K:List Lake.D->List M->Prop} {E:Value->Shared->Prop} {v:Value} {d:Lake.D} (ci:CI e vars n₀ D c acc) (hlim:acc.length<=d9)
  (hfree:∀ i∈O8 t++O8 t2,∀ w,vars[i]?≠some (some w)) (rv:Rep e.G c.F d v) (h:zB (wp e.G e.k n) vars n₀ el t cA t2 aZ jU d acc c.σ.mu K) {P:Shared->Prop} (hP:∀ s',BP e vars n₀ D c (·<=d9) K s'->P s') :
  sE e E target ifs (XX e (.ListComp elt [⟨target,iter,ifs,0⟩,⟨R6,F4,L4,0⟩] scope pos) 0 F4 D E) P v c.s:=by
 have:=ci.len
 subst this
 refine Fb iT ft ht hloc gU ci (fun i hi=>hfree i (List.mem_append_left _ hi)) rv (N:=K acc) h (fun c3 c4 i3 st3 hm hv i4 H6 p4=>?_) fun c' ci' st' q=>hP _ ⟨c',acc,rfl,ci',st',hlim,q⟩
 refine use (iE XJ ft i4 p4) fun c5 u y i5 MM r5 p5=>?_
 obtain⟨F,mu,rd,i6,MN,r6,p6⟩:=nT i5 r5 p5
 rw[HZ XJ]
 refine a2e ?_
 refine k8 p6 fun ds e6 p6=>?_
 obtain⟨ax,vs,kk,rfl,hax,hz,jS⟩:=ME r6 e6
 obtain⟨oa,hoa⟩:∃ oa,F ax=some oa:=by rcases hax with h | h<;>exact⟨_,h⟩
 refine zX (bX e) (ax:=ax) (vs:=vs) (kk:=kk) (hax.imp (i6.hp.sub _ _) (i6.hp.sub _ _)) fun o St x st ho=>?_
 have free:=L8 c5.h
 have rK:=(H6.trans MM).trans MN
 have l3:c3.n=c.n:=congrArg List.length hm
 have hge:c.n<=(c5.fr F mu).n:=l3▸rK.len
 obtain⟨ys,Te,ha,Rv⟩:=ci.acc
 have uF:=st3.keep D _ ha (fun z=>ci.off.2.2 (.inl z)) ci.off.2.1
 have f3:=st3.off ci.off ha
 have XF:=rK.keep D _ uF id f3.2.1
 have f5:=rK.off f3 uF
 have i7:Inv e ⟨F,c5.r,⟨P8 (O8 t2) c3.σ.vars,mu⟩,c5.s⟩:=(i3.less fun j u h=>(gO _ h).1).after (Step.vars (l:=P8 (O8 t2) c3.σ.vars) (l':=P8 (O8 t2) c3.σ.vars) rK) (i6.hp.same (fun ζ ζ h=>h) i6.hp.sub fun ζ ζ=>⟨id,fun ζ=>id⟩) fun ζ ζ h=>h
 have cin:CI e (P8 (O8 t2) c3.σ.vars) mu.length D (Cx.at ⟨F,c5.r,⟨P8 (O8 t2) c3.σ.vars,mu⟩,c5.s⟩ {c5.s with heap:=c5.h.push o}) acc:=
  ⟨i7.keeps (s:={c5.s with heap:=c5.h.push o}) (F5 _),rfl,rfl,⟨ys,Te,F5 _ _ _ XF,t9.mono rK.grow (t9.mono st3.grow Rv)⟩,f5⟩
 refine wpAny_runOwn ?_
 have lp:=JS (VJ (D:=D) fun it=>aJ0 elt target iter R6 F4 ifs L4 scope pos it (.ref D) e.env) (fun ζ l=>l<=d9) x
  (fun{c acc v dd j K E P} ci _ hl r b hp=>by
   refine K9 b fun hb b=>?_
   exact UD iE iT ft zQ XK XI helt ci (E0 hb) (fun i hi w z=>(gO _ z).2 hi) r b fun s' z=>hp s' (z.mono fun ζ h=>k6 h (E0 hb)))
  (Step.keeps (c:=⟨F,c5.r,⟨P8 (O8 t2) c3.σ.vars,mu⟩,c5.s⟩) (tk:=c5.s.toks) (F5 o)) free cin hoa st (i7.off free) (fun z=>E6 (z▸free) XF) jS hlim p6
 refine U5 (MR (g:=⟨R6,F4,L4,0⟩) rfl rfl x st lp) fun r s' z=>?_
 obtain⟨hr,c8,yN,hs,P7,T8,IU,p8⟩:=z
 subst hr hs
 have zO:c.n<=c8.n:=P7.len▸hge
 refine hP _ ⟨c8.pick c.n [] vars,yN,rfl,⟨P7.i.pick zO rfl fun j x u hx g=>⟨u,?_,?_⟩,rfl,(fU zO).trans (yD _),P7.acc,P7.off.1,fun j hj=>P7.off.2.1 _ (mG (p:=[]) (len:=c8.n) rfl zO (by rw[<-show(c8.pick c.n [] vars).n=_ from fU zO];exact hj)),P7.off.2.2⟩,?_,IU,by rw[LP];exact p8⟩
 ·rw[P7.vars]
  exact Nq (fun z=>hfree j (List.mem_append_right _ z) u g) (hv j u g)
 ·obtain⟨_,_,_,_,m3⟩:=ci.i.kD
  obtain⟨w,_,rw⟩:=m3 j x u hx (by rw[ci.vars];exact g)
  exact rw.self
 ·exact Step.pick (((st3.weak fun b h=>.inl h).trans (rK.weak fun b h=>h.elim)).trans T8.vars) rfl
end
end
section
variable {G:Gd} {e:Ev} {c c' c1:Cx}
theorem ZE {p:Str->NameKind->Bool}:∀(l:List (Str×NameKind)) (x:Str),(l.map fun(q:Str×NameKind)=>if p q.1 q.2=true then(q.1,NameKind.cell) else(q.1,q.2)).lookup x=(l.lookup x).map fun k=>if p x k=true then .cell else k
 | [],x=>rfl
 |(y,k)::l,x=>by
  have ih:=ZE (p:=p) l x
  rw[N5,cX]
  cases h:x==y with
  | true=>
   have h:=eq_of_beq h
   subst h
   cases q:p x k<;>simp[q]
  | false=>cases q:p y k<;>simp[cX,h,ih]
theorem Cj {env:Env} {scope:Scope} {sc:Sc} (hk:env.scope.kind=.function) (hn:env.scope.names=sc.names):(relabel scope env).names=kN scope.names sc.names:=by
 unfold relabel kN
 simp only[hk,AF,hn,beq_self_eq_true,F7]
theorem Ma {env:Env} (i:∀ x,env.kindOf x=some .cell->∃ c,env.cells.lookup x=some c) {scope:Scope} (hf:∀ q∈scope.names,q.2=.free->env.kindOf q.1=some .cell) :
  ∃ cl,closureFor scope env=pure cl/\(∀ x c,cl.lookup x=some c->env.cells.lookup x=some c)/\(∀ q∈scope.names,q.2=.free->∃ c,cl.lookup q.1=some c):=by
 have key:∀(l:List (Str×NameKind)) (cs:List (Str×Addr)),(∀ q∈l,q.2=.free->env.kindOf q.1=some .cell)->(∀ x c,cs.lookup x=some c->env.cells.lookup x=some c)->
   ∃ cl,(forIn l cs fun(q:Str×NameKind) (cs:List (Str×Addr))=>(if(q.2==.free)=true then do let c <-cellOf env q.1;pure (ForInStep.yield ((q.1,c)::cs)) else pure (ForInStep.yield cs):Sem (ForInStep (List (Str×Addr)))))=pure cl/\
    (∀ x c,cl.lookup x=some c->env.cells.lookup x=some c)/\(∀ q∈l,q.2=.free->∃ c,cl.lookup q.1=some c)/\(∀ x c,cs.lookup x=some c->∃ c,cl.lookup x=some c):=by
  intro l
  induction l with
  | nil=>intro cs _ h2;exact⟨cs,rfl,h2,nm,fun x c h=>⟨c,h⟩⟩
  | cons q l ih=>
   intro cs h1 h2
   rw[EU]
   cases hb:q.2==.free with
   | true=>
    obtain⟨c,hc⟩:=i q.1 (h1 q f9 (eq_of_beq hb))
    have hcell:cellOf env q.1=pure c:=by unfold cellOf;rw[hc]
    obtain⟨cl,e1,e2,e3,e4⟩:=ih ((q.1,c)::cs) (fun r hr=>h1 r (l6 _ hr)) fun x c' h=>by
     rw[cX] at h
     cases z:x==q.1 with
     | true=>rw[z] at h;have h:=si h;rw[eq_of_beq z,<-h];exact hc
     | false=>rw[z] at h;exact h2 x c' h
    refine⟨cl,?_,e2,fun r hr zP=>?_,fun x c' h=>e4 x (if x==q.1 then c else c') ?_⟩
    ·rw[if_pos rfl,hcell]
     simpa only[pure_bind] using e1
    ·rcases v5.mp hr with rfl | hr
     ·exact e4 r.1 c (by rw[cX,beq_self_eq_true])
     ·exact e3 r hr zP
    ·rw[cX]
     cases z:x==q.1<;>simp[h]
   | false=>
    obtain⟨cl,e1,e2,e3,e4⟩:=ih cs (fun r hr=>h1 r (l6 _ hr)) h2
    refine⟨cl,?_,e2,fun r hr zP=>?_,e4⟩
    ·rw[if_neg (by decide)]
     simpa only[pure_bind] using e1
    ·rcases v5.mp hr with rfl | hr
     ·exact absurd zP (beq_eq_false_iff_ne.mp hb)
     ·exact e3 r hr zP
 obtain⟨cl,e1,e2,e3,_⟩:=key scope.names [] hf fun x c h=>by exact nn h
 refine⟨cl,sM ?_ e1,e2,e3⟩
 unfold closureFor
 first
  | rfl
  |(show(forIn scope.names _ _ >>= fun cs=>pure cs)=_;exact bind_pure _)
theorem mem_lookup {β:Type}:∀{l:List (Str×β)} {x:Str} {k:β},l.lookup x=some k->(x,k)∈l:=by
 intro b7
 induction b7 with
 | nil=>intro b8 b9 e8;first | exact nomatch e8 | exact nomatch b9 | exact nomatch b8 | cases e8 | cases b9 | cases b8
 | cons p_ l IH=>
  obtain⟨y,k'⟩:=p_;intro x k h
  rw[cX] at h
  cases z:x==y with
  | true=>rw[z] at h;have h:=si h;rw[eq_of_beq z,h];exact f9
  | false=>rw[z] at h;exact l6 _ (IH h)
theorem Ct {cap:List Nat}:∀{l:List (Option V)} (i:Nat) {j:Nat} {u:V},(CA cap i l)[j]?=some (some u)->l[j]?=some (some u)/\i+j∈cap
 | v::l,i,0,u,h=>by
  have h:(bif cap.any (Nat.beq i) then v else none)=some u:=G0 h
  cases q:cap.any (Nat.beq i) with
  | false=>rw[q] at h;exact nn h
  | true=>
   rw[q] at h
   obtain⟨x,h1,h2⟩:=PS.mp q
   exact⟨congrArg some h,(I9 h2)▸h1⟩
 | v::l,i,j+1,u,h=>by
  have:=Ct (i+1) (h:(CA cap (i+1) l)[j]?=some (some u))
  rw[gI,lW 1 j] at this
  exact this
theorem aB5 {cap:List Nat} {len j:Nat} {vs:List (Option V)} {u:V} (h:(seen cap len vs)[j]?=some (some u)):vs[j]?=some (some u)/\j∈cap:=by
 obtain⟨h1,h2⟩:=Ct 0 h
 rw[W4] at h2
 refine⟨?_,h2⟩
 have hl:j<len:=W3 (O0 h1) (PY ..)
 rw[List.getElem?_take,if_pos hl] at h1
 by_cases z:j<vs.length
 ·rw[aJ z] at h1
  exact h1
 ·rw[jD (N7 z),PV] at h1
  exact nn (si (cB h1).2)
noncomputable def yY (scope:Scope) (sc:Sc):List Nat:=scope.names.filterMap fun(x,k)=>if k==.free then sc.nm.idxOf? x else none
noncomputable abbrev rB (scope:Scope) (sc:Sc) (extra:List Str):Sc:=⟨kN scope.names sc.names,sc.nm++extra,sc.gt⟩
structure NX (sc:Sc) (scope:Scope) (extra:List Str):Prop where
 kind:scope.kind=.function
 nd:(sc.nm++extra).Nodup
 names:∀ q∈scope.names,q.2≠.cell/\(q.2=.local->scope.names.lookup q.1=some .local)/\(q.2=.free->sc.names.lookup q.1=some .cell/\scope.names.lookup q.1=some .free)
structure cN (e:Ev) (sc:Sc) (scope:Scope) (extra:List Str) (cl:List (Str×Addr)):Prop where
 ft:Fits e sc
 cc:NX sc scope extra
 h1:∀ x c,cl.lookup x=some c->e.env.cells.lookup x=some c
 h2:∀ q∈scope.names,q.2=.free->∃ c,cl.lookup q.1=some c
section
variable {sc:Sc} {scope:Scope} {extra:List Str} {cl:List (Str×Addr)} (x:cN e sc scope extra cl) (C:Addr)
include x
omit x in
theorem cN.Ci (y:Str):(compEnvC scope cl C e.env).kindOf y=(scope.names.lookup y).map fun k=>if(k==.free&&e.env.scope.kind==.function&&e.env.kindOf y==some .cell)=true then .cell else k:=
 ZE (p:=fun x k=>k==.free&&e.env.scope.kind==.function&&e.env.kindOf x==some .cell) scope.names y
theorem cN.cells (y:Str) (h:(compEnvC scope cl C e.env).kindOf y=some .cell):∃ c,cl.lookup y=some c:=by
 rw[cN.Ci] at h
 refine p7 h fun k h1 h2=>?_
 have hm:=mem_lookup h1
 cases q:(k==.free&&e.env.scope.kind==.function&&e.env.kindOf y==some .cell) with
 | true=>exact x.h2 _ hm (eq_of_beq (x9 (x9 q).1).1)
 | false=>rw[q] at h2;exact absurd h2 (x.cc.names _ hm).1
noncomputable def cN.ev:Ev:=⟨e.G,e.k,e.A,compEnvC scope cl C e.env,sc.nm++extra,e.room,x.cc.kind,e.glob,e.pL,x.cc.nd,fun y z c h g=>e.apart y z c (x.h1 _ _ h) (x.h1 _ _ g),x.cells C⟩
theorem cN.own {b:Addr} (h:Lake.own (compEnvC scope cl C e.env) b):b=C∨Lake.own e.env b:=h.imp id fun⟨y,h⟩=>.inr ⟨y,x.h1 _ _ h⟩
theorem cN.fits:Fits (x.ev C) (rB scope sc extra):=⟨Cj e.kind x.ft.names,rfl,x.ft.tab,x.ft.gx⟩
theorem cN.loc {y:Str} (h:(kN scope.names sc.names).lookup y=some .local):(x.ev C).env.kindOf y=some .local:=by
 show(relabel scope e.env).names.lookup y=_
 rw[Cj e.kind x.ft.names];exact h
theorem cN.inv (i:Inv e c) {fs:List Nat} {len:Nat} {s':Shared} {m:Str->Option Value} (f:Off e c C) (hk:∀ b o,c.h.get? b=some o->s'.heap.get? b=some o) (hn:s'.heap.Ns C m):Inv (x.ev C) ⟨c.F,c.r,⟨P8 fs (seen (yY scope sc) len c.σ.vars),c.σ.mu⟩,s'⟩:=by
 obtain⟨m0,Me,h1,h2,h3⟩:=i.kD
 refine⟨i.hp.same (fun ζ ζ h=>h) (fun a o h=>hk a o (i.hp.sub a o h)) fun j hj=>⟨id,fun o=>hk _ o⟩,fun b hb=>?_,fun b hb=>?_,m,Me,hn,fun y a h=>(h2 y a (x.h1 _ _ h)).keeps hk,fun j y u g1 g2=>?_⟩
 ·rcases x.own C hb with rfl | hb
  ·exact f.1
  ·exact i.bH b hb
 ·rcases x.own C hb with rfl | hb
  ·exact f.2.1
  ·exact i.cF b hb
 ·obtain⟨g3,g4⟩:=aB5 (gO fs g2).1
  obtain⟨⟨y',k⟩,hm,hj⟩:=EY.mp g4
  have hj:(if(k==.free)=true then sc.nm.idxOf? y' else none)=some j:=hj
  cases IS:k==.free with
  | false=>rw[IS] at hj;exact nn hj
  | true=>
   rw[IS] at hj
   have hk':=eq_of_beq IS
   subst hk'
   have hx:=zR hj
   rw[show(x.ev C).nm[j]?=sc.nm[j]? from aJ (O0 hx),hx] at g1
   have g1:=si g1
   subst g1
   obtain⟨q1,q2⟩:=(x.cc.names _ hm).2.2 rfl
   obtain⟨v,hv,rv⟩:=h3 j _ u (x.ft.nm▸hx) g3
   have hkx:e.env.kindOf y'=some .cell:=by rw[AF,x.ft.names];exact q1
   refine⟨v,.inr ⟨?_,?_⟩,rv.frame (fun ζ ζ h=>h) (g7 _)⟩
   ·show(compEnvC scope cl C e.env).kindOf y'=_
    rw[cN.Ci,q2,hkx,e.kind];rfl
   ·obtain⟨a,ha⟩:=x.h2 _ hm rfl
    refine⟨a,ha,?_⟩
    rcases hv with⟨w,_⟩ |⟨_,a',w1,w2⟩
    ·rw[hkx] at w;cases w
    ·exact w2
end
end
section
variable {G:Gd} {e:Ev} {c c' c1:Cx}
inductive NY (m:Nat) (sc:Sc) (more:List Comprehension) (cls:List Cl):Prop
 | none (e1:more=[]) (e2:cls=[])
 | two (R6 F4:PySem.Expr) (L4:List PySem.Expr) (t2:Tg) (aZ:E) (jU:List E) (e1:more=[⟨R6,F4,L4,0⟩]) (e2:cls=[Cl.mk t2 aZ jU]) (h1:P6 sc R6=some t2) (h2:cE m sc F4=some aZ) (h3:L4.mapM (cE m sc)=some jU)
 | many (a b:Cl) (d:List Cl) (e:cls=a::b::d)
inductive Gn (m:Nat) (sc:Sc) (elt:PySem.Expr) (gens:List Comprehension) (scope:Scope) (ir:E):Prop
 | mk (target iter:PySem.Expr) (ifs:List PySem.Expr) (more:List Comprehension) (extra:List Str) (cls:List Cl) (el:E) (t:Tg) (it:E) (cA:List E) (e1:gens=⟨target,iter,ifs,0⟩::more) (cc:NX sc scope extra)
  (l1:∀ x∈kT target,(kN scope.names sc.names).lookup x=some .local) (l2:∀ g∈more,∀ x∈kT g.target,(kN scope.names sc.names).lookup x=some .local) (g2:NY m (rB scope sc extra) more cls)
  (h1:cE m (rB scope sc extra) elt=some el) (h2:P6 (rB scope sc extra) target=some t) (h3:cE m sc iter=some it) (h4:ifs.mapM (cE m (rB scope sc extra))=some cA) (e2:ir=.comp (yY scope sc) (sc.nm++extra).length el (.mk t it cA) cls)
theorem Z5 {α:Type} {p P:Prop} [Decidable p] {o:Option α} {x:α} (h:(if p then o else none)=some x) (k:p->o=some x->P):P:=k (cB h).1 (cB h).2
theorem Jg {a b c d e:Bool} {P:Prop} (h:(a&&b&&c&&d&&e)=true) (k:a=true->b=true->c=true->d=true->e=true->P):P:=x8 h fun h h5=>x8 h fun h h4=>x8 h fun h h3=>x8 h fun h1 h2=>k h1 h2 h3 h4 h5
theorem o5 {α β γ δ ε ρ:Type} {P:Prop} {a:Option α} {b:Option β} {c:Option γ} {d:Option δ} {e:Option ε} {F:α->β->γ->δ->ε->ρ} {r:ρ} (h:(a.bind fun v=>b.bind fun w=>c.bind fun x=>d.bind fun y=>e.bind fun z=>some (F v w x y z))=some r) (k:∀ v w x y z,a=some v->b=some w->c=some x->d=some y->e=some z->F v w x y z=r->P):P:=g9 h fun v ha h=>g9 h fun w hb h=>g9 h fun x hc h=>g9 h fun y hd h=>g9 h fun z he h=>k v w x y z ha hb hc hd he (si h)
theorem Qi {m:Nat} {sc:Sc} {more:List Comprehension} {cls:List Cl} (e1:more.mapM (UT (cE m sc) sc)=some cls):NY m sc more cls:=by
 induction more using List.casesOn with
 | nil=>exact .none rfl (mapM_nil e1)
 | cons g more=>
  obtain⟨b,bs,f1,f2,rfl⟩:=mapM_cons e1
  induction more using List.casesOn with
  | cons g' more=>obtain⟨b',bs',_,_,rfl⟩:=mapM_cons f2;exact .many _ _ _ rfl
  | nil=>
   rw[mapM_nil f2]
   obtain⟨t,it,ifs,a⟩:=g
   refine Z5 f1 fun ha f1=>?_
   exact g9 f1 fun t2 h1 f1=>g9 f1 fun aZ h2 f1=>g9 f1 fun jU h3 f1=>.two t it ifs t2 aZ jU (ha▸rfl) (congrArg (fun x=>[x]) (si f1).symm) h1 h2 h3
theorem UW {m:Nat} {sc:Sc} {elt:PySem.Expr} {gens:List Comprehension} {scope:Scope} {pos:Pos} {ir:E} (h:cE (m+1) sc (.ListComp elt gens scope pos)=some ir):Gn m sc elt gens scope ir:=by
 induction gens using List.casesOn with
 | nil=>exact nn h
 | cons g more=>
 obtain⟨target,iter,ifs,a⟩:=g
 induction a using Int.casesOn with
 | negSucc _=>exact nn h
 | ofNat a=>
 induction a using Nat.casesOn with
 | succ _=>exact nn h
 | zero=>
  refine Z5 h fun hc h=>?_
  refine Jg hc fun h1 h2 h3 h4 h5=>?_
  refine o5 h fun cls el t it cA e1 e2 e3 e4 e5 h=>?_
  have loc {x:PySem.Expr} (q:NB (rB scope sc (KP sc scope)) x=true):∀ y∈kT x,(kN scope.names sc.names).lookup y=some .local:=fun y hy=>eq_of_beq (U1.mp q y hy)
  refine⟨target,iter,ifs,more,KP sc scope,cls,el,t,it,cA,rfl,⟨eq_of_beq h1,of_decide_eq_true h2,fun q hq=>?_⟩,loc h3,fun g hg=>loc (U1.mp h4 g hg),Qi e1,e2,e3,e4,e5,h.symm⟩
  ·refine x8 (U1.mp h5 q hq) fun q1 q3=>?_
   refine x8 q1 fun q1 q2=>?_
   exact⟨bne_iff_ne.mp q1,fun z=>((bQ _ _).mp q2).elim (fun w=>absurd z (bne_iff_ne.mp w)) eq_of_beq,fun z=>((bQ _ _).mp q3).elim (fun w=>absurd z (bne_iff_ne.mp w)) fun w=>⟨eq_of_beq (x9 w).1,eq_of_beq (x9 w).2⟩⟩
theorem Step.narrow {fr:Addr->Prop} (st:Step fr c c1) (h:∀ b,fr b->c.h.get? b=none):Step I3 c c1:={st with keep:=fun b o g ζ h2=>st.keep b o g (fun z=>E6 (h b z) g) h2}
theorem UX {n m:Nat} {sc:Sc} (iE:aF n) (iT:cQ n) (ft:Fits e sc) {elt:PySem.Expr} {gens:List Comprehension} {scope:Scope} {pos p2:Pos} {ir:E} (hc:cE (m+1) sc (.ListComp elt gens scope pos)=some ir) (i:Inv e c) {Q0:V->St->Prop} (h:fZ e.G e.k (wp e.G e.k n) ir c.σ Q0)
  {CS:Option (Value->Sem Unit)} {Q E:Value->Shared->Prop}
  (fin:∀(s':Shared) (C D:Addr),Y6 e I3 c (fun c' u v=>i0 e.G c' u v/\Off e c' C) Q0 (.ref D) s'->(∃ mC,s'.heap.Ns C mC)->c.h.get? C=none->compPost (a1l e.G.prog e.G.w) e.A E CS Q (.ref D) C (.ok .next) s') :
  a1s (a1l e.G.prog e.G.w) e.A (comprehension (.ListComp elt gens scope pos) scope e.env p2 (newList []) (firstAsync gens) (firstIter gens e.env) CS) Q E c.s:=by
 obtain⟨target,iter,ifs,more,extra,cls,el,t,it,cA,rfl,cc,hl1,hl2,hmore,he,ht,hi,gU,rfl⟩:=UW hc
 obtain⟨cl,Qv,Qw,Qx⟩:=Ma e.cells (scope:=scope) fun q hq hf=>by rw[AF,ft.names];exact((cc.names q hq).2.2 hf).1
 have x:cN e sc scope extra cl:=⟨ft,cc,Qw,Qx⟩
 refine wpAny_comprehension_free rfl (HZ hi) Qv cc.kind (fun y hy=>(cc.names y hy).2.1) ?_
 refine use (iE hi ft i h) fun c1 u y i1 st1 r1 p1=>?_
 obtain⟨F,mu,rd,i2,st2,r2,p2⟩:=nT i1 r1 p1
 have Dl:=st1.trans st2
 refine k8 p2 fun ds e2 p2=>?_
 obtain⟨ax,vs,kk,rfl,hax,hz,jS⟩:=ME r2 e2
 obtain⟨oa,hoa⟩:∃ oa,F ax=some oa:=by rcases hax with h | h<;>exact⟨_,h⟩
 refine zX (bX e) (ax:=ax) (vs:=vs) (kk:=kk) (hax.imp (i2.hp.sub _ _) (i2.hp.sub _ _)) fun o St w st ho=>?_
 refine wpAny_newObj_type (wpAny_newFunctionEnv (fun q hq=>(cc.names q hq).1) nm (fun h4 hns Ry=>?_) cc.kind)
 have wG:(c1.h.push o).objs.size=c1.h.objs.size+1:=xG ..
 have CG:((c1.h.push o).push {cls:=.type "list",dict:=none,data:=.seq ([]:List Value).toArray}).objs.size=c1.h.objs.size+2:=by rw[xG,wG]
 have fI:c1.h.get? c1.h.objs.size=none:=L8 _
 have fD:c1.h.get? (c1.h.push o).objs.size=none:=kH (by rw[wG];exact J5 _)
 have fC:c1.h.get? ((c1.h.push o).push {cls:=.type "list",dict:=none,data:=.seq ([]:List Value).toArray}).objs.size=none:=kH (by rw[CG];exact H9 _ _)
 have hDC:(c1.h.push o).objs.size≠((c1.h.push o).push {cls:=.type "list",dict:=none,data:=.seq ([]:List Value).toArray}).objs.size:=by rw[wG,CG];exact yK (A1 _)
 have hIC:c1.h.objs.size≠((c1.h.push o).push {cls:=.type "list",dict:=none,data:=.seq ([]:List Value).toArray}).objs.size:=by rw[CG];exact yK (QU (oY _))
 have uE:c1.h.objs.size≠(c1.h.push o).objs.size:=by rw[wG];exact yK (A1 _)
 have Qs:((c1.h.push o).push {cls:=.type "list",dict:=none,data:=.seq ([]:List Value).toArray}).get? (c1.h.push o).objs.size=some (K5 #[] 0):=aH _ rfl
 clear wG CG
 generalize (c1.h.push o).objs.size=D at *
 generalize ((c1.h.push o).push {cls:=.type "list",dict:=none,data:=.seq ([]:List Value).toArray}).objs.size=C at *
 generalize hI:c1.h.objs.size=I at *
 have up {b:Addr} {o':Obj} (hb:b≠C) (g:((c1.h.push o).push {cls:=.type "list",dict:=none,data:=.seq ([]:List Value).toArray}).get? b=some o'):h4.get? b=some o':=(Ry.2 b hb).trans (F5 _ _ _ g)
 have old:∀ b o',c1.h.get? b=some o'->h4.get? b=some o':=fun b o' g=>up (fun z=>E6 (z▸fC) g) (F5 _ _ _ (F5 _ _ _ g))
 have H6:St 0 h4:=w.W.frame _ _ _ st fun b hb o' g=>up (fun z=>by
  rcases v5.mp hb with rfl | hb
  ·exact hIC z
  ·rw[j5.mp hb] at z
   exact E6 (z▸fC) (i2.hp.sub _ _ hoa)) (F5 _ _ _ g)
 have Vq:Off (x.ev C) (c1.fr F mu) D:=⟨(i2.off fD).1,(i2.off fD).2.1,fun h=>(x.own C h).elim hDC (i2.off fD).2.2⟩
 have Ae:Off (x.ev C) (c1.fr F mu) I:=⟨(i2.off fI).1,(i2.off fI).2.1,fun h=>(x.own C h).elim hIC (i2.off fI).2.2⟩
 have WS:=x.fits C
 have ci (fs:List Nat):CI (x.ev C) (P8 fs (seen (yY scope sc) (sc.nm++extra).length c1.σ.vars)) mu.length D ⟨F,c1.r,⟨P8 fs (seen (yY scope sc) (sc.nm++extra).length c1.σ.vars),mu⟩,{c1.s with heap:=h4,toks:=c1.s.toks+0}⟩ []:=
  ⟨x.inv C (s':={c1.s with heap:=h4,toks:=c1.s.toks+0}) i2 (i2.off fC) old hns,rfl,rfl,⟨#[],0,up hDC Qs,rfl⟩,Vq⟩
 have T0 (vs:List (Option V)):Step (gT (x.ev C) D) ⟨F,c1.r,⟨vs,mu⟩,c1.s⟩ ⟨F,c1.r,⟨vs,mu⟩,{c1.s with heap:=h4,toks:=c1.s.toks+0}⟩:=Step.keeps (c:=⟨F,c1.r,⟨vs,mu⟩,c1.s⟩) old
 have last {vars:List (Option V)} {L:Nat->Prop} (hL:∀ l,L l->l<=d9) (r:Result) (s':Shared) (hb:r=.ok .next/\BP (x.ev C) vars mu.length D ⟨F,c1.r,⟨vars,mu⟩,c1.s⟩ L (fun acc mu=>Q0 (.val (.lst acc)) ⟨c1.σ.vars,mu⟩) s'):compPost (a1l e.G.prog e.G.w) e.A E CS Q (.ref D) C r s':=by
  obtain⟨rfl,c8,yN,rfl,P7,T8,IU,q8⟩:=hb
  have T:Step I3 (c1.fr F mu) ⟨c8.F,c8.r,⟨c1.σ.vars,c8.σ.mu⟩,c8.s⟩:=Step.vars (c:=⟨F,c1.r,⟨vars,mu⟩,c1.s⟩) (T8.narrow fun b hb=>hb.elim (fun z=>z▸fC) fun z=>z▸fD)
  obtain⟨ys,k5,Qq,XN⟩:=P7.acc
  have i8:Inv e ⟨c8.F,c8.r,⟨c1.σ.vars,c8.σ.mu⟩,c8.s⟩:=i2.after T (P7.i.hp.same (fun ζ ζ h=>h) P7.i.hp.sub fun ζ ζ=>⟨id,fun ζ=>id⟩) fun ζ ζ h=>h
  obtain⟨mC,_,IV,_⟩:=P7.i.kD
  have hys:ys.size<=d9:=by rw[show ys.size=yN.length from(reps.mp XN).len.symm];exact hL _ IU
  have back {b:Addr} (h:c1.h.get? b=none):c.h.get? b=none:=Dl.back (c':=c1.fr F mu) h
  exact fin c8.s C D (post_add (R:=fun c' u v=>i0 e.G c' u v/\Off e c' C) (y:=V.val (.lst yN)) (h':=c8.h) (tk:=c8.s.toks) (Dl.trans T) (back fD) i8 ⟨P7.off.1,P7.off.2.1,(i2.off fD).2.2⟩ (fun ζ ζ ζ h=>h) Qq
   ⟨⟨D,ys,k5,rfl,fE,hys,t9.mono (aO P7.off.1) XN⟩,by show W5 _ D _ C=none;rw[pB (U4 hDC)];exact P7.i.bH C (.inl rfl),P7.i.cF C (.inl rfl),(i2.off fC).2.2⟩ q8) ⟨mC,IV⟩ (back fC)
 rcases hmore with⟨rfl,rfl⟩ |⟨R6,F4,L4,t2,aZ,jU,rfl,rfl,f1,f2,f3⟩ |⟨a,b,d,rfl⟩
 ·have lp:=JS (VJ (e:=x.ev C) (D:=D) fun it=>aI9 elt target iter ifs scope pos it (.ref D) (x.ev C).env) (fun j l=>l<=j) w
   (fun{c acc v dd j K E P} ci hj hl r b hp=>UD iE iT WS ht (fun y hy=>x.loc C (hl1 y hy)) gU he ci (Y9 hl (W3 hj hz)) (fun i hi w z=>(gO _ z).2 hi) r b fun s' z=>hp s' (z.mono fun ζ h=>k6 h (u6 hl)))
   (T0 _) fI (ci (O8 t)) hoa H6 Ae uE jS (g7 _) p2
  exact U5 (MR (g:=⟨target,iter,ifs,0⟩) rfl rfl w H6 lp) (last fun l h=>k6 h hz)
 ·have lp:=JS (Nf (e:=x.ev C) (D:=D) fun it=>aJ2 elt target iter R6 F4 ifs L4 scope pos it (.ref D) (x.ev C).env) (fun j l=>l<=d9) w
   (fun{c acc v dd j K E P} ci hj hl r b hp=>Ku iE iT WS ht (fun y hy=>x.loc C (hl1 y hy)) gU f1 (fun y hy=>x.loc C (hl2 _ f9 y hy)) f3 he f2 ci hl (fun i hi w z=>(gO _ z).2 hi) r b hp)
   (T0 _) fI (ci (O8 t++O8 t2)) hoa H6 Ae uE jS (v7 _) p2
  exact U5 (MR (g:=⟨target,iter,ifs,0⟩) rfl rfl w H6 lp) (last fun l h=>h)
 ·obtain⟨_,_,_⟩:=a;exact p2.elim
end
section
variable {G:Gd} {e:Ev} {c c' c1:Cx} {Q:V->St->Prop}
theorem wQ {k n:Nat}:wp G k (n+1)=⟨fZ G k (wp G k n),DC (wp G k n),wO (wp G k n)⟩:=by with_unfolding_all rfl
theorem Vf (i:Inv e c) {vs:List Value} {l:List V} {tk:Nat} (r:o8 e.G c l vs) (hz:vs.length<=d9) (q:Q (KH l) c.σ):Post e c (RV e) Q (.ref c.h.objs.size) {c.s with heap:=c.h.push (eE vs.toArray 0),toks:=tk}:=by
 have free:=L8 c.h
 refine post_add .refl free i (i.off free) (fun b o ζ=>F5 _ b o) (aH _ rfl) ?_ q
 have r':o8 e.G (c.add c.h.objs.size (eE vs.toArray 0) {c.s with heap:=c.h.push (eE vs.toArray 0),toks:=tk}) l vs.toArray.toList:=r.mono (RN (i.hp.free free))
 show i0 e.G _ (Option.casesOn (M8 V.d? l) (.tup l) fun ds=>.val (.tup ds)) _
 cases h:M8 V.d? l with
 | none=>exact⟨_,vs.toArray,0,rfl,fE,hz,r'⟩
 | some ds=>exact⟨_,vs.toArray,0,rfl,fE,hz,reps.mpr (vC (fun u d v h r=>by rw[aR h] at r;exact r) h (w6.mp r'))⟩
theorem RZ {x:Str} {j:Nat} (h:GF x=some j):x=attrName j:=(GG (zR h)).symm
theorem Ua (i:Inv e c) {v:Value} {l:List D} {j:Nat} {r:D} {ex:Bool} (rv:Rep e.G c.F (.obj 55 l) v) (hj:j<e.k) (hp:Pure e.G j 43 [.obj 55 l] r) (hq:Q (.val r) c.σ):Rn e c (getAttr v "is_lazy" ex) (RV e) Q:=by
 obtain⟨a,dx,o,vs,rfl,h1,h2,⟨es,n,rfl,hl⟩,h4⟩:=id rv
 have X:=i.hp.K
 have cl:=e.G.cls (C:=55) rfl
 have I:InstAt c.h a (instObj 55 dx) 55 (some (dictOf es n)):=⟨i.hp.sub _ _ h1,rfl,rfl,i.hp.sub _ _ h2⟩
 have lz:=e.G.lz
 refine x8 lz fun hp1 lz=>?_
 refine x8 lz fun z1 lz=>?_
 refine x8 lz fun z2 z3=>?_
 refine g9 (eq_of_beq z3) fun l hrec z3=>?_
 induction l using List.casesOn with
 | nil=>exact nn z3
 | cons f rest=>
   rw[si (z3:some f=some _)] at hrec
   obtain⟨cd,hcd,_⟩:=any_some cl.dict
   have hfo:findObj e.G.K 55 (some (dictOf es n)) "is_lazy"=some (.bind (.builtin "property.__get__") (.ref 44)):=by
    unfold findObj
    rw[hcd,RG,eq_of_beq hp1,RG]
    show((specialIn _ (.ref 44) "__get__").bind _)=_
    rw[eq_of_beq z1]
    show((takesIn _ (.ref 44)).bind _)=_
    rw[eq_of_beq z2]
    rfl
   refine get_bind X I cl.ga hfo cl.gx (a1y (prop_get (s:={c.s with toks:=c.s.toks+1}) X hrec ?_))
   have rm:nZ j e.A.in1:=⟨e.room.1,by have:=e.room.2.1;show e.A.depth+j<980;lia,by have:=e.room.2.2;show e.A.units+1+16*j<9800;lia⟩
   refine U5 (Cc (c:=c.at {c.s with toks:=c.s.toks+1}) rm (i.keeps (s:={c.s with toks:=c.s.toks+1}) fun ζ ζ h=>h) (ds:=[.obj 55 l]) (vs:=[.ref a]) ⟨_,_,rfl,rv,rfl⟩ hp hq) fun r' s' ⟨w,e1,hh,pq⟩=>?_
   subst e1
   exact handed_on hh (pq.trans (Step.keeps (c:=c) (h':=c.h) (tk:=c.s.toks+1) fun ζ ζ h=>h))
theorem KZ {n m:Nat} {sc:Sc} (ih:aF n) (ft:Fits e sc) {x:Option PySem.Expr} {ir:Option E} {Q:Option V->St->Prop} (hx:(match x with | none=>some none | some x=>(cE m sc x).map some)=some ir) (i:Inv e c) (h:CZ (wp e.G e.k n).e ir c.σ Q):Rn e c (evalPart x e.env) (RO e) Q:=by
 induction x using Option.casesOn with
 | none=>
  injection hx with hx
  subst hx
  exact a2e (here (b:=none) i rfl h)
 | some x=>
  refine p7 hx fun y h1 e_=>?_
  subst e_
  exact use (ih h1 ft i h) fun c1 u v i1 st1 r1 p1=>(here (b:=some u) i1 r1 p1).trans st1
theorem RO.step {x:Option V} {v:Value} {fr:Addr->Prop} (r:RO e c x v) (st:Step fr c c1):RO e c1 x v:=by induction x using Option.casesOn with | none=>exact r | some u=>exact i0.step (u:=u) r st
theorem Dz {sl:PySem.Expr} (h:∀ a b c d,sl≠.Slice a b c d):(∀ o i,subscripted sl false o i=operate [o,i] (getItem o i))/\∀{m sc v pos ir},cE (m+1) sc (.Subscript v sl pos)=some ir->∃ a b,cE m sc v=some a/\cE m sc sl=some b/\ir=.idx a b:=by
 have key {m:Nat} {sc:Sc} {v:PySem.Expr} {ir:E} (hc:((cE m sc v).bind fun a=>(cE m sc sl).bind fun b=>some (E.idx a b))=some ir):∃ a b,cE m sc v=some a/\cE m sc sl=some b/\ir=.idx a b:=by
  refine g9 hc fun a h1 hc=>?_
  refine g9 hc fun b h2 hc=>?_
  exact⟨a,b,h1,h2,(G0 hc).symm⟩
 induction sl using PySem.Expr.casesOn<;>first | exact⟨fun ζ ζ=>rfl,fun hc=>key hc⟩ | exact absurd rfl (h _ _ _ _)
theorem aF8 (a b c:Option PySem.Expr) (d:Pos):∀ o i,∃ ops,subscripted (.Slice a b c d) false o i=operate ops (getItem o i):=fun o i=>by
 induction c using Option.casesOn with
 | none=>exact⟨[i,o],rfl⟩
 | some c=>exact⟨[o,i],rfl⟩
theorem Uy {m:Nat} {sc:Sc} {x:Str} {pos:Pos} {ir:E} (h:cE (m+1) sc (.Name x pos)=some ir):bJ x=true/\((∃ j,S6 sc x=some j/\ir=.var j)∨∃ d,M7 sc x=some (.const d)/\ir=.const d):=by
 refine Z5 h fun ok h=>?_
 refine⟨ok,?_⟩
 cases q:S6 sc x with
 | some j=>rw[q] at h;exact .inl ⟨j,rfl,(G0 h).symm⟩
 | none=>
  rw[q] at h
  cases q':M7 sc x with
  | none=>rw[q'] at h;exact nn h
  | some g=>rw[q'] at h;induction g using GV.casesOn with
   | const d=>exact .inr ⟨d,rfl,(G0 h).symm⟩
   | _=>cases h
theorem UU {m:Nat} {sc:Sc} {l:PySem.Expr} {ops:List CmpOp} {cs:List PySem.Expr} {pos:Pos} {ir:E} (h:cE (m+1) sc (.Compare l ops cs pos)=some ir):ops.length=cs.length/\lastMarks ops cs=false/\∃ a l',cE m sc l=some a/\cs.mapM (cE m sc)=some l'/\ir=.cmp a ops l':=by
 refine Z5 h fun hc h=>?_
 refine x8 hc fun hc h3=>?_
 refine g9 (h:Option.bind _ _=some ir) fun a h1 h=>?_
 refine g9 (h:Option.bind _ _=some ir) fun l' h2 h=>?_
 exact⟨eq_of_beq (x9 hc).1,(lS _).mp h3,a,l',h1,h2,(G0 h).symm⟩
theorem XU {m:Nat} {sc:Sc} {t b o:PySem.Expr} {pos:Pos} {ir:E} (h:cE (m+1) sc (.IfExp t b o pos)=some ir):∃ a1 a2 a3,cE m sc t=some a1/\cE m sc b=some a2/\cE m sc o=some a3/\ir=.ite a1 a2 a3:=by
 refine g9 (h:Option.bind _ _=some ir) fun a h1 h=>?_
 refine g9 (h:Option.bind _ _=some ir) fun a2 h2 h=>?_
 refine g9 (h:Option.bind _ _=some ir) fun a3 h3 h=>?_
 exact⟨a,a2,a3,h1,h2,h3,(G0 h).symm⟩
theorem UC {m:Nat} {sc:Sc} {o:BoolOp} {vs:List PySem.Expr} {pos:Pos} {ir:E} (h:cE (m+1) sc (.BoolOp o vs pos)=some ir):∃ l,vs.mapM (cE m sc)=some l/\ir=BoolOp.casesOn (motive:=fun ζ=>E) o (.and l) (.or l):=by
 refine g9 (h:Option.bind _ _=some ir) fun l h1 h=>?_
 induction o using PySem.BoolOp.casesOn<;>exact⟨l,h1,(G0 h).symm⟩
end
section
variable {e:Ev} {c c' c1:Cx} {Q:V->St->Prop}
section
variable {n m:Nat} {sc:Sc} (B7:aF n) (gW:cQ n) (ft:Fits e sc) (i:Inv e c)
include B7 ft i
theorem Lp {x:Str} {p pos:Pos} {as:List PySem.Expr} {l:List E} {ir:E} (hx:bJ x=true) (h1:as.mapM (cE m sc)=some l) (hs:as.all notStar=true) (hc:(match M7 sc x with
     | some (.fn a)=>some (E.call a l)
     | some (.cls a)=>some (.new a l)
     | some (.bi b)=>some (.bi b l)
     | _=>none)=some ir) (h:fZ e.G e.k (wp e.G e.k n) ir c.σ Q):Rn e c (eval (.Call (.Name x p) as [] pos) e.env) (RV e) Q:=by
 have hplain:=yU (env:=e.env) (pos:=pos) hs
 refine a1t ?_
 show a1s _ _ (eval (.Name x p) e.env) (fun f s₁=>a1s _ _ (callWith pos f [] (backTo pos (starEach as e.env)) []) _ _ s₁) _ c.s
 cases hg:M7 sc x with
 | none=>rw[hg] at hc;exact nn hc
 | some g=>
 rw[hg] at hc
 induction g using GV.casesOn with
 | fn a=>
  have hc:=si hc
  subst hc
  refine uX i ft hg hx (fun z=>.inl z.1) fun gv=>?_
  obtain⟨_,fo,fd,g4,g5⟩:=gv
  refine OQ (o:=fo) (fd:=fd) (pQ hs (use (rG B7 ft h1 hs i (h:aC _ l c.σ _)) fun c1 us vs i1 st1 r1 p1=>⟨⟨i1.hp.K _ _ g4,g5⟩,?_⟩))
  obtain⟨F,mu,ds,i2,st2,r2,p2⟩:=Ey i1 r1.1 p1
  rcases tP p2 with⟨_,r,d8,hp,hq⟩ |⟨_,d,hp,hq⟩
  ·exact back (st1.trans st2) (ZU e.room i2 r2 hp hq)
  ·exact back (st1.trans st2) (MC (Cc e.room i2 r2 hp hq))
 | cls a=>
  have hc:=si hc
  subst hc
  refine uX i ft hg hx .inl fun gv=>?_
  refine K9 (h:j7 _ _) fun Qz h=>?_
  refine Lm hplain (pQ hs (use (rG B7 ft h1 hs i h) fun c1 us vs i1 st1 r1 p1=>?_))
  obtain⟨F,mu,ds,i2,st2,r2,r,d8,hp,hq⟩:=Ey i1 r1.1 p1
  exact⟨makes_of i1.hp.K (e.G.cls Qz).makes,rfl,back (st1.trans st2) (ZU e.room i2 r2 hp hq)⟩
 | bi b=>
  have hc:=si hc
  subst hc
  refine uX i ft hg hx .inr fun gv=>?_
  have hw:=use (rG (pos:=pos) B7 ft h1 hs i (h:aC _ l c.σ _)) (E:=D4) fun c1 us vs i1 st1 r1 p1=>back st1 (aL2 i1 r1.1 p1)
  induction b using BI.casesOn<;>first
   | exact Calls.callWith_builtin hplain (pQ hs hw)
   | exact RI hplain (pQ hs hw)
 | _=>exact nn hc
theorem Ju {v:PySem.Expr} {x:Str} {pos:Pos} {ir:E} (hc:cE (m+1) sc (.Attribute v x pos)=some ir) (h:fZ e.G e.k (wp e.G e.k n) ir c.σ Q):Rn e c (eval (.Attribute v x pos) e.env) (RV e) Q:=by
 refine Z5 hc fun IW hc'=>?_
 clear hc
 have tail {R:Value->Shared->Prop} {o:Value} {s1:Shared} (hg:a1s (a1l e.G.prog e.G.w) e.A (getAttr o x true) R D4 s1):a1s (a1l e.G.prog e.G.w) e.A (do standAt pos.atName;let r <-holding [o] (getAttr o x true);letTemporaryGo v o r;pure r) R D4 s1:=
  a1x (a2g (a1x (a2a (a2c hg (fun r s2 h2=>a1x (wpAny_letTemporaryGo (a2e h2))) fun ζ ζ e=>e))))
 rw[arm_eval_Attribute,TQ IW]
 by_cases hx:(x==("is_lazy":Str))=true
 ·rw[if_pos hx] at hc'
  have hx:=eq_of_beq hx
  subst hx
  refine p7 (hc') fun a h1 e_=>?_
  subst e_
  refine a1x (use (B7 h1 ft i (h:(wp e.G e.k n).e a c.σ _)) fun c1 u y i1 st1 r1 p1=>tail ?_)
  refine k8 p1 fun q e1 p1=>?_
  obtain⟨e2,j,hj,r,hp,hq⟩:=HK p1
  refine g9 e1 fun d g1 g2=>?_
  rw[aR g1,vM g2,I9 e2] at r1
  exact back st1 (Ua i1 r1 hj hp hq)
 ·rw[if_neg hx] at hc'
  refine g9 (show Option.bind _ _=some ir from hc') fun a h1 hc=>?_
  refine g9 (hc:Option.bind _ _=some ir) fun j h2 hc=>?_
  have hc:=si hc
  subst hc
  rw[RZ h2] at tail ⊢
  exact a1x (use (B7 h1 ft i (h:(wp e.G e.k n).e a c.σ _)) fun c1 u y i1 st1 r1 p1=>tail (back st1 (aL1 i1 r1 p1)))
theorem aD9 {v:PySem.Expr} {lo hi st:Option PySem.Expr} {p pos:Pos} {ir:E} (hc:cE (m+1) sc (.Subscript v (.Slice lo hi st p) pos)=some ir) (h:fZ e.G e.k (wp e.G e.k n) ir c.σ Q):Rn e c (eval (.Subscript v (.Slice lo hi st p) pos) e.env) (RV e) Q:=by
 refine g9 (hc:Option.bind _ _=some ir) fun a h1 hc=>?_
 refine g9 (hc:Option.bind _ _=some ir) fun lo' h2 hc=>?_
 refine g9 (hc:Option.bind _ _=some ir) fun hi' h3 hc=>?_
 refine g9 (hc:Option.bind _ _=some ir) fun st' h4 hc=>?_
 have hc:=si hc
 subst hc
 exact Subscript_ (use (B7 h1 ft i (h:(wp e.G e.k n).e a c.σ _)) fun c1 u x i1 s1 r1 p1=>wpAny_Slice (use (KZ B7 ft h2 i1 p1) fun c2 u2 x2 i2 s2 r2 p2=>use (KZ B7 ft h3 i2 p2) fun c3 u3 x3 i3 s3 r3 p3=>use (KZ B7 ft h4 i3 p3) fun c4 u4 x4 i4 s4 r4 p4=>
  back (((s1.trans s2).trans s3).trans s4) (aL9 (aF8 _ _ _ _) i4 (r1.step ((s2.trans s3).trans s4)) (RO.step r2 (s3.trans s4)) (RO.step r3 s4) r4 p4)))
include gW
theorem aE1 {x:PySem.Expr} {ir:E} (hc:cE (m+1) sc x=some ir) (h:fZ e.G e.k (wp e.G e.k n) ir c.σ Q):Rn e c (eval x e.env) (RV e) Q:=by
 induction x using PySem.Expr.casesOn with
 | Constant k a b=>
  induction k using PySem.Const.casesOn<;>first |(cases hc;done) |(injection hc with hc;subst hc)
  ·exact wpAny_Constant_none (here (b:=.val .none) i rfl h)
  ·exact wpAny_Constant_bool (U7 i h)
  ·exact wpAny_Constant_int (aY i h)
  ·exact wpAny_Constant_str (nK (b:=V.val (.str _)) i ⟨_,rfl⟩ h)
  ·exact Constant_bytes (nK (b:=V.val (.bytes _)) i ⟨_,rfl⟩ h)
 | Name y pos=>
  obtain⟨ok,⟨j,hj,rfl⟩ |⟨d,hg,rfl⟩⟩:=Uy hc
  ·refine k8 (h:oe _ _) fun u hv h=>?_
   refine g9 hv fun w hv hw=>?_
   exact wpAny_Name (Ue i (ft.nm▸(wL hj).2) (by rw[hv];exact congrArg some hw) fun v r=>here i r h) ((lS _).mp ok)
  ·obtain⟨v,h3,h4⟩:=ft.gx.tab _ _ (ft.tab▸(IL hg).2)
   exact uX i ft hg ok (fun ζ=>.inl h3) fun ζ=>here (b:=.val d) i (Rep.mono i.hp.base h4) h
 | BinOp l o r pos=>
  refine g9 (hc:Option.bind _ _=some ir) fun a h1 hc=>?_
  refine g9 (hc:Option.bind _ _=some ir) fun b h2 hc=>?_
  have hc:=si hc
  subst hc
  exact wpAny_BinOp (use (B7 h1 ft i (h:(wp e.G e.k n).e a c.σ _)) fun c1 u v i1 s1 r1 p1=>use (B7 h2 ft i1 p1) fun c2 w x i2 s2 r2 p2=>back (s1.trans s2) (aL3 i2 (r1.step s2) r2 p2))
 | UnaryOp o x pos=>
  induction o using UnaryOp.casesOn with
  | Not=>
   refine p7 (hc:(cE m sc x).map E.not=some ir) fun a h1 e_=>?_
   subst e_
   exact RK (use (B7 h1 ft i (h:(wp e.G e.k n).e a c.σ _)) fun c1 u v i1 s1 r1 p1=>by
    obtain⟨b,rfl,rfl,hq⟩:=truth r1 p1
    exact not_value (a2h ((U7 i1 hq).trans s1)))
  | USub=>
   refine p7 (hc:(cE m sc x).map E.neg=some ir) fun a h1 e_=>?_
   subst e_
   exact RK (use (B7 h1 ft i (h:(wp e.G e.k n).e a c.σ _)) fun c1 u v i1 s1 r1 p1=>by
    refine k8 p1 fun y e1 p1=>?_
    obtain⟨t,rfl⟩:=fK r1 e1
    exact PySem.P.neg_int ((aY i1 p1).trans s1))
  | _=>exact nn hc
 | BoolOp o vs pos=>
  obtain⟨l,h1,rfl⟩:=UC hc
  rw[arm_eval_BoolOp]
  exact HG B7 ft h1 i (by induction o using PySem.BoolOp.casesOn<;>exact h)
 | Compare l ops cs pos=>
  obtain⟨g1,g2,a,l',h1,h2,rfl⟩:=UU hc
  rw[arm_eval_Compare,OZ _ _ _ g2]
  exact a1x (use (B7 h1 ft i (h:(wp e.G e.k n).e a c.σ _)) fun c1 u v i1 s1 r1 p1=>back s1 (Ls B7 ft g1 h2 i1 r1 p1))
 | IfExp t b o pos=>
  obtain⟨a1,a2,a3,h1,h2,h3,rfl⟩:=XU hc
  exact wpAny_IfExp (use (gW h1 ft i (h:(wp e.G e.k n).t a1 c.σ _)) fun c1 u v i1 s1 r1 p1=>by
   subst r1
   induction u using Bool.casesOn with
   | true=>exact back s1 (B7 h2 ft i1 p1)
   | false=>exact back s1 (B7 h3 ft i1 p1))
 | Tuple es q pos=>
  refine Z5 hc fun hs hc=>?_
  refine p7 hc fun l h1 e_=>?_
  subst e_
  exact PySem.wpAny_Tuple (use (rG B7 ft h1 (x9 hs).1 i (h:aC _ l c.σ _)) fun c1 us vs i1 s1 r1 p1=>by
   have hz:vs.length<=d9:=by rw[r1.2,aE];have:=of_decide_eq_true (x9 hs).2;lia
   exact⟨iA hz,(Vf (tk:=c1.s.toks) i1 r1.1 hz p1).trans s1⟩)
 | List es pos=>
  refine Z5 hc fun hs hc=>?_
  refine p7 hc fun l h1 e_=>?_
  subst e_
  exact PySem.wpAny_List (use (rG B7 ft h1 (x9 hs).1 i (h:aC _ l c.σ _)) fun c1 us vs i1 s1 r1 p1=>by
   have hz:vs.toArray.size<=d9:=by show vs.length<=d9;rw[r1.2,aE];have:=of_decide_eq_true (x9 hs).2;lia
   exact⟨iA hz,(qL (tk:=c1.s.toks) i1 (F5 _) (L8 _) (aH _ rfl) hz r1.1 p1).trans s1⟩)
 | Dict ks vs pos=>
  refine Z5 hc fun hs hc=>?_
  refine g9 (hc:Option.bind _ _=some ir) fun kl h1 hc=>?_
  refine g9 (hc:Option.bind _ _=some ir) fun vl h2 hc=>?_
  have hc:=si hc
  subst hc
  exact Nl B7 ft h1 h2 (eq_of_beq (x9 hs).1) (of_decide_eq_true (x9 hs).2) i h
 | Subscript v sl pos=>
  by_cases hz:∃ a b c d,sl=.Slice a b c d
  ·obtain⟨_,_,_,_,rfl⟩:=hz
   exact aD9 B7 ft i hc h
  ·obtain⟨hs,hk⟩:=Dz fun a b c d z=>hz ⟨a,b,c,d,z⟩
   obtain⟨a,b,h1,h2,rfl⟩:=hk hc
   exact Subscript_ (use (B7 h1 ft i (h:(wp e.G e.k n).e a c.σ _)) fun c1 u x i1 s1 r1 p1=>use (B7 h2 ft i1 p1) fun c2 w y i2 s2 r2 p2=>back (s1.trans s2) (aL4 hs i2 (r1.step s2) r2 p2))
 | Attribute v x pos=>exact Ju B7 ft i hc h
 | ListComp elt gens scope pos=>
  rw[arm_eval_ListComp]
  refine UX B7 gW ft hc i h (CS:=none) fun s' C D ⟨c',u,hs',i',st',⟨r',f'⟩,q'⟩ hC hs0=>?_
  subst hs'
  obtain⟨mC,IV⟩:=hC
  exact⟨mC,IV,fun h' hs=>⟨_,u,rfl,i'.offs (s:={c'.s with heap:=h'}) (·=C) (fun b z=>z▸f') fun b o z g=>(hs.2 b z).trans g,st'.wJ (tk:=c'.s.toks) fun b o hb g=>(hs.2 b fun z=>hb (z▸hs0)).trans g,r'.at,q'⟩⟩
 | Call f as ks pos=>
  refine Z5 hc fun hd hc1=>?_
  clear hc
  refine x8 hd fun hd hlen=>?_
  refine x8 hd fun hks hs=>?_
  clear hd
  have hks:=PX.mp hks
  subst hks
  induction f using PySem.Expr.casesOn with
  | Name x p=>
   refine Z5 hc1 fun ok hc2=>?_
   refine g9 (hc2:Option.bind _ _=some ir) fun l h1 hc2=>?_
   exact Lp B7 ft i ok h1 hs hc2 h
  | Attribute o x apos=>
   refine Z5 hc1 fun hd hc2=>?_
   refine g9 (hc2:Option.bind _ _=some ir) fun io h1 hc2=>?_
   refine g9 (hc2:Option.bind _ _=some ir) fun mt h2 hc2=>?_
   refine g9 (hc2:Option.bind _ _=some ir) fun l h3 hc2=>?_
   have hc2:=si hc2
   subst hc2
   exact Us B7 ft h1 h2 h3 hs (of_decide_eq_true hlen) (x9 hd).2 (x9 hd).1 i h
  | _=>exact nn hc1
 | _=>exact nn hc
end
end
section
variable {e:Ev} {c c' c1:Cx}
noncomputable def Zh (x:PySem.Expr):Bool:=match x with | .UnaryOp .Not _ _=>false | .BoolOp ..=>false | .IfExp ..=>false | .Compare ..=>false | _=>true
noncomputable def kI (x:E):Bool:=match x with | .not _=>false | .and _=>false | .or _=>false | .cmp ..=>false | .ite ..=>false | _=>true
theorem Gb {W:Wp} {x:E} {σ:St} {Q:Bool->St->Prop} (p:kI x=true) (h:DC W x σ Q):W.e x σ fun v σ'=>x7 v σ' Q:=by
 induction x using E.casesOn<;>first | exact h | exact ft p
theorem Bs {m:Nat} {sc:Sc} {x:PySem.Expr} {ir:E} (hc:cE (m+1) sc x=some ir) (hx:Zh x=true):kI ir=true:=by
 have mp {α:Type} {o:Option α} {f:α->E} (h:o.map f=some ir) (k:∀ a,kI (f a)=true):kI ir=true:=by obtain⟨a,_,e⟩:=map_some h;exact e▸k a
 have bn {α:Type} {o:Option α} {f:α->Option E} (h:o.bind f=some ir) (k:∀ a,f a=some ir->kI ir=true):kI ir=true:=by obtain⟨a,_,e⟩:=bind_some h;exact k a e
 have fi {y:E} (h:some y=some ir) (p:kI y=true):kI ir=true:=si h▸p
 induction x using PySem.Expr.casesOn with
 | UnaryOp o x pos=>
  induction o using UnaryOp.casesOn with
  | USub=>exact mp hc fun ζ=>rfl
  | Not=>exact ft hx
  | _=>exact nn hc
 | BoolOp o vs pos=>exact ft hx
 | IfExp t b o pos=>exact ft hx
 | Compare l ops cs pos=>exact ft hx
 | Constant k a b=>induction k using PySem.Const.casesOn<;>first | exact nn hc | exact fi hc rfl
 | Name y pos=>
  have h1:=(cB hc).2
  cases q:S6 sc y with
  | some i=>rw[q] at h1;exact fi h1 rfl
  | none=>
   rw[q] at h1
   cases q:M7 sc y with
   | none=>rw[q] at h1;exact nn h1
   | some g=>rw[q] at h1;induction g using GV.casesOn<;>first | exact nn h1 | exact fi h1 rfl
 | BinOp l o r pos=>exact bn hc fun ζ h=>bn h fun ζ h=>fi h rfl
 | Tuple es q pos=>exact mp (cB hc).2 fun ζ=>rfl
 | List es pos=>exact mp (cB hc).2 fun ζ=>rfl
 | Dict ks vs pos=>exact bn (cB hc).2 fun ζ h=>bn h fun ζ h=>fi h rfl
 | Subscript v sl pos=>
  by_cases hz:∃ a b c d,sl=.Slice a b c d
  ·obtain⟨_,_,_,_,rfl⟩:=hz
   exact bn hc fun ζ h=>bn h fun ζ h=>bn h fun ζ h=>bn h fun ζ h=>fi h rfl
  ·obtain⟨a,b,_,_,e⟩:=(Dz fun a b c d z=>hz ⟨a,b,c,d,z⟩).2 hc
   rw[e];rfl
 | Attribute v x pos=>
  have h1:=(cB hc).2
  by_cases hx:(x==("is_lazy":Str))=true
  ·rw[if_pos hx] at h1
   exact mp h1 fun ζ=>rfl
  ·rw[if_neg hx] at h1
   exact bn h1 fun ζ h=>bn h fun ζ h=>fi h rfl
 | ListComp elt gens scope pos=>obtain⟨_,_,_,_,_,_,_,_,_,_,_,_,_,_,_,_,_,_,_,e⟩:=UW hc;rw[e];rfl
 | Call f as ks pos=>
  have h1:=(cB hc).2
  induction f using PySem.Expr.casesOn with
  | Name x p=>
   refine bn (cB h1).2 fun ζ h=>?_
   cases q:M7 sc x with
   | none=>rw[q] at h;exact nn h
   | some g=>rw[q] at h;induction g using GV.casesOn<;>first | exact nn h | exact fi h rfl
  | Attribute o x apos=>exact bn (cB h1).2 fun ζ h=>bn h fun ζ h=>bn h fun ζ h=>fi h rfl
  | _=>exact nn h1
 | _=>exact nn hc
theorem aE2 {n m:Nat} {sc:Sc} (B7:aF n) (gW:cQ n) (ft:Fits e sc) (i:Inv e c) {x:PySem.Expr} {ir:E} {Q:Bool->St->Prop} (hc:cE (m+1) sc x=some ir) (h:DC (wp e.G e.k n) ir c.σ Q):Rn e c (isTrue x e.env (eval x e.env)) nY Q:=by
 have value (h:(wp e.G e.k n).e ir c.σ fun v σ'=>x7 v σ' Q) (he:isTrue x e.env (eval x e.env)=(do let v <-eval x e.env;standAt x.pos;holding [v] (truthy v))):Rn e c (isTrue x e.env (eval x e.env)) nY Q:=
  wpAny_isTrue_value (use (B7 hc ft i h) fun c1 u v i1 st1 r1 p1=>by
   obtain⟨b,rfl,rfl,hq⟩:=truth r1 p1
   exact a2h ((here i1 rfl hq).trans st1)) he
 induction x using PySem.Expr.casesOn with
 | UnaryOp o x pos=>
  induction o using UnaryOp.casesOn with
  | Not=>
   refine p7 (hc:(cE m sc x).map E.not=some ir) fun a h1 e_=>?_
   subst e_
   exact wpAny_isTrue_Not (use (gW h1 ft i (h:(wp e.G e.k n).t a c.σ _)) fun c1 u v i1 st1 r1 p1=>by subst r1;exact(here i1 rfl p1).trans st1)
  | _=>exact value (Gb (Bs hc rfl) h) rfl
 | BoolOp o vs pos=>
  obtain⟨l,h1,rfl⟩:=UC hc
  exact wpAny_isTrue_BoolOp (FZ gW ft h1 i (by induction o using PySem.BoolOp.casesOn<;>exact h))
 | IfExp t b o pos=>
  obtain⟨a1,a2,a3,h1,h2,h3,rfl⟩:=XU hc
  show Rn e c (do if <-isTrue t e.env (eval t e.env) then isTrue b e.env (eval b e.env) else isTrue o e.env (eval o e.env)) _ _
  exact a1x (use (gW h1 ft i (h:(wp e.G e.k n).t a1 c.σ _)) fun c1 u v i1 s1 r1 p1=>by
   subst r1
   induction u using Bool.casesOn with
   | true=>exact back s1 (gW h2 ft i1 p1)
   | false=>exact back s1 (gW h3 ft i1 p1))
 | Compare l ops cs pos=>
  obtain⟨g1,g2,a,l',h1,h2,rfl⟩:=UU hc
  rw[arm_isTrue_Compare,OZ _ _ _ g2]
  exact a1x (use (B7 h1 ft i (h:(wp e.G e.k n).e a c.σ _)) fun c1 u v i1 s1 r1 p1=>back s1 (aI1 B7 ft g1 h2 i1 r1 p1))
 | _=>exact value (Gb (Bs hc rfl) h) rfl
theorem sound:∀ n,aF n/\cQ n:=by
 intro b7
 induction b7 with
 | zero=>exact⟨fun ζ ζ ζ h=>(show False by with_unfolding_all exact h).elim,fun ζ ζ ζ h=>(show False by with_unfolding_all exact h).elim⟩
 | succ n ih=>exact⟨fun{m e sc x ir c Q} hc ft i h=>by
   rw[wQ] at h
   induction m using Nat.casesOn with
   | zero=>exact nn hc
   | succ m=>exact aE1 (ih).1 (ih).2 ft i hc h,fun{m e sc x ir c Q} hc ft i h=>by
   rw[wQ] at h
   induction m using Nat.casesOn with
   | zero=>exact nn hc
   | succ m=>exact aE2 (ih).1 (ih).2 ft i hc h⟩
end
section
variable {G:Gd} {e:Ev} {c c' c1:Cx}
section
variable {A:Around} {s:Shared}
noncomputable def Comes (G:Gd) (F₀:HM) (h h2:Heap) (v:Value) (d:D):Prop:=
 ∀ F:HM,(∀ a o,F₀ a=some o->F a=some o)->(∀ a,h.get? a=none->F a=none)->(∀ a o,F a=some o->h2.get? a=some o)->
  ∃ F',(∀ a o,F a=some o->F' a=some o)/\(∀ a,F' a≠none->F a≠none∨h.get? a=none)/\(∀ a o,F' a=some o->h2.get? a=some o)/\Rep G F' d v
structure wW (G:Gd) (A:Around) (target:PySem.Expr) (wr:List Addr) (I:Addr) (ds:List D) (F₀:HM) (St:Nat->Heap->Prop):Prop where
 frame:∀ j h h',St j h->(∀ b∈wr,∀ o,h.get? b=some o->h'.get? b=some o)->(∀ a o,F₀ a=some o->h.get? a=some o/\h'.get? a=some o)->St j h'
 live:∀ j h,St j h->∀ b∈wr,∃ o,h.get? b=some o
 next:∀(j:Nat) (s:Shared) (C:Value->Shared->Prop) (E:Value->Shared->Prop) (d:D),ds[j]?=some d->St j s.heap->(∀ a o,F₀ a=some o->s.heap.get? a=some o)->
  (∀ v h2 tk,(∀ b o,b∉wr->s.heap.get? b=some o->h2.get? b=some o)->St (j+1) h2->Comes G F₀ s.heap h2 v d->C v {s with heap:=h2,toks:=tk})->
  a1s (a1l G.prog G.w) A (pyNext (.ref I)) (fun r s1=>∃ v,r=some v/\a1s (a1l G.prog G.w) A (a1i target (.ref I) v) (fun ζ s2=>C v s2) E s1) E s
 done:∀(s:Shared) (C:Shared->Prop) (E:Value->Shared->Prop),St ds.length s.heap->(∀ a o,F₀ a=some o->s.heap.get? a=some o)->
  (∀ h2 tk,(∀ b o,b∉wr->s.heap.get? b=some o->h2.get? b=some o)->C {s with heap:=h2,toks:=tk})->
  a1s (a1l G.prog G.w) A (pyNext (.ref I)) (fun r s1=>r=none/\C s1) E s
theorem Pq {I ax:Addr} {vs:Array Value} {ds:List D} {F₀:HM} {St:Nat->Heap->Prop} {oa:Obj} {target:PySem.Expr} (x:rZ G A I ax vs St) (hax:F₀ ax=some oa) (r:t9 G F₀ ds vs.toList):wW G A target [I] I ds F₀ St where
 frame:=fun j h h' st hw hF=>x.W.frame _ _ _ st fun b hb o g=>by
  rcases v5.mp hb with rfl | hb
  ·exact hw b f9 o g
  ·rw[j5.mp hb] at g ⊢
   obtain⟨p,q⟩:=hF _ _ hax
   rw[p] at g;injection g with g;exact g▸q
 live:=fun j h st b hb=>by
  refine(j5.mp hb)▸?_
  obtain⟨o,g,_⟩:=x.cls j h st
  exact⟨o,g⟩
 next:=fun j s C E d hd st hF h=>by
  have hlen:ds.length=vs.size:=(reps.mp r).len
  have hj:j<vs.size:=hlen▸O0 hd
  refine x.W.item j _ _ _ hj st fun v h1 dZ hv st1 hk1=>⟨v,rfl,YW (x.cls _ _ st1) (h v h1 dZ hk1 st1 fun F g1 g2 g3=>⟨F,fun ζ ζ h=>h,fun ζ h=>.inl h,g3,?_⟩)⟩
  obtain⟨y,e1,e2⟩:=(reps.mp r).get hd
  have e1:vs[j]?=some y:=(eV ..).symm.trans e1
  rw[hv] at e1;injection e1 with e1
  exact e1▸Rep.mono g1 e2
 done:=fun s C E st hF h=>x.W.done _ _ _ ((show ds.length=vs.size from(reps.mp r).len)▸st) fun h1 dZ hk1=>⟨rfl,h h1 dZ hk1⟩
theorem Pp (hh:A.handled=none) {I:Addr} {n:Nat} {F₀:HM} {target:PySem.Expr} :
  wW G A target [I] I ((List.range n).map fun i=>D.int (i:Nat)) F₀ (fun i h=>IsRangeIter h I (0+(i:Nat)*1) ((n:Int)-(i:Nat)) 1) where
 frame:=fun j h h' st hw hF=>hw I f9 _ st
 live:=fun j h st b hb=>by rw[j5.mp hb];exact⟨_,st⟩
 next:=fun j s C E d hd st hF h=>by
  have hj:j<n:=by have:=O0 hd;rwa [i9,xW] at this
  refine(OY (prog:=G.prog) (w:=G.w) (A:=A) hh I 0 1 n).item j _ _ _ hj st fun v h1 dZ hv st1 hk1=>⟨v,rfl,?_⟩
  obtain⟨t,rfl⟩:=hv
  refine YX st1 (fun T hT=>by injection hT with hT;subst hT;decide +kernel) (h _ h1 dZ hk1 st1 fun F g1 g2 g3=>⟨F,fun ζ ζ h=>h,fun ζ h=>.inl h,g3,?_⟩)
  rw[bR,List.getElem?_range hj] at hd
  injection hd with hd
  have e:(0+(j:Int)*1)=(j:Int):=by lia
  rw[e,<-hd]
  exact⟨t,rfl⟩
 done:=fun s C E st hF h=>(OY (prog:=G.prog) (w:=G.w) (A:=A) hh I 0 1 n).done _ _ _ (by rw[i9,xW] at st;exact st) fun h1 dZ hk1=>⟨rfl,h h1 dZ hk1⟩
theorem Po (hh:A.handled=none) {b it l:Addr} {vs:Array Value} {ds:List D} {F₀:HM} {kk:Nat} {es:List PySem.Expr} {x1:Nat} {pos:Pos} (hl:F₀ l=some (K5 vs kk)) (hb:F₀ b=none) (hit:F₀ it=none) (hbi:b≠it) (r:t9 G F₀ ds vs.toList) :
  wW G A (.Tuple es x1 pos) [b,it] b (numbered ds) F₀ (fun i h=>(∃ old,IsEnum h b it ((i:Nat):Int) old)/\h.IsListIter it l i/\h.get? l=some (K5 vs kk)) where
 frame:=fun j h h' ⟨⟨old,a⟩,q,p⟩ hw hF=>⟨⟨old,hw b f9 _ a⟩,q.at fun o x=>hw it (l6 _ f9) o x,(hF _ _ hl).2⟩
 live:=fun j h Ym y hy=>by
  obtain⟨⟨old,a⟩,⟨o,q,_⟩,_⟩:=Ym
  rcases v5.mp hy with rfl | hy
  ·exact⟨_,a⟩
  ·exact(j5.mp hy)▸(⟨o,q⟩)
 next:=fun j s C E d hd st hF h=>by
  have hlen:ds.length=vs.size:=(reps.mp r).len
  have hlb:l∉[b,it]:=fun z=>by
   rcases v5.mp z with z | z
   ·exact E6 (z▸hb) hl
   ·exact E6 (j5.mp z▸hit) hl
  obtain⟨⟨old,a⟩,q,p⟩:=st
  have hdl:j<ds.length:=by have:=O0 hd;unfold numbered at this;rwa [i9,PZ] at this
  have hj:j<vs.size:=hlen▸hdl
  refine wpAny_pyNext_enum_item a q (G7 p) (x:=vs[j]) (lR hj) hbi fun h1 ho Rj hT hz hk=>⟨_,rfl,?_⟩
  refine wpAny_letOwnedTupleGo_enum ho fun h2 Ra hs2=>?_
  have hs2:Heap.SameBut b h1 h2:=hs2
  have IQ:s.heap.objs.size≠b:=FN (DU a)
  have hT2:h2.get? s.heap.objs.size=some (eE #[.int j s.toks,vs[j]] 0):=by rw[hs2.2 _ IQ];exact hT
  have kept:∀ y o,y∉[b,it]->s.heap.get? y=some o->h2.get? y=some o:=fun y o hy g=>by
   have XT:y≠b:=fun z=>hy (z▸f9)
   exact(hs2.2 y XT)▸(hk y o XT (fun z=>hy (z▸l6 _ f9)) g)
  refine h _ h2 (s.toks+1) kept ⟨⟨_,by push_cast;exact Ra⟩,Rj.extBut hs2.extBut (U4 hbi),kept l _ hlb p⟩ fun F g1 g2 g3=>?_
  have XD:F s.heap.objs.size=none:=g2 _ (L8 _)
  refine⟨W5 F s.heap.objs.size (eE #[.int j s.toks,vs[j]] 0),aO XD,fun y hy=>(yO hy).imp id fun z=>by rw[z];exact L8 _,fun y o g=>(FY g).elim (fun z=>by rw[z.1,z.2];exact hT2) (g3 y o),?_⟩
  unfold numbered at hd
  rw[bR,List.getElem?_zipIdx,P5 hdl] at hd
  injection hd with hd
  subst hd
  refine⟨_,_,0,rfl,fE,by rw[aE];show 2<=1000000;decide,_,_,rfl,⟨s.toks,by rw[W4]⟩,_,_,rfl,?_,rfl⟩
  obtain⟨u,u1,u2⟩:=(reps.mp r).get (P5 hdl)
  have u1:vs[j]?=some u:=(eV ..).symm.trans u1
  rw[lR hj] at u1
  injection u1 with u1
  refine u1▸?_
  exact Rep.mono (fun a o h=>aO XD _ _ (g1 _ _ h)) u2
 done:=fun s C E st hF h=>by
  have hlen:(numbered ds).length=vs.size:=by unfold numbered;rw[i9,PZ];exact(reps.mp r).len
  obtain⟨⟨old,a⟩,q,p⟩:=st
  exact wpAny_pyNext_enum_end hh a q (G7 p) (Array.getElem?_eq_none (I0 hlen.symm)) fun h1 hx=>⟨rfl,h h1 s.toks fun y o hy g=>hx y o (fun z=>hy (z▸l6 _ f9)) g⟩
end
end
section
variable {G:Gd} {e:Ev} {c c' c1:Cx}
noncomputable def OG (e:Ev) (c:Cx) (fl:Fl) (f:Flow):Prop:=Fl.casesOn fl (f=.next) fun u=>∃ v,f=.ret v/\i0 e.G c u v
noncomputable def sC (n:Nat):Prop:=∀{m:Nat} {e:Ev} {sc:Sc} {ss:List Stmt} {l:List S} {c:Cx} {Q:Fl->St->Prop},ss.mapM (cS m sc)=some l->Fits e sc->Inv e c->(wp e.G e.k n).x l c.σ Q->a1s (a1l e.G.prog e.G.w) e.A (execs ss e.env) (Y6 e (own e.env) c (OG e) Q) D4 c.s
noncomputable abbrev gC (e:Ev) (c:Cx) (Q:Fl->St->Prop):Result->Shared->Prop:=fun r s'=>∃ f,r=.ok f/\Y6 e (own e.env) c (OG e) Q f s'
section
variable {n m:Nat} {sc:Sc} (iT:cQ n) (iX:sC n) (ft:Fits e sc) {body:List Stmt} {bl rest:List S} (hb:body.mapM (cS m sc)=some bl) {Q:Fl->St->Prop}
include iX ft hb
theorem IA {target:PySem.Expr} {t:Tg} (ht:P6 sc target=some t) {wr:List Addr} {I:Addr} {ds:List D} {St:Nat->Heap->Prop} (x:wW e.G e.A target wr I ds c.F St) (i:Inv e c) {h1:Heap} {tk:Nat} (hk:∀ b o,c.h.get? b=some o->h1.get? b=some o) (st:St 0 h1) (free:∀ b∈wr,c.h.get? b=none)
  (h:fo (wp e.G e.k n) t bl rest Q ds c.σ):eU (a1l e.G.prog e.G.w) e.A (.forLoop target (.ref I) body [] e.env) (gC e c (l8 (wp e.G e.k n) rest Q)) {c.s with heap:=h1,toks:=tk}:=by
 obtain⟨fs,J,j0,j1,j2⟩:=h
 refine codeAny_forLoop_any (fun p s'=>∃ j c',p=ds.length+1-j/\j<=ds.length/\c'.s=s'/\Inv e c'/\Step (own e.env) c c'/\J (ds.drop j) c'.σ/\St j c'.h/\∀ b∈wr,Off e c' b) ?_ (ds.length+1)
  ⟨0,⟨c.F,c.r,c.σ.forget fs,{c.s with heap:=h1,toks:=tk}⟩,rfl,v7 _,rfl,Inv.less (c:=c.at {c.s with heap:=h1,toks:=tk}) (i.keeps (s:={c.s with heap:=h1,toks:=tk}) hk) fun j u h=>(gO fs h).1,(Step.keeps (c:=c) (fr:=own e.env) hk).vars,j0,st,fun b hb=>i.off (free b hb)⟩
 rintro p s2 ⟨j,c2,rfl,hj,rfl,i2,T2,hJ,st2,off2⟩
 have Dw:∀ a o,c.F a=some o->c2.h.get? a=some o:=fun a o h=>i2.hp.sub _ _ (T2.grow _ _ h)
 by_cases hlt:j<ds.length
 ·rw[xT hlt] at hJ
  refine a2c (x.next j c2.s (fun v s3=>a1s (a1l e.G.prog e.G.w) e.A (assign target e.env v) (fun ζ s₂=>a1s (a1l e.G.prog e.G.w) e.A (execs body e.env) (fun f s₃=>match f with
      | .next | .cont=>∃ m,m<ds.length+1-j/\∃ j c',m=ds.length+1-j/\j<=ds.length/\c'.s=s₃/\Inv e c'/\Step (own e.env) c c'/\J (ds.drop j) c'.σ/\St j c'.h/\∀ b∈wr,Off e c' b
      | .brk=>gC e c (l8 (wp e.G e.k n) rest Q) (.ok .next) s₃
      | .ret v=>gC e c (l8 (wp e.G e.k n) rest Q) (.ok (.ret v)) s₃) (notedBy (a1l e.G.prog e.G.w) e.A e.env fun x s'=>gC e c (l8 (wp e.G e.k n) rest Q) (.error x) s') s₂)
      (notedBy (a1l e.G.prog e.G.w) e.A e.env fun x s'=>gC e c (l8 (wp e.G e.k n) rest Q) (.error x) s') s3) _ _ (P5 hlt) st2 Dw fun v h2 M3 hk2 st3 Qy=>?_) (fun r s3 hh=>?_) fun ζ ζ h=>h
  ·obtain⟨F3,g1,g2,g3,rv⟩:=Qy c2.F T2.grow (fun a h=>i2.hp.free h) fun a o h=>hk2 a o (fun w=>E6 (off2 a w).1 h) (i2.hp.sub a o h)
   have i3:Inv e ⟨F3,c2.r,c2.σ,{c2.s with heap:=h2,toks:=M3}⟩:=i2.near (s':={c2.s with heap:=h2,toks:=M3}) (fun b=>b∈wr∨c2.h.get? b=none) (fun b hb=>hb.elim (off2 b) i2.off) g1 g3 (fun a q=>(g2 a q).imp id .inr) fun b o hb h=>hk2 b o (fun w=>hb (.inl w)) h
   have T3:Step (own e.env) c ⟨F3,c2.r,c2.σ,{c2.s with heap:=h2,toks:=M3}⟩:=T2.more ⟨_,_,rfl⟩ ⟨g1,fun ζ ζ=>rfl,g7 _⟩ (fun b o hn h=>hk2 b o (fun w=>hn (free b w)) h) (fun b h=>(g2 b h).imp id T2.back) fun ζ=>below
   have KU (b:Addr) (hb:b∈wr):Off e ⟨F3,c2.r,c2.σ,{c2.s with heap:=h2,toks:=M3}⟩ b:=⟨none_of fun q=>(g2 b q).elim (fun w=>w (off2 b hb).1) fun w=>let ⟨o,g⟩:=x.live _ _ st2 b hb;E6 w g,(off2 b hb).2⟩
   refine use (c:=⟨F3,c2.r,c2.σ,{c2.s with heap:=h2,toks:=M3}⟩) (CQ (fr:=own e.env) (u:=.val ds[j]) ft ht (fun z ζ=>wI e.env z) i3 rv (j1 _ _ _ hJ T2.len)) fun c4 ζ ζ i4 T4 ζ q4=>use (iX hb ft i4 q4) fun c5 fl f i5 T5 r5 q5=>?_
   have DJ:=T4.trans T5
   have T:=T3.trans DJ
   induction fl using Fl.casesOn with
   | next=>
    have r5:f=.next:=r5
    subst r5
    obtain⟨c6,hs,i6,T6,J6,o6⟩:=YY i5 T q5
    have AZ (b:Addr) (hb:b∈wr):Off e c5 b:=let ⟨o,g⟩:=x.live _ _ st3 b hb;DJ.off (KU b hb) g
    refine⟨_,RE _ _ (QV hlt),j+1,c6,rfl,hlt,hs,i6,T6,J6,?_,fun b hb=>⟨((o6 b (AZ b hb).2.1).1).trans (AZ b hb).1,(o6 b (AZ b hb).2.1).2,(AZ b hb).2.2⟩⟩
    rw[show c6.h=c5.h from congrArg Shared.heap hs]
    exact x.frame _ h2 _ st3 (fun b hb o h=>DJ.keep b o h (KU b hb).2.2 (KU b hb).2.1) fun a o h=>⟨g3 _ _ (g1 _ _ (T2.grow _ _ h)),i5.hp.sub _ _ (T.grow _ _ h)⟩
   | ret u=>
    obtain⟨v,hf,rv⟩:=r5
    subst hf
    exact⟨_,rfl,c5,.ret u,rfl,i5,T,⟨v,rfl,rv⟩,q5⟩
  ·obtain⟨v,rfl,hc⟩:=hh
   exact hc
 ·have hj':j=ds.length:=FG hj (N7 hlt)
  subst hj'
  rw[ER (g7 _)] at hJ
  refine a2c (x.done c2.s (fun s3=>gC e c (l8 (wp e.G e.k n) rest Q) (.ok .next) s3) _ st2 Dw fun h2 M3 hk2=>?_) (fun r s3 hh=>?_) fun ζ ζ h=>h
  ·exact⟨.next,rfl,c2.at {c2.s with heap:=h2,toks:=M3},.next,rfl,i2.offs (s:={c2.s with heap:=h2,toks:=M3}) (·∈wr) off2 hk2,T2.wJ fun b o hn h=>hk2 b o (fun w=>hn (free b w)) h,rfl,j2 _ hJ T2.len⟩
  ·obtain⟨rfl,hc⟩:=hh
   exact a1z hc
include iT
theorem aK6 {test:PySem.Expr} {te:E} (ht:cE m sc test=some te) (i:Inv e c) (h:wh (wp e.G e.k n) te bl rest c.σ Q):eU (a1l e.G.prog e.G.w) e.A (.whileLoop test body [] e.env) (gC e c (l8 (wp e.G e.k n) rest Q)) c.s:=by
 obtain⟨fs,J,⟨p,h0⟩,hstep⟩:=h
 refine codeAny_whileLoop (fun q s'=>∃ c',c'.s=s'/\Inv e c'/\Step (own e.env) c c'/\J q c'.σ) ?_ p ⟨⟨c.F,c.r,c.σ.forget fs,c.s⟩,rfl,i.less fun j u h=>(gO fs h).1,(Step.refl (c:=c) (fr:=own e.env)).vars,h0⟩
 rintro q s1 ⟨c1,rfl,i1,T1,hJ⟩
 refine use (iT ht ft i1 (hstep q c1.σ hJ T1.len)) fun c2 b v i2 T2 r2 q2=>?_
 subst r2
 have xB:=T1.trans (T2.weak fun b h=>h.elim)
 induction b using Bool.casesOn with
 | false=>exact a1z ⟨.next,rfl,c2,.next,rfl,i2,xB,rfl,q2⟩
 | true=>
  refine use (iX hb ft i2 q2) fun c3 fl f i3 T3 r3 q3=>?_
  have ON:=xB.trans T3
  induction fl using Fl.casesOn with
  | next=>
   have r3:f=.next:=r3
   subst r3
   obtain⟨c4,hs,i4,T4,⟨q',hq',hJ'⟩,_⟩:=YY i3 ON (show Let c.n fs (fun σ''=>∃ m,m<q/\J m σ'') c3.σ from q3)
   exact⟨q',hq',c4,hs,i4,T4,hJ'⟩
  | ret u=>
   obtain⟨v,hf,rv⟩:=r3
   subst hf
   exact⟨_,rfl,c3,.ret u,rfl,i3,ON,⟨v,rfl,rv⟩,q3⟩
end
end
section
variable {G:Gd} {e:Ev} {c c' c1:Cx}
theorem KQ {env:Env} {v t:PySem.Expr} {line:Nat} (ht:∀ x p,t≠.Name x p):swapsWith v (some t) line env=pure false:=by
 induction v using PySem.Expr.casesOn<;>first | rfl |(induction t using PySem.Expr.casesOn<;>first | rfl | exact absurd rfl (ht _ _))
theorem Uz {env:Env} {v:PySem.Expr} {x:Str} {p:Pos} {line:Nat} {sc:Sc} {m:Nat} {ir:E} (h:cE m sc v=some ir):swapsWith v (some (.Name x p)) line env=pure false∨(swapsWith v (some (.Name x p)) line env=pure true/\∃ a b c d,v=.ListComp a b c d):=by
 induction m using Nat.casesOn with
 | zero=>exact nn h
 | succ m=>
 cases v with
 | ListComp a b d q=>
  obtain⟨r,hr⟩:∃ r:Bool,swapsWith (.ListComp a b d q) (some (.Name x p)) line env=pure r:=⟨_,rfl⟩
  induction r using Bool.casesOn with
  | false=>exact .inl hr
  | true=>exact .inr ⟨hr,a,b,d,q,rfl⟩
 | SetComp=>exact nn h
 | DictComp=>exact nn h
 | _=>exact .inl rfl
theorem aF3:∀(kvs:List (Int×Value)) (i:Int),(kvs.any fun kv=>decide (kv.1=i))=((kvs.map (fun ζ=>ζ.1)).idxOf? i).isSome:=by
 intro b7
 induction b7 with
 | nil=>intro _;exact rfl
 | cons a l ih=>
  intro i
  rw[sQ,ih i,N5,sS]
  by_cases h:a.1=i
  ·simp[h]
  ·have:(a.1==i)=false:=by simpa using h
   simp[h,this]
theorem Dv:∀{kvs:List (Int×Value)} {i:Int} {p:Nat} {v:Value},(kvs.map (fun ζ=>ζ.1)).idxOf? i=some p->(kvs.map (fun ζ=>ζ.1)).Nodup->(kvs.map fun kv=>if kv.1=i then(kv.1,v) else kv).map (fun ζ=>ζ.2)=(kvs.map (fun ζ=>ζ.2)).set p v
 | a::l,i,p,v,q,nd=>by
  rw[N5,sS] at q
  rw[N5,H8] at nd
  by_cases h:a.1=i
  ·rw[show(a.1==i)=true from by simpa using h] at q
   have q:=si q
   subst q
   have rest:∀ b∈l,b.1≠i:=fun b hb' z=>nd.1 (by rw[h,<-z];exact List.mem_map_of_mem hb')
   simp only[N5,h,if_true,List.set_cons_zero,Iq,true_and]
   rw[A6]
   exact xY fun b hb'=>by simp[rest b hb']
  ·rw[show(a.1==i)=false from by simpa using h] at q
   refine p7 (show((l.map (fun ζ=>ζ.1)).idxOf? i).map (fun ζ=>ζ+1)=some p from q) fun p' q' e_=>?_
   subst e_
   have:=Dv (v:=v) q' nd.2
   simp only[N5,h,if_false,List.set_cons_succ,this]
theorem aF4 {kvs:List (Int×Value)} {i:Int} {v:Value} {l:List V} {u:V} (nd:(kvs.map (fun ζ=>ζ.1)).Nodup) (r:p9 (i0 G c) l (kvs.map (fun ζ=>ζ.2))) (ru:i0 G c u v) (hl:(kvs.map (fun ζ=>ζ.1)).length<d9) :
  ∃ ks' l',setItem (kvs.map (fun ζ=>ζ.1)) l i u=.dict ks' l'/\(stored kvs i v).map (fun ζ=>ζ.1)=ks'/\p9 (i0 G c) l' ((stored kvs i v).map (fun ζ=>ζ.2))/\ks'.length<=d9:=by
 have key:(stored kvs i v)=if(kvs.any fun kv=>decide (kv.1=i))=true then kvs.map (fun kv=>if kv.1=i then(kv.1,v) else kv) else kvs++[(i,v)]:=rfl
 rw[key,aF3]
 unfold setItem
 cases q:(kvs.map (fun ζ=>ζ.1)).idxOf? i with
 | none=>exact⟨_,_,rfl,by rw[if_neg (by decide),o4];rfl,by rw[if_neg (by decide),o4];exact r.app (.one ru),by rw[o7];exact hl⟩
 | some p=>
  refine⟨_,_,rfl,?_,?_,yI hl⟩
  ·rw[if_pos (show(some p).isSome=true from rfl),A6]
   exact xY fun a ζ=>by by_cases h:a.1=i<;>simp[h]
  ·rw[if_pos (show(some p).isSome=true from rfl),Dv q nd]
   exact r.set p ru
inductive NZ (m:Nat) (sc:Sc) (it:PySem.Expr) (ir:It):Prop
 | e (y:E) (h:cE m sc it=some y) (e1:ir=.e y)
 | range (x:Str) (p:Pos) (a:PySem.Expr) (p2:Pos) (y:E) (e:it=.Call (.Name x p) [a] [] p2) (h1:bJ x=true) (h2:notStar a=true) (h3:cE m sc a=some y) (h4:M7 sc x=some .range) (e1:ir=.range y)
 | enum (x:Str) (p:Pos) (a:PySem.Expr) (p2:Pos) (y:E) (e:it=.Call (.Name x p) [a] [] p2) (h1:bJ x=true) (h2:notStar a=true) (h3:cE m sc a=some y) (h4:M7 sc x=some .enum) (e1:ir=.enum y)
theorem Lj {m:Nat} {sc:Sc} {it:PySem.Expr} {ir:It} (h:UP m sc it=some ir):NZ m sc it ir:=by
 have dflt (h:(cE m sc it).map It.e=some ir):NZ m sc it ir:=by obtain⟨y,h1,h2⟩:=map_some h;exact .e y h1 h2.symm
 induction it using PySem.Expr.casesOn with
 | Call f as ks p2=>
  induction f using PySem.Expr.casesOn with
  | Name x p=>
   induction as using List.casesOn with
   | nil=>exact dflt h
   | cons a as=>
   induction as using List.casesOn with
   | cons _ _=>exact dflt h
   | nil=>
   induction ks using List.casesOn with
   | cons _ _=>exact dflt h
   | nil=>
    have h:YE m sc x a _ (M7 sc x)=some ir:=h
    cases q:M7 sc x with
    | none=>rw[q] at h;exact dflt h
    | some g=>
     rw[q] at h
     induction g using GV.casesOn with
     | range=>
      refine Z5 h fun h1 h=>?_
      refine p7 h fun y h2 h3=>?_
      exact .range x p a p2 y rfl (x9 h1).1 (x9 h1).2 h2 q h3.symm
     | enum=>
      refine Z5 h fun h1 h=>?_
      refine p7 h fun y h2 h3=>?_
      exact .enum x p a p2 y rfl (x9 h1).1 (x9 h1).2 h2 q h3.symm
     | _=>exact dflt h
  | _=>exact dflt h
 | _=>exact dflt h
noncomputable def WM (e:Ev) (R:Flow->Shared->Prop) (r:Result) (s':Shared):Prop:=match r with | .ok f=>R f s' | .error x=>cameBackBy (a1l e.G.prog e.G.w) e.A e.env D4 x s'
section
variable {n m:Nat} {sc:Sc} (iE:aF n) (iX:sC n) (ft:Fits e sc) (i:Inv e c) {body:List Stmt} {bl rest:List S} (hb:body.mapM (cS m sc)=some bl) {target:PySem.Expr} {t:Tg} (ht:P6 sc target=some t) {Q:Fl->St->Prop} {R:Flow->Shared->Prop} {pos:Pos}
 (fin:∀{c1:Cx} {r:Result} {s':Shared},Step I3 c c1->gC e c1 (l8 (wp e.G e.k n) rest Q) r s'->WM e R r s')
include iE iX ft i hb ht fin
theorem Pj {it:PySem.Expr} {y:E} (h1:cE m sc it=some y) (h:CX (wp e.G e.k n) t (.e y) bl rest c.σ Q):a1s (a1l e.G.prog e.G.w) e.A (exec (.For target it body [] pos) e.env) R D4 c.s:=by
 refine a1u (use (iE h1 ft i (h:(wp e.G e.k n).e y c.σ _)) fun c1 u v i1 T1 r1 p1=>?_) (HZ h1)
 obtain⟨F,mu,rd,i2,T2,r2,p2⟩:=nT i1 r1 p1
 refine k8 p2 fun ds e2 p2=>?_
 obtain⟨ax,vs,kk,rfl,hax,hz,jS⟩:=ME r2 e2
 obtain⟨oa,hoa⟩:∃ oa,F ax=some oa:=by rcases hax with h | h<;>exact⟨_,h⟩
 exact zX (bX e) (ax:=ax) (vs:=vs) (kk:=kk) (hax.imp (i2.hp.sub _ _) (i2.hp.sub _ _)) fun o St x st ho=>
  U5 (IA (c:=c1.fr F mu) (tk:=c1.s.toks) iX ft hb ht (Pq x hoa jS) i2 (F5 o) st (fun b hb=>by rw[j5.mp hb];exact L8 _) p2) fun r s' hp=>fin (T1.trans T2) hp
omit iE iX hb ht fin in
theorem called {x:Str} {p1 p2:Pos} {a:PySem.Expr} {T:String} {g:GV} (hg:M7 sc x=some g) (hok:bJ x=true) (hst:notStar a=true) (gv:wX e.G x g->e.G.mg x=none/\e.G.mb x=some (.type T)) {R:Value->Shared->Prop}
  (hw:a1s (a1l e.G.prog e.G.w) e.A (eval a e.env) (fun v s1=>a1s (a1l e.G.prog e.G.w) e.A (call (.type T) [v]) R D4 s1) D4 c.s):a1s (a1l e.G.prog e.G.w) e.A (eval (.Call (.Name x p1) [a] [] p2) e.env) R D4 c.s:=by
 have XR:[a].all notStar=true:=by rw[EN,hst];rfl
 refine a1t (uX i ft hg hok (fun z=>.inr (gv z)) fun ζ=>RI (yU XR) (pQ XR ?_))
 refine(rI hst)▸?_
 exact OR (a2c hw (fun v s1 h1=>OS h1) fun ζ ζ h=>h)
theorem Pn {x:Str} {p p2:Pos} {a:PySem.Expr} {y:E} (h1:cE m sc a=some y) (hg:M7 sc x=some .range) (hok:bJ x=true) (hst:notStar a=true) (h:CX (wp e.G e.k n) t (.range y) bl rest c.σ Q):a1s (a1l e.G.prog e.G.w) e.A (exec (.For target (.Call (.Name x p) [a] [] p2) body [] pos) e.env) R D4 c.s:=by
 refine a1u (called ft i hg hok hst (fun z=>z) (use (iE h1 ft i (h:(wp e.G e.k n).e y c.σ _)) fun c1 u v i1 T1 r1 p1=>?_)) (fun ζ=>rfl)
 obtain⟨nn,e1,⟨hlo,hhi⟩,p1⟩:=vO p1
 obtain⟨tk,rfl⟩:=fK r1 e1
 refine call_range_1 ?_
 have hsize:Builtin.Range.rangeSize 0 nn 1=(nn.toNat:Int):=by rw[rangeSize_nat];simp
 have small:Builtin.Range.small 0 nn 1=true:=by
  unfold Builtin.Range.small
  refine hsize▸?_
  simp only[Builtin.Range.rangeFitsLong,N3,decide_eq_true_eq,bQ]
  refine⟨⟨⟨⟨by lia,by lia⟩,by lia⟩,by lia⟩,.inr ?_⟩
  rw[if_pos (by decide)]
  simp only[N3,decide_eq_true_eq]
  lia
 refine wpAny_pyIter_range (IsRange.new _ _ _ _ _ _ _) small ?_
 refine hsize▸?_
 refine U5 (IA iX ft hb ht (Pp (bX e) (n:=nn.toNat)) i1 (fun b o g=>F5 _ _ _ (F5 _ _ _ g)) ?_ (fun b hb=>?_) p1) fun r s' hp=>fin T1 hp
 ·have:=aH (c1.h.push {cls:=.type "range",data:=.fields #[.int 0 c1.s.toks,.int nn tk,.int 1 (c1.s.toks+1)]}) (o:={cls:=.type "range_iterator",data:=.fields #[rawInt 0,rawInt (nn.toNat:Int),rawInt 1]}) rfl
  simpa using this
 ·refine(j5.mp hb)▸?_
  exact kH (by rw[xG];exact J5 _)
theorem Pk {x:Str} {p p2:Pos} {a:PySem.Expr} {y:E} (h1:cE m sc a=some y) (hg:M7 sc x=some .enum) (hok:bJ x=true) (hst:notStar a=true) (h:CX (wp e.G e.k n) t (.enum y) bl rest c.σ Q):a1s (a1l e.G.prog e.G.w) e.A (exec (.For target (.Call (.Name x p) [a] [] p2) body [] pos) e.env) R D4 c.s:=by
 refine a1u (called ft i hg hok hst (fun z=>z) (use (iE h1 ft i (h:(wp e.G e.k n).e y c.σ _)) fun c1 u v i1 T1 r1 p1=>?_)) (fun ζ=>rfl)
 obtain⟨F,mu,rd,i2,T2,r2,p2⟩:=nT i1 r1 p1
 refine k8 p2 fun ds e2 p2=>?_
 refine K9 p2 fun zQ p2=>?_
 rw[dM e2] at r2
 obtain⟨l,vs,kk,rfl,hl,hz,jS⟩:=r2
 induction target using PySem.Expr.casesOn with
 | Tuple es k3 tp=>
  refine call_enumerate_list (G7 (i2.hp.sub _ _ hl)) fun h' he hit hsz hk=>wpAny_pyIter_enum he ?_
  have f1:c1.h.get? (c1.h.objs.size+1)=none:=kH (J5 _)
  have f0:=L8 c1.h
  exact U5 (IA (c:=c1.fr F mu) (tk:=c1.s.toks) iX ft hb ht (Po (bX e) (it:=c1.h.objs.size) hl (i2.hp.free f1) (i2.hp.free f0) (yL _) jS) i2 hk ⟨⟨.none,he⟩,hit,hk _ _ (i2.hp.sub _ _ hl)⟩ (fun b hb=>by
   rcases v5.mp hb with rfl | hb
   ·exact f1
   ·rw[j5.mp hb];exact f0) p2) fun r s' hp=>fin (T1.trans T2) hp
 | Name z q=>
  refine p7 (ht:(S6 sc z).map Tg.var=some t) fun j ζ e_=>?_
  subst e_
  cases zQ
 | _=>exact nn ht
end
end
section
variable {G:Gd} {e:Ev} {c c' c1:Cx}
section
variable {n m:Nat} {sc:Sc} (iE:aF n) (iT:cQ n) (iX:sC n) (ft:Fits e sc) (i:Inv e c) {rest:List S} {Q:Fl->St->Prop} {R:Flow->Shared->Prop} {pos:Pos}
 (after:∀{c1:Cx},Inv e c1->Step (own e.env) c c1->(wp e.G e.k n).x rest c1.σ Q->R .next c1.s)
include iE ft i after
theorem Jo {t v:PySem.Expr} {tt:Tg} {y:E} (hno:∀{R:Flow->Shared->Prop},a1s (a1l e.G.prog e.G.w) e.A (eval v e.env) (fun v s₁=>a1s (a1l e.G.prog e.G.w) e.A (assign t e.env v) (fun ζ=>R .next) D4 s₁) D4 c.s->a1s (a1l e.G.prog e.G.w) e.A (exec (.Assign [t] v pos) e.env) R D4 c.s)
  (h1:P6 sc t=some tt) (h2:cE m sc v=some y) (h:(wp e.G e.k n).e y c.σ fun v σ'=>C6 tt v σ' fun σ''=>(wp e.G e.k n).x rest σ'' Q):a1s (a1l e.G.prog e.G.w) e.A (exec (.Assign [t] v pos) e.env) R D4 c.s:=
 hno (use (iE h2 ft i h) fun c1 u w i1 T1 r1 p1=>use (CQ (fr:=own e.env) ft h1 (fun z ζ=>wI e.env z) i1 r1 p1) fun c2 ζ ζ i2 T2 ζ q2=>after i2 ((T1.weak fun b h=>h.elim).trans T2) q2)
theorem Jk {o v:PySem.Expr} {x:Str} {p:Pos} {tg:iY} {y:E} (h1:HH m sc (.Attribute o x p)=some tg) (h2:cE m sc v=some y) (h:wpS (wp e.G e.k n) (.asg tg y::rest) Q c.σ):a1s (a1l e.G.prog e.G.w) e.A (exec (.Assign [.Attribute o x p] v pos) e.env) R D4 c.s:=by
 refine g9 (h1:Option.bind _ _=some tg) fun oe h3 h1=>?_
 refine g9 (h1:Option.bind _ _=some tg) fun j h4 h1=>?_
 injection h1 with h1
 subst h1
 refine(RZ h4)▸?_
 exact plainObj_wpAny_Assign_Attribute (use (iE h2 ft i (h:(wp e.G e.k n).e y c.σ _)) fun c1 u w i1 T1 r1 p1=>use (iE h3 ft i1 (p1:(wp e.G e.k n).e oe c1.σ _)) fun c2 u2 w2 i2 T2 r2 p2=>use (aL8 i2 r2 (r1.step T2) p2) fun c3 ζ ζ i3 T3 ζ p3=>after i3 (((T1.trans T2).trans T3).weak fun b h=>h.elim) p3) (KQ nofun)
theorem Jm {o ix v:PySem.Expr} {p:Pos} {tg:iY} {y:E} (h1:HH m sc (.Subscript o ix p)=some tg) (h2:cE m sc v=some y) (h:wpS (wp e.G e.k n) (.asg tg y::rest) Q c.σ):a1s (a1l e.G.prog e.G.w) e.A (exec (.Assign [.Subscript o ix p] v pos) e.env) R D4 c.s:=by
 obtain⟨oe,ie,h3,h4,rfl⟩:∃ oe ie,cE m sc o=some oe/\cE m sc ix=some ie/\tg=.item oe ie:=by
  have key (hc:((cE m sc o).bind fun a=>(cE m sc ix).bind fun b=>some (iY.item a b))=some tg):∃ oe ie,cE m sc o=some oe/\cE m sc ix=some ie/\tg=.item oe ie:=by
   refine g9 hc fun a h1 hc=>?_
   refine g9 hc fun b h2 hc=>?_
   exact⟨a,b,h1,h2,(G0 hc).symm⟩
  induction ix using PySem.Expr.casesOn<;>first | exact key h1 | cases h1
 refine wpAny_Assign_Subscript (use (iE h2 ft i (h:(wp e.G e.k n).e y c.σ _)) fun c1 u w i1 T1 r1 p1=>use (iE h3 ft i1 (p1:(wp e.G e.k n).e oe c1.σ _)) fun c2 u2 w2 i2 T2 r2 p2=>use (iE h4 ft i2 p2) fun c3 u3 w3 i3 T3 r3 p3=>?_) (KQ nofun)
 refine k8 p3 fun j e1 p3=>?_
 refine k8 p3 fun nn e2 p3=>?_
 refine k8 p3 fun q e3 p3=>?_
 refine K9 p3 fun e4 p3=>?_
 rw[AI e1] at r2
 obtain⟨t,rfl⟩:=fK r3 e2
 refine g9 e3 fun mm e5 e6=>?_
 have y:=i3.hp.cell j mm e5
 rw[HS e6] at y
 have hj:=O0 e5
 obtain⟨hF,ob,kvs,b1,d1,d2,f1,g1,g2⟩:=y
 have uH:w2=.ref (c3.r j):=(r2.step T3).1
 subst uH
 have e4:q.1.length<d9:=E0 e4
 rw[<-d2] at e4 p3
 obtain⟨ks',l',s1,s2,s3,s4⟩:=aF4 (i:=nn) (VR d1) (w6.mp f1) ((r1.step T2).step T3) e4
 rw[s1] at p3
 refine wpAny_setItem_pairs (knd:=a1h e.G.prog e.G.w) (k:=nn) (by simp[a1h,Value.isInt]) (gE.mpr ⟨ob,b1,d1⟩:c3.s.heap.DictOf (a1h e.G.prog e.G.w) (c3.r j) kvs) (fun h' D' hs=>?_) (iA (by rw[i9] at e4;exact yI e4))
 obtain⟨o',ho',hd'⟩:=gE.mp D'
 obtain⟨c4,b,Rw,i4,T4,_,q4⟩:=LW (R:=RU) (Q:=fun ζ σ'=>(wp e.G e.k n).x rest σ' Q) (a:=()) (b:=()) (tk:=c3.s.toks+1) (m:=.dict ks' l') i3 hj hF (fun b hb=>hs.2 b hb) ⟨_,ho'⟩ ⟨hF,o',_,ho',hd',s2,(w6.mpr s3).frame (fun ζ ζ h=>h) (I0 M5.symm),g1,s4⟩ trivial p3
 exact Rw▸after i4 ((((T1.trans T2).trans T3).trans T4).weak fun b h=>h.elim) q4
theorem Jp {es:List PySem.Expr} {kk:Nat} {p:Pos} {v:PySem.Expr} {tt:Tg} {y:E} (hsw:MY (.Tuple es kk p) v=true) (h3:P6 sc (.Tuple es kk p)=some tt) (h2:cE m sc v=some y) (h:(wp e.G e.k n).e y c.σ fun v σ'=>C6 tt v σ' fun σ''=>(wp e.G e.k n).x rest σ'' Q) :
  a1s (a1l e.G.prog e.G.w) e.A (exec (.Assign [.Tuple es kk p] v pos) e.env) R D4 c.s:=by
 obtain⟨r,hr1,hr2⟩:=aG1 (env:=e.env) hsw
 have hns:swapsWithSole [.Tuple es kk p] v pos.line e.env=pure false:=KQ (env:=e.env) (line:=pos.line) (t:=.Tuple es kk p) nofun
 induction r using Option.casesOn with
 | none=>exact Jo iE ft i after (fun hw=>Assign_Tuple hw hns hr1) h3 h2 h
 | some names=>
  obtain⟨f,hf,rfl,hlen⟩:=hr2 names rfl
  refine p7 (h3:(es.mapM (vH sc)).map Tg.tup=some tt) fun is h4 e_=>?_
  subst e_
  refine Assign_Tuple_swapped (use (iE h2 ft i h) fun c1 u w i1 T1 r1 p1=>?_) hns hr1
  refine k8 (p1:oe _ _) fun l el p1=>?_
  refine K9 p1 fun g q1=>?_
  refine x8 g fun g1 g2=>?_
  refine x8 g2 fun g2 g3=>?_
  have g1:=I9 g1
  obtain⟨ax,vs,kk2,rfl,a1,_,a2⟩:=tD i1.hp r1 el
  rw[hlen,ZI h4,g1,show l.length=vs.size from(w6.mp a2).len]
  refine YF (bX e) a1 fun h' tk hk=>?_
  refine use (c:=c1.at {c1.s with heap:=h',toks:=tk}) (VX (fr:=own e.env) (f:=fun n=>bindName e.env n) (l:=l.reverse) ft (fun x ζ j hx=>⟨x,hx,wI e.env x,fun h=>wpAny_bindName h⟩) (Up (Va hf hlen h4)) (by rw[jE,jE];exact g1)
   (fun j hm=>E0 (U1.mp g3 j (List.mem_reverse.mp hm))) (w6.mpr (w6.mp a2).rev).at (i1.keeps hk)) fun c2 ζ ζ i2 T2 ζ q2=>?_
  rw[TZ g1 (ZZ g2)] at q2
  exact after i2 ((T1.weak fun b h=>h.elim).trans ((Step.keeps (c:=c1) hk).trans T2)) (q2▸q1)
theorem Jl {x:Str} {p:Pos} {elt:PySem.Expr} {gens:List Comprehension} {scope:Scope} {q:Pos} {tt:Tg} {y:E} (hyes:swapsWith (.ListComp elt gens scope q) (some (.Name x p)) pos.line e.env=pure true) (h3:P6 sc (.Name x p)=some tt) (h2:cE m sc (.ListComp elt gens scope q)=some y)
  (h:(wp e.G e.k n).e y c.σ fun v σ'=>C6 tt v σ' fun σ''=>(wp e.G e.k n).x rest σ'' Q):a1s (a1l e.G.prog e.G.w) e.A (exec (.Assign [.Name x p] (.ListComp elt gens scope q) pos) e.env) R D4 c.s:=by
 refine(exec_Assign_Name_used _ _ _ _ hyes)▸?_
 refine a1x (a2g (a1x ?_))
 rw[arm_evalThenUse_ListComp]
 induction m using Nat.casesOn with
 | zero=>exact nn h2
 | succ m=>
 induction n using Nat.casesOn with
 | zero=>exact(show False by with_unfolding_all exact h).elim
 | succ n=>
 rw[show(wp e.G e.k (n+1)).e=fZ e.G e.k (wp e.G e.k n) from by rw[wQ]] at h
 refine a1x (UX (sound n).1 (sound n).2 ft h2 i h fun s' C D ⟨c1,u,hs1,i1,T1,⟨r1,f1⟩,q1⟩ hC hs0=>?_)
 subst hs1
 show a1s _ _ (assign (.Name x p) e.env (.ref D)) _ _ c1.s
 refine use (CQ (fr:=own e.env) ft h3 (fun z ζ=>wI e.env z) i1 r1 q1) fun c2 ζ ζ i2 T2 ζ q2=>?_
 obtain⟨mC,o,es,ep,z1,z2⟩:=hC
 have f2:=T2.off f1 z1
 refine⟨mC,⟨o,es,ep,T2.keep C o z1 f1.2.2 f1.2.1,z2⟩,fun h' hs=>a2e (a2e ?_)⟩
 have xB:=(T1.weak (IB:=own e.env) fun b h=>h.elim).trans T2
 exact after (i2.offs (s:={c2.s with heap:=h'}) (·=C) (fun b z=>z▸f2) fun b o z g=>(hs.2 b z).trans g) (xB.wJ (tk:=c2.s.toks) fun b o hb g=>(hs.2 b fun z=>hb (z▸hs0)).trans g) q2
end
end
section
variable {e:Ev} {c:Cx}
theorem aF2 {n m:Nat} {sc:Sc} (iE:aF n) (iT:cQ n) (iX:sC n) (ft:Fits e sc) (i:Inv e c) {st:Stmt} {st':S} {rest:List S} {Q:Fl->St->Prop} {R:Flow->Shared->Prop} (hc:cS (m+1) sc st=some st') (h:wpS (wp e.G e.k n) (st'::rest) Q c.σ)
  (after:∀{c1:Cx},Inv e c1->Step (own e.env) c c1->(wp e.G e.k n).x rest c1.σ Q->R .next c1.s) (ret:∀{c1:Cx} {u:V} {v:Value},Inv e c1->Step (own e.env) c c1->i0 e.G c1 u v->Q (.ret u) c1.σ->R (.ret v) c1.s):a1s (a1l e.G.prog e.G.w) e.A (exec st e.env) R D4 c.s:=by
 have fin {c1:Cx} {r:Result} {s':Shared} (T1:Step I3 c c1) (h:gC e c1 (l8 (wp e.G e.k n) rest Q) r s'):WM e R r s':=by
  obtain⟨f,rfl,c2,fl,rfl,i2,T2,r2,q2⟩:=h
  have T:=(T1.weak fun b h=>h.elim).trans T2
  induction fl using Fl.casesOn with
  | next=>have r2:f=.next:=r2;subst r2;exact after i2 T q2
  | ret u=>obtain⟨v,hf,rv⟩:=r2;subst hf;exact ret i2 T rv q2
 induction st using PySem.Stmt.casesOn with
 | Return x pos=>
  induction x using Option.casesOn with
  | none=>
   have hc:=si hc
   subst hc
   induction n using Nat.casesOn with
   | zero=>exact(show False by with_unfolding_all exact h).elim
   | succ n=>exact wpAny_Return_none (ret (u:=.val .none) i .refl rfl (by
     have h:(wp e.G e.k (n+1)).e (.const .none) c.σ fun v σ'=>Q (.ret v) σ':=h
     rw[wQ] at h;exact h))
  | some x=>
   refine p7 (hc:(cE m sc x).map S.ret=some st') fun y h1 e_=>?_
   subst e_
   exact wpAny_Return_some (use (iE h1 ft i (h:(wp e.G e.k n).e y c.σ _)) fun c1 u v i1 T1 r1 p1=>ret i1 (T1.weak fun b h=>h.elim) r1 p1)
 | Expr v pos=>
  have key:∃ y,cE m sc v=some y/\st'=.expr y:=by
   induction v using PySem.Expr.casesOn with
   | Call f as ks p=>induction f using PySem.Expr.casesOn<;>first |(cases hc;done) |(obtain⟨y,h1,h2⟩:=map_some (hc:(cE m sc _).map S.expr=some st');exact⟨y,h1,h2.symm⟩)
   | _=>exact nn hc
  obtain⟨y,h1,rfl⟩:=key
  refine wpAny_Expr_any (use (iE h1 ft i (h:(wp e.G e.k n).e y c.σ _)) fun c1 u v i1 T1 r1 p1=>after i1 (T1.weak fun b h=>h.elim) p1) (by unfold interactive;rw[e.kind];rfl) ?_
  induction v using PySem.Expr.casesOn with
  | Call f as ks p=>rfl
  | _=>exact nn hc
 | If t b o pos=>
  refine g9 (hc:Option.bind _ _=some st') fun te h1 hc=>?_
  refine g9 (hc:Option.bind _ _=some st') fun bl h2 hc=>?_
  refine g9 (hc:Option.bind _ _=some st') fun ol h3 hc=>?_
  have hc:=si hc
  subst hc
  refine wpAny_If (use (iT h1 ft i (h:(wp e.G e.k n).t te c.σ _)) fun c1 u v i1 T1 r1 p1=>?_)
  subst r1
  have go {ss:List Stmt} {sl:List S} (hsl:ss.mapM (cS m sc)=some sl) (hx:(wp e.G e.k n).x sl c1.σ (l8 (wp e.G e.k n) rest Q)):a1s (a1l e.G.prog e.G.w) e.A (execs ss e.env) R D4 c1.s:=
   a2c (iX hsl ft i1 hx) (fun f s2 hp=>fin T1 ⟨f,rfl,hp⟩) fun ζ ζ h=>h
  induction u using Bool.casesOn with
  | true=>exact go h2 p1
  | false=>exact go h3 p1
 | While t b o pos=>
  induction o using List.casesOn with
  | cons _ _=>exact nn hc
  | nil=>
   refine g9 (hc:Option.bind _ _=some st') fun te h1 hc=>?_
   refine g9 (hc:Option.bind _ _=some st') fun bl h2 hc=>?_
   have hc:=si hc
   subst hc
   exact wpAny_While (U5 (aK6 iT iX ft h2 h1 i h) fun r s2 hp=>fin .refl hp)
 | For t it b o pos=>
  induction o using List.casesOn with
  | cons _ _=>exact nn hc
  | nil=>
   refine g9 (hc:Option.bind _ _=some st') fun tg h2 hc=>?_
   refine g9 (hc:Option.bind _ _=some st') fun itI h1 hc=>?_
   refine g9 (hc:Option.bind _ _=some st') fun bl h3 hc=>?_
   have hc:=si hc
   subst hc
   rcases Lj h1 with⟨y,g1,rfl⟩ |⟨x,p,a,p2,y,rfl,g1,g2,g3,g4,rfl⟩ |⟨x,p,a,p2,y,rfl,g1,g2,g3,g4,rfl⟩
   ·exact Pj iE iX ft i h3 h2 fin g1 h
   ·exact Pn iE iX ft i h3 h2 fin g3 g4 g1 g2 h
   ·exact Pk iE iX ft i h3 h2 fin g3 g4 g1 g2 h
 | Assign ts v pos=>
  induction ts using List.casesOn with
  | nil=>exact nn hc
  | cons t ts=>
  induction ts using List.casesOn with
  | cons _ _=>exact nn hc
  | nil=>
   refine Z5 hc fun hsw hc=>?_
   refine g9 (hc:Option.bind _ _=some st') fun tg h1 hc=>?_
   refine g9 (hc:Option.bind _ _=some st') fun y h2 hc=>?_
   have hc:=si hc
   subst hc
   induction t using PySem.Expr.casesOn with
   | Name x p=>
    refine p7 (h1:(P6 sc (.Name x p)).map iY.t=some tg) fun tt h3 e_=>?_
    subst e_
    rcases Uz (env:=e.env) (x:=x) (p:=p) (line:=pos.line) h2 with hno |⟨hyes,a,b,d,q,rfl⟩
    ·refine p7 (h3:(S6 sc x).map Tg.var=some tt) fun j h4 e_=>?_
     subst e_
     obtain⟨hk,hx⟩:=wL h4
     rw[<-ft.names] at hk
     refine wpAny_Assign_Name (use (iE h2 ft i (h:(wp e.G e.k n).e y c.σ _)) fun c1 u w i1 T1 r1 p1=>?_) hno
     refine K9 p1 fun hj hq=>?_
     exact use (MT (fr:=own e.env) i1 (ft.nm▸hx) hk r1 (E0 hj) (wI e.env x)) fun c2 ζ ζ i2 T2 ζ q2=>after i2 ((T1.weak fun b h=>h.elim).trans T2) (q2▸hq)
    ·exact Jl iE ft i after hyes h3 h2 h
   | Attribute o x p=>exact Jk iE ft i after h1 h2 h
   | Subscript o ix p=>exact Jm iE ft i after h1 h2 h
   | Tuple es kk p=>
    refine p7 (h1:(P6 sc (.Tuple es kk p)).map iY.t=some tg) fun tt h3 e_=>?_
    subst e_
    exact Jp iE ft i after hsw h3 h2 h
   | _=>exact nn h1
 | _=>exact nn hc
theorem aE0 (n:Nat):sC n:=by
 induction n with
 | zero=>intro _ _ _ _ _ _ _ _ _ _ h;exact(show False by with_unfolding_all exact h).elim
 | succ n ih=>
  intro m e sc ss l c Q hc ft i h
  have h:wO (wp e.G e.k n) l c.σ Q:=by rw[wQ] at h;exact h
  unfold wO at h
  rw[rE,rE] at h
  induction ss using List.casesOn with
  | nil=>
   rw[mapM_nil hc] at h
   exact a1z (here (b:=.next) i rfl h)
  | cons st rest=>
   obtain⟨st',rest',h1,h2,rfl⟩:=mapM_cons hc
   induction m using Nat.casesOn with
   | zero=>exact nn h1
   | succ m=>exact wpAny_execs_cons (aF2 (sound n).1 (sound n).2 ih ft i h1 h (fun i1 T1 h1=>back T1 (ih h2 ft i1 h1)) fun i1 T1 r1 q1=>(here (b:=.ret _) i1 ⟨_,rfl,r1⟩ q1).trans T1)
end
section
variable {G:Gd}
structure Gu (K:Frag) (a:Addr) (fd:FuncData) (b:List Stmt) (ps ex:List Str) (nd:Nat):Prop where
 at_:∃ o,K.lookup a=some o/\o.data=.func fd
 body:fd.body=.stmts b
 Lz:fd.closure=[]
 co:fd.scope.isCoroutine=false
 gen:fd.scope.isGenerator=false
 kind:fd.scope.kind=.function
 glob:fd.globals=a1j
 pL:fd.builtins=oO
 code:codeIn K fd.code fd.qualname=true
 nm:ownNames fd.scope.names=ps++ex
 nodup:(ps++ex).Nodup
 bind:∀ vals:List Value,vals.length+nd=ps.length->∀ s:Shared,K.In s.heap->BindsTo s fd ⟨vals,[]⟩ (ps.zip (vals++List.replicate nd Value.none))
 args:∀ p∈ps,fd.scope.names.lookup p=some .local∨fd.scope.names.lookup p=some .cell
noncomputable def DE (K:Frag) (a:Addr) (np nd ne:Nat) (body:List S):Prop:=∃ fd b ps ex,Gu K a fd b ps ex nd/\ps.length=np+nd/\ex.length=ne/\b.mapM (cS 40 ⟨fd.scope.names,ps++ex,lF⟩)=some body
section
variable {k:Nat} {A:Around} {c:Cx}
theorem Lr {x:Str}:∀(names:List (Str×NameKind)) (n:Nat) (acc:List (Str×Addr)),(acc.lookup x).isSome=true->((cellsFrom n names acc).lookup x).isSome=true:=by
 intro b7
 induction b7 with
 | nil=>intro n acc h;exact h
 | cons p_ r IH=>
  obtain⟨y,kd⟩:=p_;intro n acc h
  unfold cellsFrom
  split
  ·refine IH _ _ ?_
   rw[cX]
   split
   ·rfl
   ·exact h
  ·exact IH _ _ h
theorem HJ {x:Str}:∀(names:List (Str×NameKind)) (n:Nat) (acc:List (Str×Addr)),names.lookup x=some .cell->((cellsFrom n names acc).lookup x).isSome=true:=by
 intro b7
 induction b7 with
 | nil=>intro n acc h;exact nn h
 | cons p_ r IH=>
  obtain⟨y,kd⟩:=p_;intro n acc h
  rw[cX] at h
  unfold cellsFrom
  cases hx:x==y with
  | true=>
   rw[hx] at h
   cases h
   rw[if_pos (by rfl)]
   exact Lr r _ _ (by rw[cX,hx];rfl)
  | false=>
   rw[hx] at h
   split
   ·exact IH _ _ h
   ·exact IH _ _ h
theorem Kq {kindOf:Str->Option NameKind} {x:Str}:∀{b:List (Str×Value)} {m:Str->Option Value},x∉b.map (fun ζ=>ζ.1)->bindL kindOf b m x=m x:=by
 intro b7
 induction b7 with
 | nil=>intro m _;exact rfl
 | cons p_ r IH=>
  obtain⟨y,v⟩:=p_;intro m h
  simp only[N5,v5,not_or] at h
  unfold bindL
  refine(IH h.2)▸?_
  split
  ·dsimp only;rw[if_neg h.1]
  ·rfl
theorem Ko {kindOf:Str->Option NameKind} {x:Str}:∀{b:List (Str×Value)} {m:Str->Option Value},x∉b.map (fun ζ=>ζ.1)->bindC kindOf b m x=m x:=by
 intro b7
 induction b7 with
 | nil=>intro m _;exact rfl
 | cons p_ r IH=>
  obtain⟨y,v⟩:=p_;intro m h
  simp only[N5,v5,not_or] at h
  unfold bindC
  refine(IH h.2)▸?_
  split
  ·rfl
  ·dsimp only;rw[if_neg h.1]
theorem TU {kindOf:Str->Option NameKind} {x:Str} {v:Value} (hk:kindOf x=some .local):∀{b:List (Str×Value)} {m:Str->Option Value} (j:Nat),(b.map (fun ζ=>ζ.1)).Nodup->b[j]?=some (x,v)->bindL kindOf b m x=some v
 | [],m,j,_,h=>by exact nn h
 |(y,u)::r,m,0,nd,h=>by
  simp at h
  obtain⟨rfl,rfl⟩:=h
  unfold bindL
  rw[Kq (H8.mp nd).1,if_pos hk]
  simp
 |(y,u)::r,m,j+1,nd,h=>by
  unfold bindL
  exact TU hk j (H8.mp nd).2 (by simpa using h)
theorem TS {kindOf:Str->Option NameKind} {x:Str} {v:Value} (hk:kindOf x=some .cell):∀{b:List (Str×Value)} {m:Str->Option Value} (j:Nat),(b.map (fun ζ=>ζ.1)).Nodup->b[j]?=some (x,v)->bindC kindOf b m x=some v
 | [],m,j,_,h=>by exact nn h
 |(y,u)::r,m,0,nd,h=>by
  simp at h
  obtain⟨rfl,rfl⟩:=h
  unfold bindC
  rw[Ko (H8.mp nd).1,if_neg (by rw[hk];decide)]
  simp
 |(y,u)::r,m,j+1,nd,h=>by
  unfold bindC
  exact TS hk j (H8.mp nd).2 (by simpa using h)
theorem Zz:∀ nd:Nat,o8 G c (List.replicate nd (V.val .none)) (List.replicate nd Value.none):=by
 intro b7
 induction b7 with
 | zero=>exact rfl
 | succ nd ih=>exact⟨_,_,rfl,rfl,ih⟩
theorem call_cells {s:Shared} {R:Result->Shared->Prop} {a:Addr} {o:Obj} {fd:FuncData} {body:List Stmt} {vals:List Value} {binds:List (Str×Value)}
  (hroom:A.depth<recursionLimit) (ho:s.heap.get? a=some o) (hdata:o.data=.func fd) (hlim:s.heap.NoLimit) (hcd:s.heap.CodeRec fd.code fd.qualname)
  (hbody:fd.body=.stmts body) (hbind:BindsTo s fd ⟨vals,[]⟩ binds) (hclo:fd.closure=[])
  (hkind:∀ x∈binds,fd.scope.names.lookup x.1=some .local∨(fd.scope.names.lookup x.1=some .cell/\((cellsFrom (s.heap.objs.size+1) fd.scope.names []).lookup x.1).isSome=true))
  (h:∀ s₁,InCallC s (callEnvC fd s.heap.objs.size a).locals (bindL (callEnvC fd s.heap.objs.size a).kindOf binds fun ζ=>none) (callEnvC fd s.heap.objs.size a).cells
    (bindC (callEnvC fd s.heap.objs.size a).kindOf binds fun ζ=>none) s₁->
   a1s (a1l G.prog G.w) (A.deeper (callEnvC fd s.heap.objs.size a)) (execs body (callEnvC fd s.heap.objs.size a)) (fun f s'=>R (.ok (.ret (match f with | .ret v=>v | _=>.none))) s')
    (fun e s'=>a1s (a1l G.prog G.w) (A.deeper (callEnvC fd s.heap.objs.size a)) (leaving (callEnvC fd s.heap.objs.size a) e) (fun ζ s''=>R (.error e) s'') (fun e' s''=>R (.error e') s'') s') s₁)
  (hco:fd.scope.isCoroutine=false) (hgen:fd.scope.isGenerator=false) (hk:fd.scope.kind=.function) :
  eU (a1l G.prog G.w) A (.call (.ref a) ⟨vals,[]⟩) R s:=by
 refine codeAny_call_function hroom ho hdata hco hgen hbody hcd (hbind _ _ _ _ ?_)
 refine hclo▸?_
 refine wpAny_newFunctionEnv_cells hk hkind fun env he s' x=>?_
 subst he
 exact⟨hlim.keeps x.toInCall.keep,codeAny_func (h s' x)⟩
theorem Pe (gx:GX G) {a:Addr} {np nd ne:Nat} {body:List S} (f:DE G.K a np nd ne body) {args:List V} {mu:List M} {P:V->List M->Prop} (hl:args.length=np)
  (h:∃ n,(wp G k n).x body ⟨(args++List.replicate nd (V.val .none)).map some++List.replicate ne none,mu⟩ (fW P)):C8 G (k+1) (.ref a) args mu P:=by
 intro A ⟨F,r,σ,s⟩ D5 hr hσ hp Cs
 have hσ:σ=⟨[],mu⟩:=hσ
 subst hσ
 obtain⟨fd,b,ps,ex,D,hps,hex,hb⟩:=f
 obtain⟨n,h⟩:=h
 obtain⟨o,ho,hdata⟩:=D.at_
 have X:G.K.In s.heap:=hp.K
 have hv0:args.length=D5.length:=(w6.mp Cs).len
 generalize hvs:D5++List.replicate nd Value.none=vs
 generalize has:args++List.replicate nd (V.val .none)=as at h
 have rv:p9 (i0 G ⟨F,r,⟨[],mu⟩,s⟩) as vs:=by
  rw[<-hvs,<-has]
  exact(w6.mp Cs).app (w6.mp (Zz nd))
 have hvl:vs.length=ps.length:=by rw[<-hvs,o7,EV,<-hv0,hl,hps]
 refine call_cells (Y9 (H9 _ _) (W3 hr.2.1 (by decide))) (X _ _ ho) hdata (G.lim _ fun a o h=>hp.sub _ _ (hp.base _ _ h)) (codeRec_of X D.code) D.body (hvs▸D.bind D5 (by rw[<-hv0,hl,hps]) s X) D.Lz (fun y hy=>?_) (fun s1 x=>?_) D.co D.gen D.kind
 ·rcases D.args _ (List.of_mem_zip hy).1 with q | q
  ·exact .inl q
  ·exact .inr ⟨q,HJ _ _ _ q⟩
 ·generalize hE:callEnvC fd s.heap.objs.size a=env at x ⊢
  have eL:env.locals=s.heap.objs.size:=by subst hE;rfl
  have eN:env.scope=fd.scope:=by subst hE;rfl
  have eK:∀ y,env.kindOf y=fd.scope.names.lookup y:=by subst hE;intro y;rfl
  have eC:env.cells=cellsFrom (s.heap.objs.size+1) fd.scope.names []:=by subst hE;rfl
  have eG:env.globals=a1j:=by subst hE;exact D.glob
  have eB:env.builtins=oO:=by subst hE;exact D.pL
  obtain⟨h1,dZ,e1,kp⟩:=x.done
  subst e1
  have fresh:∀ b,own env b->s.heap.get? b=none:=fun b hb=>by
   rcases hb with rfl |⟨y,hy⟩
   ·exact eL▸(L8 _)
   ·exact kH (yI (by have:=x.above _ _ (mem_of_lookup hy);rwa [eL] at this))
  let e:Ev:=⟨G,k,A.deeper env,env,ps++ex,⟨hr.1,by have:=hr.2.1;show A.depth+1+k<980;lia,by have:=hr.2.2;show A.units+3+16*k<9800;lia⟩,eN▸D.kind,eG,eB,D.nodup,
   fun y z c h1 h2=>name_of_addr x.apart (mem_of_lookup h1) (mem_of_lookup h2),fun y hy=>by rw[eC];exact sZ.mp (HJ _ _ _ (eK y▸hy))⟩
  let c1:Cx:=⟨F,r,⟨as.map some++List.replicate ne none,mu⟩,{s with heap:=h1,toks:=dZ}⟩
  have inv:Inv e c1:=by
   refine⟨hp.same (fun ζ ζ h=>h) (fun a o h=>kp _ _ (hp.sub a o h)) fun i hi=>⟨id,fun o h=>kp _ _ h⟩,fun b hb=>hp.free (fresh b hb),fun b hb i hi q=>?_,_,_,x.toInCall.ns,x.cell,fun j y u e1 e2=>?_⟩
   ·obtain⟨o',e'⟩:=hp.live i hi
    exact E6 (fresh b hb) (q▸e')
   ·have e1:(ps++ex)[j]?=some y:=e1
    have hj:j<as.length:=by
     by_cases z:j<as.length
     ·exact z
     ·rw[show c1.σ.vars[j]?=(List.replicate ne none)[j-(as.map some).length]? from jD (by rw[i9];exact N7 z),PV] at e2
      exact nn (si (cB e2).2)
    rw[show c1.σ.vars[j]?=(as.map some)[j]? from aJ (by rw[i9];exact hj),bR] at e2
    refine p7 e2 fun u' e3 e4=>?_
    cases e4
    obtain⟨v,e5,e6⟩:=rv.get e3
    rw[aJ (by rw[<-hvl,<-rv.len];exact hj)] at e1
    have WJ:(ps.zip vs)[j]?=some (y,v):=PW.mpr ⟨e1,e5⟩
    have ZQ:((ps.zip vs).map (fun ζ=>ζ.1)).Nodup:=by rw[List.map_fst_zip (I0 hvl.symm)];exact(QE.mp D.nodup).1
    refine⟨v,?_,e6.frame (fun ζ ζ h=>h) (g7 _)⟩
    rcases D.args _ (aL e1) with q | q
    ·exact .inl ⟨(eK y).trans q,TU ((eK y).trans q) j ZQ WJ⟩
    ·obtain⟨a,ha⟩:=sZ.mp (HJ fd.scope.names (s.heap.objs.size+1) [] q)
     exact .inr ⟨(eK y).trans q,a,eC▸ha,TS ((eK y).trans q) j ZQ WJ⟩
  refine use (aE0 n hb (e:=e) (c:=c1) ⟨by rw[show e.env.scope=fd.scope from eN],rfl,rfl,gx⟩ inv h) fun c2 fl f i2 T2 r2 q2=>?_
  have T:Step I3 ⟨F,r,⟨[],mu⟩,s⟩ c2:=by
   have T0:Step (own env) ⟨F,r,⟨[],mu⟩,s⟩ c1:=⟨⟨_,_,rfl⟩,fun ζ ζ h=>h,fun ζ ζ=>rfl,g7 _,fun b o h ζ ζ=>kp b o h,fun b o h=>⟨o,kp b o h⟩,fun ζ h=>.inl h,fun ζ=>below⟩
   exact(T0.trans T2).narrow fresh
  induction fl using Fl.casesOn with
  | next=>
   have r2:f=.next:=r2
   subst r2
   exact⟨_,rfl,c2,.val .none,rfl,i2.hp,T,rfl,q2⟩
  | ret u=>
   obtain⟨v,hf,rv⟩:=r2
   subst hf
   exact⟨_,rfl,c2,u,rfl,i2.hp,T,rv,q2⟩
theorem Mc {C fI:Addr} (hc:mJ C=true) (hi:findIn G.K (.ref C) "__init__"=some (some (.ref fI))) (hf:typeIn G.K (.ref fI)=some (.type "function")) {ds:List D} {mu:List M}
  (h:C8 G k (.ref fI) (.loc 0::ds.map .val) [.inst C,.attrs C []] (fun r d8=>r=.val .none/\d8=mu)):wZ G (k+1) C ds (.loc 0) mu:=by
 intro A ⟨F,r,σ,⟨hh,g,d,t,os⟩⟩ vs hr hσ hp rv
 have hσ:σ=⟨[],[]⟩:=hσ
 subst hσ
 have X:G.K.In hh:=hp.K
 have rd:t9 G F ds vs:=kO.mp rv
 refine make_core (makes_of X (G.cls hc).makes) (looks_findIn X hi) (fun self=>bind_fn X self hf) (.inl rfl) ?_
 have kp:∀ b o,hh.get? b=some o->((hh.push emptyDict).push (instObj C hh.objs.size)).get? b=some o:=fun b o h=>DS _ (DS _ h)
 have hx:((hh.push emptyDict).push (instObj C hh.objs.size)).get? (hh.objs.size+1)=some (instObj C hh.objs.size):=by heap_get
 have hdx:((hh.push emptyDict).push (instObj C hh.objs.size)).get? hh.objs.size=some emptyDict:=by heap_get
 generalize hh1:(hh.push emptyDict).push (instObj C hh.objs.size)=h1 at kp hx hdx ⊢
 let r1:Nat->Addr:=fun i=>Nat.casesOn i (hh.objs.size+1) fun ζ=>hh.objs.size
 let c1:Cx:=⟨F,r1,⟨[],[.inst C,.attrs C []]⟩,⟨h1,g,d,t,os⟩⟩
 have fr:∀ i,hh.get? (r1 i)=none:=fun i=>by induction i using Nat.casesOn with | zero=>exact kH (J5 _) | succ=>exact kH (g7 _)
 have inv:A0 G c1:=by
  refine⟨hp.base,fun a o h=>kp _ _ (hp.sub _ _ h),fun i j hi hj q=>?_,fun i m q=>?_,fun i hi=>?_⟩
  ·have one {i:Nat} (hi:i+1<c1.n):i=0:=Nat.lt_one_iff.mp (Nat.lt_of_succ_lt_succ hi)
   induction i using Nat.casesOn with
   | zero=>induction j using Nat.casesOn with
    | zero=>rfl
    | succ=>exact absurd q (yL _)
   | succ=>induction j using Nat.casesOn with
    | zero=>exact absurd q.symm (yL _)
    | succ=>rw[one hi,one hj]
  ·induction i using Nat.casesOn with
   | zero=>have q:=si q;subst q;exact⟨hp.free (fr 0),hx,g7 _⟩
   | succ i=>induction i using Nat.casesOn with
    | zero=>have q:=si q;subst q;exact⟨hp.free (fr 1),emptyDict,[],hdx,⟨[],0,rfl,rfl⟩,rfl⟩
    | succ=>exact nn q
  ·induction i using Nat.casesOn with
   | zero=>exact⟨_,hx⟩
   | succ=>exact⟨_,hdx⟩
 refine U5 (h (A.under (.builtin "type.__call__" ⟨.ref C::vs,[]⟩)) c1 (.ref (hh.objs.size+1)::vs) ⟨hr.1,by have:=hr.2.1;show A.depth+1+k<980;lia,by have:=hr.2.2;show A.units+1+16*k<9800;lia⟩ rfl inv ⟨_,_,rfl,⟨rfl,FT _⟩,kO.mpr rd⟩) ?_
 rintro _ _ ⟨v,rfl,c2,u,rfl,hp2,st,rr,rfl,q⟩
 have rr:v=.none:=rr
 have T0:Step I3 ⟨F,r,⟨[],[]⟩,⟨hh,g,d,t,os⟩⟩ c1:=⟨⟨_,_,rfl⟩,fun ζ ζ h=>h,fun ζ h=>absurd h (aN _),v7 _,fun b o h ζ ζ=>kp b o h,fun b o h=>⟨o,kp b o h⟩,fun ζ h=>.inl h,fun i ζ ζ=>fr i⟩
 have len:0<c2.n:=W3 (FT 1) st.len
 exact⟨rr,_,rfl,c2,.loc 0,rfl,hp2,T0.trans st,⟨congrArg Value.ref (st.B9 0 (FT 1)).symm,len⟩,rfl,q⟩
end
end
section
set_option maxRecDepth 100000
noncomputable abbrev pw:Program:=PySem.Challenge.pw_xw0286_01
noncomputable abbrev DF:Type:=Arguments×List Stmt×Scope
noncomputable def VI (f:List Stmt->List DF) (s:Stmt):List DF:=Cv s [] (fun a b sc=>[(a,b,sc)]) f
noncomputable def defsIn (s:Stmt):List DF:=VI (fun b=>b.flatMap (VI fun ζ=>[])) s
noncomputable abbrev TE:Type:=(Addr×Nat×Nat×Nat×List S)×DF
noncomputable def G3:List TE:=tab.zip (((pw.main.body.flatMap defsIn).eraseIdx 3).eraseIdx 0)
noncomputable def fnOf (K:Frag) (a:Addr):Option FuncData:=(K.lookup a).bind fun o=>match o.data with | .func fd=>some fd | _=>none
noncomputable def BX {α:Type} (K:Frag):Nat->Sem α->Option α
 | 0,_=>none
 | n+1,t=>match t with
  | .pure x=>some x
  | .load a _ k=>(K.lookup a).bind fun o=>BX K n (k o)
  | _=>none
noncomputable def TE.ps (q:TE):List Str:=q.2.1.args.map (fun ζ=>ζ.arg)
noncomputable def AS (q:TE) (nm:List Str) (names:List (Str×NameKind)):Bool:=decide nm.Nodup&&(Nat.beq nm.length (q.1.2.1+q.1.2.2.1+q.1.2.2.2.1)&&(nm.take (q.1.2.1+q.1.2.2.1)==q.ps&&q.ps.all fun p=>names.lookup p==some .local||names.lookup p==some .cell))
noncomputable def comp (q:TE):Option (Bool×List S):=(q.2.2.1.mapM (cS 40 ⟨q.2.2.2.names,ownNames q.2.2.2.names,lF⟩)).map fun l=>(!q.2.2.2.isCoroutine&&(!q.2.2.2.isGenerator&&(q.2.2.2.kind==.function&&AS q (ownNames q.2.2.2.names) q.2.2.2.names)),l)
noncomputable def fG (q:TE):Option (Bool×List S):=some (true,q.1.2.2.2.2)
noncomputable def entry (K:Frag) (v:Nat->Value) (q:TE):Option (Bool×FuncBody×Scope×List (Str×Value)):=(fnOf K q.1.1).bind fun fd=>
 (BX K 9 (bindArgs fd ⟨(List.range q.1.2.1).map v,[]⟩)).map fun z=>(fd.closure.isEmpty&&(Nat.beq fd.globals a1j&&(Nat.beq fd.builtins oO&&codeIn K fd.code fd.qualname)),fd.body,fd.scope,z)
noncomputable def uB (v:Nat->Value) (q:TE):Option (Bool×FuncBody×Scope×List (Str×Value)):=some (true,.stmts q.2.2.1,q.2.2.2,q.ps.zip ((List.range q.1.2.1).map v++List.replicate q.1.2.2.1 .none))
theorem WN {K:Frag} {a:Addr} {fd:FuncData} (h:fnOf K a=some fd):∃ o,K.lookup a=some o/\o.data=.func fd:=by
 refine g9 (h:Option.bind _ _=some fd) fun o h1 h2=>?_
 refine⟨o,h1,?_⟩
 cases q:o.data<;>rw[q] at h2<;>first |(have h2:=si h2;rw[h2]) | exact nn h2
theorem aA7 {α:Type} {K:Frag} {M:Model} {A:Around} {E:Value->Shared->Prop} {Q:α->Shared->Prop} {s:Shared} {x:α} (X:K.In s.heap) (hq:Q x s):∀(n:Nat) {t:Sem α},BX K n t=some x->a1s M A t Q E s:=by
 intro b7
 induction b7 with
 | zero=>intro b8 b9;first | exact nomatch b9 | exact nomatch b8 | cases b9 | cases b8
 | succ n IH=>
  intro t h
  induction t using Sem.casesOn with
  | pure y=>have h:=si h;rw[<-h] at hq;exact a2e hq
  | load a p k=>
   refine g9 (h:Option.bind _ _=some x) fun o h1 h2=>?_
   exact nd_load (X _ _ h1) (IH h2)
  | _=>exact nn h
theorem Pb {K:Frag} {q:TE} (h:∀ v,entry K v q=uB v q) (hc:comp q=fG q):DE K q.1.1 q.1.2.1 q.1.2.2.1 q.1.2.2.2.1 q.1.2.2.2.2:=by
 have at_ (v:Nat->Value):∃ fd z,fnOf K q.1.1=some fd/\(fd.closure.isEmpty&&(Nat.beq fd.globals a1j&&(Nat.beq fd.builtins oO&&codeIn K fd.code fd.qualname)))=true/\fd.body=.stmts q.2.2.1/\fd.scope=q.2.2.2/\BX K 9 (bindArgs fd ⟨(List.range q.1.2.1).map v,[]⟩)=some z/\z=q.ps.zip ((List.range q.1.2.1).map v++List.replicate q.1.2.2.1 .none):=by
  refine g9 (show Option.bind _ _=some _ from h v) fun fd h1 e=>?_
  refine p7 e fun z h4 e=>?_
  injection e with e1 e
  injection e with e2 e
  injection e with e3 e4
  exact⟨fd,z,h1,e1,e2,e3,h4,e4⟩
 obtain⟨fd,z,h1,h4,hb,hs,_,_⟩:=at_ fun ζ=>.none
 refine x8 h4 fun c1 h4=>?_
 refine x8 h4 fun c2 h4=>?_
 refine x8 h4 fun c3 c4=>?_
 refine p7 (hc:Option.map _ _=some _) fun l hl e=>?_
 injection e with h5 e
 subst e
 refine x8 h5 fun c5 h5=>?_
 refine x8 h5 fun c6 h5=>?_
 refine x8 h5 fun c7 h5=>?_
 refine x8 (h5:(decide _&&_)=true) fun c8 h5=>?_
 refine x8 h5 fun c9 h5=>?_
 refine x8 h5 fun yX Lb=>?_
 have c9:=I9 c9
 have yX:=eq_of_beq yX
 rw[<-hs] at *
 have len:q.ps.length=q.1.2.1+q.1.2.2.1:=by rw[<-yX,eZ,c9];exact QW (H9 _ _)
 have nm:ownNames fd.scope.names=q.ps++(ownNames fd.scope.names).drop (q.1.2.1+q.1.2.2.1):=by rw[<-yX];exact(QH _ _).symm
 refine⟨fd,q.2.2.1,q.ps,(ownNames fd.scope.names).drop (q.1.2.1+q.1.2.2.1),⟨WN h1,hb,PX.mp c1,(lS _).mp c5,(lS _).mp c6,eq_of_beq c7,I9 c2,I9 c3,c4,nm,nm▸of_decide_eq_true c8,fun vals hv s X=>?_,fun p hp=>?_⟩,len,by rw[cW,c9,cZ],nm▸hl⟩
 ·have hv:vals.length=q.1.2.1:=Nat.add_right_cancel (hv.trans len)
  have e:(List.range q.1.2.1).map (fun i=>vals.getD i .none)=vals:=by
   refine hv▸?_
   refine List.ext_getElem (by rw[i9,xW]) fun i h g=>?_
   rw[List.getElem_map,List.getElem_range,xV,P5 g]
   rfl
  obtain⟨fd',z,g1,_,_,_,g5,g6⟩:=at_ fun i=>vals.getD i .none
  rw[h1] at g1
  have g1:=si g1
  subst g1
  rw[e] at g5 g6
  exact fun M A E Q hq=>aA7 X (g6▸hq) 9 g5
 ·exact((bQ _ _).mp (U1.mp Lb p hp)).imp eq_of_beq eq_of_beq
theorem AN {α β:Type} [BEq α] [LawfulBEq α] {a:α} {b:β}:∀{l:List (α×β)},l.lookup a=some b->(a,b)∈l:=by
 intro b7
 induction b7 with
 | nil=>intro b8;first | exact nomatch b8 | cases b8
 | cons p_ l IH=>
  obtain⟨x,y⟩:=p_;intro h
  rw[cX] at h
  cases q:a==x with
  | true=>rw[q] at h;have h:=si h;rw[eq_of_beq q,<-h];exact f9
  | false=>rw[q] at h;exact l6 _ (IH h)
theorem aH7:G3.map (fun ζ=>ζ.1)=tab:=by kernel_rfl
theorem chunk {α β:Type} {l:List α} {f g:α->β} (n:Nat) (h:∀ i,i<n->((l.drop (9*i)).take 9).map f=((l.drop (9*i)).take 9).map g) (hn:l.length<=9*n) {x:α} (hx:x∈l):f x=g x:=by
 obtain⟨j,hj,e⟩:=List.mem_iff_getElem.mp hx
 have hd:=Nat.div_add_mod j 9
 have hm:j % 9<9:=Nat.mod_lt _ (by decide)
 refine QB.mp (h (j / 9) (Nat.div_lt_of_lt_mul (W3 hj hn))) x (aL (i:=j % 9) ?_)
 rw[List.getElem?_take_of_lt hm,PU,hd,P5 hj,e]
theorem Mh:((G3.drop (9*0)).take 9).map comp=((G3.drop (9*0)).take 9).map fG:=by kernel_rfl
theorem Mi:((G3.drop (9*1)).take 9).map comp=((G3.drop (9*1)).take 9).map fG:=by kernel_rfl
theorem Mj:((G3.drop (9*2)).take 9).map comp=((G3.drop (9*2)).take 9).map fG:=by kernel_rfl
theorem Mk:((G3.drop (9*3)).take 9).map comp=((G3.drop (9*3)).take 9).map fG:=by kernel_rfl
theorem Ml:((G3.drop (9*4)).take 9).map comp=((G3.drop (9*4)).take 9).map fG:=by kernel_rfl
theorem Mm:((G3.drop (9*5)).take 9).map comp=((G3.drop (9*5)).take 9).map fG:=by kernel_rfl
theorem Mn:((G3.drop (9*6)).take 9).map comp=((G3.drop (9*6)).take 9).map fG:=by kernel_rfl
theorem Mp:((G3.drop (9*7)).take 9).map comp=((G3.drop (9*7)).take 9).map fG:=by kernel_rfl
theorem Mq {q:TE} (h:q∈G3):comp q=fG q:=by
 refine chunk 8 (fun i hi=>?_) (E0 (by kernel_rfl)) h
 have hi:i<8:=hi
 have:i=0∨i=1∨i=2∨i=3∨i=4∨i=5∨i=6∨i=7:=by lia
 rcases this with rfl | rfl | rfl | rfl | rfl | rfl | rfl | rfl
 ·exact Mh
 ·exact Mi
 ·exact Mj
 ·exact Mk
 ·exact Ml
 ·exact Mm
 ·exact Mn
 ·exact Mp
theorem Pc {K:Frag} (h:(fun v=>G3.map (entry K v))=fun v=>G3.map (uB v)) {a:Addr} {np nd ne:Nat} {b:List S} (hl:tab.lookup a=some (np,nd,ne,b)):DE K a np nd ne b:=by
 have hp:=AN hl
 rw[<-aH7] at hp
 obtain⟨q,hq,e⟩:=j4.mp hp
 have x:=Pb (K:=K) (q:=q) (fun v=>QB.mp (congrFun h v) _ hq) (Mq hq)
 rw[e] at x
 exact x
end
section
noncomputable def JB (v:Value) (d:D):Bool:=match v with | .int j _=>d.int?==some j | _=>false
noncomputable def CR (K:Frag) (v:Value):Option (Array Value×Nat):=match v with
 | .ref a=>(K.lookup a).bind fun o=>match o with |⟨.type t,none,.seq vs n,⟨[]⟩⟩=>bif t=="tuple" then some (vs,n) else none | _=>none
 | _=>none
noncomputable def UY (K:Frag) (v:Value) (d:D):Bool:=match d with
 | .tup l=>(CR K v).any fun q=>Nat.beq q.1.toList.length l.length&&(Nat.ble l.length 100&&(q.1.toList.zip l).all fun p=>JB p.1 p.2)
 | d=>JB v d
variable {G:Gd} {F:HM}
theorem XZ {v:Value} {d:D} (h:JB v d=true):Rep G F d v:=by
 induction v using Value.casesOn with
 | int j t=>rw[zV (eq_of_beq h)];exact⟨t,rfl⟩
 | _=>exact ft h
theorem aI8 {K:Frag} {v:Value} {q:Array Value×Nat} (h:CR K v=some q):∃ a,v=.ref a/\K.lookup a=some (eE q.1 q.2):=by
 induction v using PySem.Value.casesOn with
 | ref a=>
  refine g9 (h:Option.bind _ _=some q) fun o h1 h2=>?_
  refine⟨a,rfl,h1.trans ?_⟩
  obtain⟨c,d,dt,⟨sl⟩⟩:=o
  induction c using Value.casesOn with
  | type t=>
   induction d using Option.casesOn with
   | some _=>exact nn h2
   | none=>
   induction dt using Data.casesOn with
   | seq vs n=>
    induction sl using List.casesOn with
    | cons _ _=>exact nn h2
    | nil=>
     have h2:(bif t=="tuple" then some (vs,n) else none)=some q:=h2
     cases e:t=="tuple" with
     | true=>rw[e] at h2;rw[eq_of_beq e,<-si h2]
     | false=>rw[e] at h2;exact nn h2
   | _=>exact nn h2
  | _=>exact nn h2
 | _=>exact nn h
theorem Mr {v:Value} {d:D} (h:UY G.K v d=true):Rep G G.F0 d v:=by
 induction d using D.casesOn with
 | tup l=>
  have h:(CR G.K v).any _=true:=h
  cases e:CR G.K v with
  | none=>rw[e] at h;exact ft h
  | some q=>
   rw[e] at h
   refine x8 h fun h1 h=>?_
   refine x8 h fun h2 h3=>?_
   obtain⟨a,e1,e2⟩:=aI8 e
   have h1:=I9 h1
   refine⟨a,q.1,q.2,e1,G.IZ _ _ e2,k6 (show q.1.toList.length<=100 from h1▸E0 h2) (by rw[aE];decide),reps.mpr (.of h1.symm fun i x y p r=>?_)⟩
   exact XZ (U1.mp h3 (y,x) (aL (PW.mpr ⟨r,p⟩)))
 | _=>exact XZ h
noncomputable def jZ (K:Frag) (x:Str):Option (Option Value):=(K.lookup a1j).bind (lookIn x)
noncomputable def JD (K:Frag) (a:Addr):Bool:=(fnOf K a).isSome
noncomputable def yW (K:Frag) (x:Str) (v:Value):Bool:=jZ K x==some none&&(bootBuiltins x==some v&&!(x==("__name__":Str)))
noncomputable def IK (K:Frag) (x:Str) (g:GV):Bool:=match g with
 | .const d=>((jZ K x).bind id).any fun v=>UY K v d
 | .fn a=>jZ K x==some (some (.ref a))&&JD K a
 | .cls a=>jZ K x==some (some (.ref a))
 | .bi b=>yW K x (HF b)
 | .range=>yW K x (.type "range")
 | .enum=>yW K x (.type "enumerate")
noncomputable def DI:List (Addr×Mt×Addr):=[(343,.pre,228),(343,.post,333),(343,.copy,242),(343,.short,340),(343,.walk,256),(343,.enter,263),(441,.pre,228),(441,.post,431),(441,.copy,242),(441,.short,438),(441,.walk,256),(441,.enter,263)]
theorem Ut {c:Addr} {m:Mt} {f:Addr} (h:qI c m=some f):(c,m,f)∈DI:=by
 have h:(bif Nat.beq c 343||Nat.beq c 441 then _ else none)=some f:=h
 cases q:(Nat.beq c 343||Nat.beq c 441) with
 | false=>rw[q] at h;exact nn h
 | true=>rcases(bQ _ _).mp q with z | z<;>have:=I9 z<;>subst this<;>induction m using Mt.casesOn<;>first |(cases h;done) |(cases h;decide)
noncomputable def uJ (K:Frag) (c:Addr) (x:Str) (f:Addr):Bool:=findIn K (.ref c) x==some (some (.ref f))&&(typeIn K (.ref f)==some (.type "function")&&JD K f)
noncomputable def DG:List (Addr×Addr):=[(55,36),(202,199),(343,221),(441,221)]
noncomputable def XC (K:Frag):Bool:=lF.all (fun p=>IK K p.1 p.2)&&(DI.all (fun q=>uJ K q.1 (iD q.2.1) q.2.2)&&(DG.all (fun q=>uJ K q.1 "__init__" q.2)&&(([55,202,343,441]:List Addr).all (HL K)&&(YT K&&jZ K "law"==some (some (.ref 575))))))
theorem YB {K:Frag} {a:Addr} (h:JD K a=true):∃ o fd,K.lookup a=some o/\o.data=.func fd:=by
 obtain⟨fd,h⟩:=sZ.mp (h:(fnOf K a).isSome=true)
 obtain⟨o,h1,h2⟩:=WN h
 exact⟨o,fd,h1,h2⟩
theorem XW {K:Frag} {c:Addr} {x:Str} {f:Addr} (h:uJ K c x f=true):findIn K (.ref c) x=some (some (.ref f))/\typeIn K (.ref f)=some (.type "function")/\∃ o fd,K.lookup f=some o/\o.data=.func fd:=
 ⟨eq_of_beq (x9 h).1,eq_of_beq (x9 (x9 h).2).1,YB (x9 (x9 h).2).2⟩
theorem uY {h:Heap} (X:∀ a o,G.F0 a=some o->h.get? a=some o) {x:Str} {r:Option Value} (e:jZ G.K x=some r):G.mg x=r:=by
 refine g9 (e:Option.bind _ _=some r) fun o h1 h2=>?_
 obtain⟨o',es,ep,h3,h4,h5,h6⟩:=G.glob h X
 have h7:=X _ _ (G.IZ _ _ h1)
 rw[h7] at h3
 have h3:=si h3
 subst h3
 unfold lookIn at h2
 rw[h4] at h2
 dsimp only at h2
 refine(h6 x)▸?_
 unfold nsFind findBy
 refine(Array.find?_toList)▸?_
 cases hen:es.toList.find? (fun e=>e.key.isStr x) with
 | some en=>
  rw[hen] at h2
  rw[<-si h2];rfl
 | none=>
  rw[hen] at h2
  have h2:(if es.toList.any (fun ζ=>ζ.refKey)=true then none else some none)=some r:=h2
  by_cases z:es.toList.any (fun ζ=>ζ.refKey)=true
  ·rw[if_pos z] at h2;exact nn h2
  ·rw[if_neg z] at h2
   rw[<-si h2];rfl
theorem Qm {h:Heap} (X:∀ a o,G.F0 a=some o->h.get? a=some o) (hb:∀ x:Str,x≠"__name__"->G.mb x=bootBuiltins x) (h1:∀ p∈lF,IK G.K p.1 p.2=true) (h2:∀ q∈DI,uJ G.K q.1 (iD q.2.1) q.2.2=true):GX G:=by
 have blt {x:Str} {v:Value} (h:yW G.K x v=true):G.mg x=none/\G.mb x=some v:=by
  refine x8 h fun e1 h=>?_
  refine x8 h fun e2 e3=>?_
  exact⟨uY X (eq_of_beq e1),(hb x fun z=>by rw[z] at e3;exact absurd e3 (by decide)).trans (eq_of_beq e2)⟩
 refine⟨fun x g hx=>?_,fun c m f hm=>XW (h2 _ (Ut hm))⟩
 have hg:IK G.K x g=true:=h1 _ (AN hx)
 induction g using GV.casesOn with
 | const d=>
  have hg:((jZ G.K x).bind id).any _=true:=hg
  cases q:(jZ G.K x).bind id with
  | none=>rw[q] at hg;exact ft hg
  | some v=>
   rw[q] at hg
   refine g9 q fun r q1 q2=>?_
   exact⟨v,(uY X q1).trans q2,Mr hg⟩
 | fn a=>exact⟨uY X (eq_of_beq (x9 hg).1),YB (x9 hg).2⟩
 | cls a=>exact uY X (eq_of_beq hg)
 | bi b=>exact blt hg
 | range=>exact blt hg
 | enum=>exact blt hg
theorem Qc (gx:GX G) (hi:∀ q∈DG,uJ G.K q.1 "__init__" q.2=true) (hf:(fun v=>G3.map (entry G.K v))=fun v=>G3.map (uB v)):FX G where
 fn {_ _ _ _ _} h {_ _ _ _} hl hw:=Pe gx (Pc hf h) hl hw
 cls {C fI} h {_ _ _} hc:=by
  have hm:=AN h
  have i:=XW (hi _ hm)
  exact Mc (U1.mp (rfl:DG.all (fun q=>mJ q.1)=true) _ hm) i.1 i.2.1 hc
 up {_ _ _ _ _ _} l h A c vs hr:=h A c vs ⟨hr.1,Y9 (QS l _) hr.2.1,Y9 (QS (sY _ l) _) hr.2.2⟩
 WR {_ _ _ _ _} h A c vs hr hσ hp rv:=U5 (h A c vs hr hσ hp rv) fun r s' ⟨v,e1,c1,u,e2,i1,st,rr,p⟩=>by
  subst e1 e2
  obtain⟨⟨d,mu⟩,h1,p⟩:=vO p
  obtain⟨F,z,r⟩:=mU 6 i1 rr h1
  exact⟨v,rfl,c1.fr F mu,.val d,rfl,z.hp,st.trans ⟨⟨_,_,rfl⟩,z.grow,fun ζ ζ=>rfl,I0 z.len.symm,fun ζ ζ h ζ ζ=>h,fun ζ o h=>⟨o,h⟩,fun b h=>(z.news b h).imp id .inr,fun p h1 h2=>absurd (Y9 h1 (z.len▸h2)) (aM _)⟩,r,p⟩
end
section
set_option maxRecDepth 100000
set_option maxHeartbeats 0
noncomputable def qV:Program:=view pw [101]
noncomputable def loose:List Str:=pw.boundNames.filter fun n=>n != "law"
noncomputable def zE:Env:={scope:=pw.main.scope,locals:=mainNs,globals:=mainNs,cells:=[],code:=.ref 13,frame:=some 14}
noncomputable def bE:List Stmt:=behindTheImports pw
noncomputable def mK:Code:=.body bE zE
noncomputable def q0:Pos:=⟨0,0,0,0⟩
noncomputable def B0:List Frame:=[topFrame q0]
noncomputable def S0 (w:World) (os:OsState):Shared:=⟨lQ w.params,#[],boot_drawn,boot_toks,os⟩
noncomputable def Ve:List Obj:=[
 {cls:=.type "tuple",data:=.seq #[]},{cls:=.none,data:=.fields #[]},
 {cls:=.type "code",data:=.fields #[.str "<module>" 182,.str "<module>" 183,.str "/claim/cut.py" 184,.int 1 0,.int 0 0,.int 0 0,.int 0 0,.int 0 0,.ref 11,.bool false,.int 181 0,.ref 12,.none,.none,.none,.none,.int 185 0,.int 1 0,.str "/claim/cut.py" 186]},
 {cls:=.type "frame",slots:=#[some (.ref 13),some (.ref 3),some (.ref 3),none,some (.str "__main__" 164),none,some (.ref 0)]}]
noncomputable def treeOf (l:List Obj):BT:=(l.zipIdx).foldl (fun t p=>t.ins p.2 p.1) .nil
noncomputable def sA (w:World) (os:OsState):SharedT:=⟨treeOf ((lQ w.params).objs.toList++Ve),15,{},#[],{},187,os⟩
noncomputable def pW (h:Heap):Frag:=h.objs.toList.zipIdx.filterMap fun p=>(PySem.W.alive p.1).map fun o=>(p.2,o)
noncomputable abbrev OF:Type:=Bool×((Nat->Value)->List (Option (Bool×FuncBody×Scope×List (Str×Value))))
noncomputable def obs (s:Shared):OF:=(XC (pW s.heap),fun v=>G3.map (entry (pW s.heap) v))
noncomputable def vN:OF:=(true,fun v=>G3.map (uB v))
noncomputable abbrev nN (w:World) (os:OsState):Option (Flow×SharedT×Code×Pos):=segRunT a1r pw w 11 (some (.ref 6)) 1 4000 (sA w os) (piecesOf bE zE mK q0 B0)
noncomputable def Ez (w:World) (s:Shared):=
 (staticsOk (a1g pw.main.body) (lQ w.params) s.heap&&namesBound pw s.heap&&gensDone s&&laidKept (lQ w.params) s.heap,openSeen qV loose (a1g pw.main.body) (fun ζ=>true) true s)
theorem Um (w:World) (os:OsState):(nN w os).map (fun r=>(r.1,r.2.2.1,r.2.2.2,Ez w r.2.1.abs))=some (.next,mK,⟨551,0,573,36⟩,(true,openGood qV loose)):=by
 unfold Ez nN
 rw[FW,oZ,Ja,Jb]
 kernel_rfl
theorem map_two {α β γ:Type} {o:Option α} {f:α->β} {g:α->γ} {b:β} {c:γ} (h:o.map f=some b) (k:o.map g=some c):o.map (fun r=>(f r,g r))=some (b,c):=by
 induction o using Option.casesOn with
 | none=>exact nn h
 | some r=>exact congrArg some (fB (si h) (si k))
theorem JX (w:World) (os:OsState):(nN w os).map (fun r=>XC (pW r.2.1.abs.heap))=some true:=by
 unfold nN
 rw[FW,oZ]
 kernel_rfl
theorem Un (w:World) (os:OsState):(nN w os).map (fun r=>fun v=>G3.map (entry (pW r.2.1.abs.heap) v))=some fun v=>G3.map (uB v):=by
 unfold nN
 rw[FW,oZ]
 kernel_rfl
theorem Uo (w:World) (os:OsState):(nN w os).map (fun r=>obs r.2.1.abs)=some vN:=map_two (JX w os) (Un w os)
end
section
set_option maxRecDepth 100000
set_option maxHeartbeats 0
theorem NG (w:World) (os:OsState):topGo a1r pw w 11 (some (.ref 6)) 12 (S0 w os) (topStub pw)=some ((sA w os).abs,⟨denote a1r mK,mK,q0,B0⟩):=by
 rw[Iz,oZ,Iu]
 kernel_rfl
theorem ND (w:World) (os:OsState):segRun a1r pw w 11 (some (.ref 6)) 1 1 (sA w os).abs (blockOf bE zE mK q0 B0)=some (.next,(sA w os).abs,mK,q0):=by
 rw[Iw,oZ]
 kernel_rfl
theorem NF (w:World) (s:Shared) (p:Pos):topRun a1r pw w 11 (some (.ref 6)) 2 s (restOf [] zE mK p B0)=some s:=by
 rw[Iv,oZ]
 kernel_rfl
theorem Uc {p q:Program} {loose:List Str} {α:Type} {Y:Shared->α} {y:α} {w:World} {N n1 n2 n3 n4:Nat} {H0:Heap} {d0:Drawn} {k0 m0:Nat} {ann:Option Value} {env:Env} {b:List Stmt} {q0 pos:Pos} {Sa:OsState->SharedT}
  (open_:(fencedOpening a1r p w N).map (fun s=>(s.heap,s.gens,s.drawn,s.toks))=some (H0,Array.mk [],d0,k0)) (size:(H0.isNs a1j,H0.objs.size,H0.nsMap a1j "__annotations__")=(true,m0,ann))
  (NG:∀ os,topGo a1r p w m0 ann n1 ⟨H0,#[],d0,k0,os⟩ (topStub p)=some ((Sa os).abs,⟨denote a1r (.body b env),.body b env,q0,[topFrame q0]⟩))
  (ND:∀ os,segRun a1r p w m0 ann 1 n2 (Sa os).abs (blockOf b env (.body b env) q0 [topFrame q0])=some (.next,(Sa os).abs,.body b env,q0))
  (main:∀ os,(segRunT a1r p w m0 ann 1 n3 (Sa os) (piecesOf b env (.body b env) q0 [topFrame q0])).map (fun r=>(r.1,r.2.2.1,r.2.2.2,(staticsOk (a1g p.main.body) H0 r.2.1.abs.heap&&namesBound p r.2.1.abs.heap&&gensDone r.2.1.abs&&laidKept H0 r.2.1.abs.heap,openSeen q loose (a1g p.main.body) (fun ζ=>true) true r.2.1.abs)))=some (.next,.body b env,pos,(true,openGood q loose)))
  (JX:∀ os,(segRunT a1r p w m0 ann 1 n3 (Sa os) (piecesOf b env (.body b env) q0 [topFrame q0])).map (fun r=>Y r.2.1.abs)=some y)
  (NF:∀ s p',topRun a1r p w m0 ann n4 s (restOf [] env (.body b env) p' [topFrame q0])=some s) (le:Nat.ble (n1+(n2+(n3+n4))) N=true) :
  (openEnds a1r p w N).map (fun s=>(openSeen q loose (a1g p.main.body) (fun ζ=>true) true s,Y s))=some (openGood q loose,y):=by
 obtain⟨t,e,e'⟩:=map_some open_
 have es:t=⟨H0,Array.mk [],d0,k0,t.os⟩:=by
  show(⟨t.heap,t.gens,t.drawn,t.toks,t.os⟩:Shared)=_
  rw[show t.heap=H0 from congrArg (fun ζ=>ζ.1) e',show t.gens=Array.mk [] from congrArg (fun ζ=>ζ.2.1) e',show t.drawn=d0 from congrArg (fun ζ=>ζ.2.2.1) e',show t.toks=k0 from congrArg (fun ζ=>ζ.2.2.2) e']
 obtain⟨r,r1,r2⟩:=map_some (main t.os)
 have m2:=JX t.os
 rw[r1] at m2
 have r1:segRunT a1r p w m0 ann 1 n3 (Sa t.os) (piecesOf b env (.body b env) q0 [topFrame q0])=some (.next,r.2.1,.body b env,r.2.2.2):=by
  rw[r1]
  exact congrArg some (fB (congrArg (fun ζ=>ζ.1) r2) (fB rfl (fB (congrArg (fun ζ=>ζ.2.1) r2) rfl)))
 have run:=piece_app (rest:=[]) (segRun_of r1) (NF r.2.1.abs r.2.2.2)
 rw[u9] at run
 have run:=topRun_mono (N-(n1+(n2+(n3+n4)))) _ _ _ _ (go_top (NG t.os) (piece_block (ND t.os) run))
 rw[FF (E0 le)] at run
 have tf:topFrom a1r p w N ⟨H0,Array.mk [],d0,k0,t.os⟩=some r.2.1.abs:=by
  unfold topFrom
  dsimp only
  rw[show H0.isNs a1j=true from congrArg (fun ζ=>ζ.1) size,show H0.objs.size=m0 from congrArg (fun ζ=>ζ.2.1) size,show H0.nsMap a1j "__annotations__"=ann from congrArg (fun ζ=>ζ.2.2) size,run]
  show(match staticsOk (a1g p.main.body) H0 r.2.1.abs.heap&&namesBound p r.2.1.abs.heap&&gensDone r.2.1.abs&&laidKept H0 r.2.1.abs.heap with | true=>_ | false=>_)=_
  rw[show(staticsOk (a1g p.main.body) H0 r.2.1.abs.heap&&namesBound p r.2.1.abs.heap&&gensDone r.2.1.abs&&laidKept H0 r.2.1.abs.heap)=true from congrArg (fun ζ=>ζ.2.2.2.1) r2]
 unfold openEnds
 rw[e,es]
 show(topFrom a1r p w N _).map _=_
 rw[tf]
 show some (_,_)=_
 rw[show openSeen q loose (a1g p.main.body) (fun ζ=>true) true r.2.1.abs=openGood q loose from congrArg (fun ζ=>ζ.2.2.2.2) r2,show Y r.2.1.abs=y from si m2]
theorem aI7 (w:World):((lQ w.params).isNs a1j,(lQ w.params).objs.size,(lQ w.params).nsMap a1j "__annotations__")=(true,11,some (.ref 6)):=by kernel_rfl
theorem aI6:LeftO pw qV loose (fun ζ=>true) obs (fun ζ=>vN) 6000:=fun w=>Uc (Sa:=sA w) (boot_open (p:=pw) (N:=6000) (by kernel_rfl) (by rfl) (fun s=>by kernel_rfl) w) (aI7 w) (NG w) (ND w) (Um w) (Uo w) (NF w) (by rfl)
end
section
set_option maxRecDepth 100000
set_option maxHeartbeats 0
theorem Px {h:Heap} {a:Addr} {o:Obj} (e:(pW h).lookup a=some o):h.get? a=some o:=by
 obtain⟨p,h1,h2⟩:=EY.mp (AN e)
 refine p7 h2 fun o' h3 h4=>?_
 injection h4 with h4 h5
 subst h4 h5
 have h1:h.objs[p.2]?=some p.1:=by rw[<-eV];exact List.mem_zipIdx_iff_getElem?.mp h1
 unfold Heap.get?
 rw[h1,<-h3]
 obtain⟨⟨c,d,dt,sl⟩,i⟩:=p
 induction dt using PySem.Data.casesOn<;>rfl
theorem MB {G:Gd} {F:HM} {R:WRecords} {cl:Str->Option Addr} {h:Heap}:∀(ns:List Int) {vs:List Value} {as:List Addr},ReadsAllW R cl h vs (ns.map .int) as->t9 G F (ns.map .int) vs/\vs.length=ns.length
 | [],vs,as,w=>by rw[(DX w).1];exact⟨rfl,rfl⟩
 | n::ns,vs,as,w=>by
  obtain⟨v,us,_,_,e,_,r,w⟩:=PA w
  obtain⟨t,e1,_⟩:=readsW_int_inv r
  have ih:=MB (G:=G) (F:=F) ns w
  rw[e]
  exact⟨⟨v,us,rfl,⟨t,e1⟩,ih.1⟩,congrArg (fun ζ=>ζ+1) ih.2⟩
noncomputable def fN:OpenRow:=(PySem.Challenge.rw_xw0286_01).row
noncomputable def dL:DefRec×List (Str×PySem.Expr):=(defOf qV "law").get (by kernel_rfl)
theorem walk {w:World} {s₀ s₁:Shared} {mg mb:Str->Option Value} (T:Top qV (looseW qV loose) (ExcName.means s₀.heap) mg mb s₁.heap) (Y:∃ s,obs s=vN/\∀ b o,s.heap.get? b=some o->s₁.heap.get? b=some o)
  {a:Addr} (hmg:mg "law"=some (.ref a)) {ns:List Int} {l:Addr} {vs:List Value} (hl:s₁.heap.get? l=some (K5 vs.toArray 0)) {R:WRecords} {cl:Str->Option Addr} {as:List Addr} (hw:ReadsAllW R cl s₁.heap vs (ns.map .int) as) (hn:ns.length<=63) :
  eU (a1l pw w) callerA (.call (.ref a) ⟨[.ref l],[]⟩) (fun r s'=>r=.ok (.ret (.bool true))/\(∀ b o,s₁.heap.get? b=some o->s'.heap.get? b=some o)/\s'.os=s₁.os/\s'.gens=s₁.gens) s₁:=by
 obtain⟨s,e,sub⟩:=Y
 injection e with e1 e2
 refine x8 (e1:(lF.all _&&_)=true) fun g1 e1=>?_
 refine x8 e1 fun g2 e1=>?_
 refine x8 e1 fun g3 e1=>?_
 refine x8 e1 fun g4 e1=>?_
 refine x8 e1 fun g5 g6=>?_
 let G:Gd:=⟨pw,w,s₁.heap.get?,pW s.heap,mg,mb,fun a o h=>sub _ _ (Px h),fun h X=>T.g.keeps X,fun h X=>T.b.keeps X,fun h X=>T.nolimit.keeps X,
  fun C hC=>U1.mp g4 C (by rcases hC with rfl | rfl | rfl | rfl<;>decide),g5⟩
 have ge:mg "law"=some (.ref 575):=uY (G:=G) (h:=s₁.heap) (fun ζ ζ h=>h) (eq_of_beq g6)
 rw[ge] at hmg
 have hmg:=si hmg
 injection hmg with hmg
 subst hmg
 have X:FX G:=Qc (Qm (h:=s₁.heap) (fun ζ ζ h=>h) T.builtins (U1.mp g1) (U1.mp g2)) (U1.mp g3) e2
 obtain⟨c0,cs,x,t,h1,h2,h3⟩:=Je ns
 have hp:=Yl X ns c0 cs h1 h2 x t h3 411 (g7 _)
 let c:Cx:=⟨s₁.heap.get?,fun ζ=>0,⟨[],[]⟩,s₁⟩
 have hc:A0 G c:=⟨fun ζ ζ h=>h,fun ζ ζ h=>h,fun ζ ζ h=>absurd h (aN _),fun ζ ζ h=>E6 rfl h,fun ζ h=>absurd h (aN _)⟩
 have r1:=(MB (G:=G) (F:=c.F) ns hw).1
 have r2:=(MB (G:=G) (F:=c.F) ns hw).2
 have rv:o8 G c [.val (n5 ns)] [.ref l]:=⟨_,_,rfl,⟨l,vs.toArray,0,rfl,hl,k6 (I0 r2) (k6 hn (by rw[aE];decide)),r1⟩,rfl⟩
 refine U5 (hp callerA c [.ref l] ⟨rfl,by decide,by decide⟩ rfl hc rv) ?_
 rintro _ _ ⟨v,rfl,c',u,rfl,hi,st,rr,hu⟩
 rw[hu] at rr
 rw[show v=.bool true from rr]
 obtain⟨h',tk,es⟩:=st.same
 exact⟨rfl,fun b o h=>st.keep b o h id fun ζ h=>absurd h (aN _),by rw[es],by rw[es]⟩
end
end Rx.Lake
end
section
open PySem PySem.W PySem.Calls PyProof.Rows
set_option maxRecDepth 100000
set_option maxHeartbeats 0
namespace Rx.Lake
theorem Mw:dL.1.name="law":=by kernel_rfl
noncomputable def YS (_:World) (h:Heap):Prop:=∃ s,obs s=vN/\∀ b o,s.heap.get? b=some o->h.get? b=some o
theorem aC8 {xs:List WData} (h:fN.toRowW.pre.holds fN.toRowW.records {args:=[.list xs]}=true):xs.length<=63:=by
 obtain⟨h,_⟩:=holds_andW (show(WTm.and (.not (.lt (.lit (.int 63)) (.len (.arg 0)))) (.lit (.bool true))).holds _ _=true from h)
 have h:=condW_of h (by wtm_val)
 simp at h
 lia
inductive Gf (R:WRecords) (cl:Str->Option Addr) (h:Heap) (args:List WData) (vals:List Value):Prop
 | mk (ns:List Int) (l:Addr) (vs:List Value) (as:List Addr) (e:vals=[.ref l]) (hl:h.get? l=some (K5 vs.toArray 0)) (hr:ReadsAllW R cl h vs (ns.map .int) as) (hn:ns.length<=63)
theorem Ji {P:Params} {h:Heap} {cl:Str->Option Addr} {args:List WData} {vals:List Value} {as:List Addr} (hpre:fN.toRowW.claim.pre args=true) (hrd:ReadsAllW fN.toRowW.records cl h vals args as) (hwl:WellAll P h vals args):Gf fN.toRowW.records cl h args vals:=by
 obtain⟨h1,h2⟩:=pre_splitW hpre
 obtain⟨d,r,e,h3,h4⟩:=hasAllW_cons (h1:WShape.hasAll _ args [.list .int]=true)
 obtain⟨xs,e1,h5⟩:=hasW_list h3
 obtain⟨ns,e2⟩:=items_int h5
 have e:args=[.list (ns.map .int)]:=by rw[e,hasAllW_nil h4,e1,e2]
 rw[e] at h2 hrd hwl
 have hn:=aC8 h2
 rw[i9] at hn
 obtain⟨v,us,_,_,f,_,r1,r2⟩:=PA hrd
 rw[f,(DX r2).1] at hwl
 obtain⟨l,o',its,n,ai,g,go,_,gd,gr,_⟩:=readsW_list_open r1
 have w1:=(wellAll_head hwl).1
 rw[g] at w1
 cases w1 with
 | @list _ vs _ hl _=>
  rw[si (go.symm.trans hl)] at gd
  injection gd with gd _
  rw[<-gd] at gr
  exact⟨ns,l,vs,ai,by rw[f,(DX r2).1,g],hl,gr,hn⟩
theorem Zn (args:List WData):fN.toRowW.claim.post args (.bool true) args=true:=by wrow_post
theorem Tt:WalkO qV loose (fun ζ ζ=>True) YS fN.toRowW dL.1 dL.2 fun f vs=>PySem.call f vs:=by
 intro w s₀ s₁ mg mb G Y a o pm cd doc dV kV ho hd hcd hD hmg hg args vals as hpre hlay hrd hwl hlo
 obtain⟨ns,l,vs,ai,e,hl,gr,hn⟩:=Ji hpre hrd hwl
 rw[e]
 refine a1y (U5 (walk G.T Y (Mw▸hmg) hl gr hn) fun r s' h=>?_)
 rw[h.1]
 exact⟨.inl ⟨_,.bool true,[],rfl,fun cls=>rfl,.bool true,Zn args,fun ζ=>⟨oX,fun a h=>absurd h A8⟩⟩,.of_keep h.2.1,h.2.2.1,by rw[h.2.2.2,hg];exact fun y h=>absurd h (Array.not_mem_empty y)⟩
theorem Tz (said:fN.wellSaid=true):fN.Holds:=
 holds_open (r:=fN) (q:=qV) (loose:=loose) (Xt:=fun ζ=>true) (XP:=fun ζ ζ=>True) (Yf:=obs) (Ya:=fun ζ=>vN) (YP:=YS) (d:=dL.1) (kwd:=dL.2) (N:=6000) aI6 (fun w s e=>⟨s,e,fun ζ ζ h=>h⟩) (fun w h h' ⟨s,e,k⟩ k'=>⟨s,e,fun b o g=>k' b o (k b o g)⟩)
  (fun ζ ζ=>trivial) (fun ζ ζ ζ ζ ζ=>trivial) (by kernel_rfl) (by kernel_rfl) (by kernel_rfl) (fun ζ ζ=>recFacts_nil rfl) rfl said (by decide +kernel) ⟨rfl,rfl,rfl,rfl,rfl,by decide +kernel⟩ ⟨[.list []],by decide +kernel,by decide +kernel⟩ Tt
theorem aB0:PySem.W.Fast.tw17960256430627541270 (PySem.W.Fast.tw2368527892694137696 PySem.Challenge.rw_xw0286_01)=true:=by kernel_rfl
theorem Tf:PySem.Challenge.rw_xw0286_01.wellSaid=true:=by
 rw[Jc]
 delta PySem.W.Fast.tw9446332074065402090
 refine PySem.W.look_both (PySem.W.look_both (PySem.W.look_both (PySem.W.look_both (PySem.W.look_both (PySem.W.look_both (PySem.W.look_both (PySem.W.look_both (PySem.W.look_both (PySem.W.look_both (PySem.W.look_both (PySem.W.look_both (PySem.W.look_both (PySem.W.look_both (PySem.W.look_both (PySem.W.look_both (PySem.W.look_both (PySem.W.look_both aB0 ?_) ?_) ?_) ?_) ?_) ?_) ?_) ?_) ?_) ?_) ?_) ?_) ?_) ?_) ?_) ?_) ?_) ?_
 all_goals kernel_rfl
end Rx.Lake
theorem PySem.Challenge.cw_xw0286_01_holds : PySem.Challenge.rw_xw0286_01.Holds :=
 PySem.W.holds_law Rx.Lake.Tf fun said=>Rx.Lake.Tz said
end
