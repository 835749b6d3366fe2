import PyProof.Rows.All
import Wide.All
import OpenK.AllK
import Wide.FinOn
import KE.KDictOf
import PyProof.Rows.SetFrom
import PyProof.Rows.SortRuns
import KE.KSortKey
import KE.KLam
import KE.KPar
import Lean
import PySem.Challenge.RW_nt0057_01
set_option maxRecDepth 100000
set_option linter.all false
set_option genSizeOf false
set_option genCtorIdx false
set_option bootstrap.genMatcherCode false
set_option Elab.async false
set_option autoImplicit true
set_option relaxedAutoImplicit true
namespace Mine
open PySem PySem.W PySem.Calls PyProof.Rows
open _root_.Array renaming getElem?_toList→dG,length_toList→fO,getElem?_eq_some_iff→sj,getElem?_eq_getElem→xg,toList_push→xr,size_push→xC,toList_append→Dg,toList_eraseIdxIfInBounds→RQ,getElem?_eq_none→Sh,toArray_toList→Sy,mem_toList_iff→Sz
open _root_.Bool renaming false_ne_true→xp,eq_false_iff→xt,or_eq_true→Ab,not_not→An,and_eq_true→Du,or_eq_false_iff→Jj,and_eq_true_iff→Jk,false_eq_true→Jw,false_and→JM,false_or→JP,true→J,false→ah
open _root_.Decidable renaming decide→aJ
open _root_.False renaming elim→bD
open _root_.ForInStep renaming yield→xB
open _root_.Int renaming natCast_nonneg→fw,le_of_lt→fy,le_refl→gz,not_lt→gA,le_trans→gO,ofNat_lt→hO,ne_of_gt→mW,toNat_natCast→nS,ofNat_le→pn,lt_of_le_of_lt→qF,lt_trans→sM,toNat_of_nonneg→uJ,lt_of_lt_of_le→uK,eq_ofNat_of_zero_le→zR,natCast_add→Ac,toNat_sub→Ai,lt_irrefl→Aj,le_of_eq→Ao,sub_zero→DM,not_le→D0,toNat→Eo,le_add_of_nonneg_right→I7,lt_add_one_of_le→Jn,toNat_le_toNat→Jy,le_antisymm→JH,add_zero→JX,add_comm→JY,lt_iff_le_and_ne→SG
open _root_.Int.ofNat renaming inj→DD
open _root_.List renaming append_assoc→aN,length_map→aO,length_append→aX,mem_append_left→bp,append_nil→bx,map_append→bZ,range→cb,mem_cons→cf,mem_append_right→cy,map→cA,mem_singleton→cK,nodup_append→cM,forall_mem_cons→eF,nodup_cons→eN,map_cons→ff,length_cons→fP,getElem?_eq_getElem→gi,getElem?_map→gj,nil_append→gk,mem_append→gx,getElem?_eq_some_iff→g7,length_range→g8,length_singleton→iY,isEmpty_iff→iZ,mem_map→i4,take_append_drop→jm,getD_eq_getElem?_getD→j6,length_nil→j7,getElem?_eq_none→kZ,pairwise_cons→lg,foldl_cons→ll,mem_range→lr,cons_append→l9,all_eq_true→md,getElem?_append_right→mQ,perm_append_comm→mS,flatMap_cons→mT,length_drop→mU,nodup_nil→nU,map_map→nW,length_eq_zero_iff→pg,length_reverse→ph,getElem?_append_left→qw,pairwise_append→qB,mem_map_of_mem→qC,findIdx?_cons→qD,length_take→qH,length→qL,pairwise_singleton→su,getElem?_set_ne→sA,lookup_cons→sD,length_set→sF,mem_of_mem_drop→uH,size_toArray→uL,reverse_cons→uM,not_mem_nil→uN,cons_ne_nil→uO,take_of_length_le→xi,contains_iff_mem→xk,mem_of_mem_take→xn,filter_cons→xA,mem_filter→xD,drop_zero→xG,take→x4,getElem?_eq_none_iff→zP,forall_mem_append→zS,getElem?_of_mem→zU,map_congr_left→zW,pairwise_map→z4,foldl_append→z5,flatMap_nil→z7,map_take→Ah,eq_nil_of_length_eq_zero→C6,filterMap_cons_some→C8,pairwise_lt_range→Dd,drop_eq_nil_of_le→De,concat_eq_append→Df,getElem?_range→Dh,take_add_one→Dp,drop_sublist→Dq,perm_middle→Ds,mem_reverse→Dt,forIn_cons→Dy,filterMap→DB,map_nil→DL,append_ne_nil_of_right_ne_nil→I3,drop_eq_getElem_cons→I9,getElem?_take_of_lt→Jb,filterMap_cons_none→Jc,filter_cons_of_pos→Jd,length_take_of_le→Je,singleton_append→Jg,pairwise_reverse→Jh,toList_toArray→Jp,length_take_le→Jq,flatMap_append→Jr,getElem?_drop→Ju,filter_append→Jv,getElem_mem→JC,range_succ→JE,length_zip→JF,find?_cons→JG,any_cons→JN,map_set→JW,findIdx?_eq_some_iff_getElem→RP,findIdx?_eq_none_iff→R2,sublist_append_left→R5,getElem?_cons_succ→R9,filter_cons_of_neg→Sa,getElem?_set_self→Si,append_eq_nil_iff→Sj,getElem?_toArray→Ss,eq_nil_or_concat→Su,length_dropLast→SA,append_left_inj→SD,length_pos_iff→SI,filterMap_cons→SJ
open _root_.List.Perm renaming swap→JJ
open _root_.List.cons renaming inj→nV
open _root_.Nat renaming le_refl→aQ,le_trans→bf,lt_of_le_of_lt→bq,lt_trans→ct,le_succ→dm,lt_of_lt_of_le→d9,le_of_lt→ee,le_of_eq→eA,zero_le→eO,le_add_right→fe,zero_add→fx,add_le_add_left→gd,succ_le_succ→gM,ne_of_lt→hJ,beq→ie,not_lt→iD,add_assoc→j9,add_comm→kb,le_antisymm→me,ne_of_gt→mh,le_of_not_lt→mV,lt_succ_self→nT,le_of_lt_succ→pk,le_of_succ_le_succ→qy,add_right_comm→qE,succ_lt_succ→qI,sub_self→qK,sub_le→qP,le_succ_of_le→sC,min_le_right→sE,add_le_add→sH,lt_irrefl→sL,eq_of_beq_eq_true→uG,add_le_add_right→uI,succ_pos→uX,add_sub_cancel_left→xh,lt_succ_of_lt→xu,lt_of_succ_lt→xw,min_eq_left→xE,le_add_left→xF,mul_lt_mul_of_pos_left→zO,le_of_succ_le→z6,max_eq_right→z8,add_lt_add→Af,lt_add_of_pos_right→Dc,mul_le_mul_left→Di,sub_add_cancel→Dj,succ_ne_self→Dv,min_eq_right→Dw,min_le_left→Dz,succ→ES,eq_zero_of_not_pos→Jf,not_succ_le_zero→Jl,add_lt_add_right→Jm,add_sub_cancel→Jx,sub_pos_of_lt→JB,mul_two→J8,eq_of_mul_eq_mul_left→R3,succ_add_eq_add_succ→R6,exists_eq_add_of_le→Sb,eq_zero_of_le_zero→Sk,le_of_ble_eq_true→Sv,le_div_iff_mul_le→Sw,div_lt_of_lt_mul→SE,add_lt_of_lt_sub→SF
open _root_.Nat.succ renaming inj→Ak
open _root_.Ne renaming symm→mu
open _root_.Option renaming none→aq,bind_eq_some_iff→bN,map_eq_some_iff→dw,map→Ax,isSome_map→Dm,map_map→DA,isSome_iff_exists→Ja,any→Kv,map_eq_none_iff→Sg,some→U,none→aj
open _root_.Option.some renaming inj→aA
open _root_.Prod.mk renaming inj→mZ
open _root_.PyProof renaming noPylong_small→Sf
open _root_.PyProof.Rows renaming callWith_type→I6,IntsAre→dO,wpS_bind→gn,SortSt→gq,wpS_pure→iE,seqObj→i7,arrOf→jL,Keyed→kq,wpS_forRange→xJ,slot_tuple_getitem→zX,assignInOrder_cons→zY
open _root_.PyProof.Rows.F renaming plain_set_update_loop→I2,entry_set_update_loop→RO
open _root_.PySem renaming wpAny_assign_Name→zQ,truthy→Al,Fin→AF,plainIs→DG,cellOf→JV,slot_list_setitem→R8,Value→ae,Str→af,Addr→ag,Expr→ai,model→ar,wpAny_bind→au,Shared→aw,wpAny→ax,Heap→az,World→aE,wpAny_pure→aI,Obj→aP,Pos→aY,Around→bj,Stmt→br,SetTable→bE,sizeLine→bQ,DictEntry→cm,Env→dh,NameKind→dC,Builtin→dD,starEach→gC,Scope→gE,wpAny_holding→gN,rawInt→gQ,CmpOp→gR,Tok→gY,codeAny→ic,intKind→iG,backTo→i8,wpAny_mono→jn,Result→jq,mainGlobals→jE,clipAt→jG,codeAny_mono→ka,wpAny_of_eq→kc,sysModules→kf,wpAny_newObj_type→lh,pyNext→lD,getItem→mq,cellsFrom→m4,wpAny_setState_of→nR,wpAny_truthy_bool→pj,IsPart→pL,wpAny_call_entry→qG,builtinsNs→qM,assignEach→qN,BoolOp→rj,wpAny_setField→sG,attributeBase→sI,callWith→sS,hashStr→sW,Const→tI,swappedStores→uP,bootBuiltins→uS,wpAny_typeOf→uT,scanBound→va,Keyword→vp,wpAny_isInstance→xy,assignInOrder→xH,wpAny_pyIter_list→zZ,letOwnedTupleGo→z9,Comprehension→DC
open _root_.PySem.Around renaming under_plainId→Ji
open _root_.PySem.Builtin.Dict renaming updateFrom→R7
open _root_.PySem.Builtin.Dict_items renaming ownsTuple→RU
open _root_.PySem.Builtin.List renaming listLengthHint→RW,listSameRef→R4
open _root_.PySem.Builtin.Slice renaming slicePlaces→I8,sliceApplied→RX,sliceAdjust→RY
open _root_.PySem.Challenge renaming pw_nt0057_01→I4,rw_nt0057_01→RV
open _root_.PySem.Env renaming kindOf→D2
open _root_.PySem.Expr renaming Subscript→JK,Attribute→JL,ListComp→JO
open _root_.PySem.F renaming slot_dict_keyiterator_next→zN,plain_extend_loop→C7,slot_list_getattribute→C9,called_set→Jt,args_dict_keyiterator_next_1→RS,entry_dict_keyiterator_next→RT,entry_extend_loop→RZ,type_list_pop→So,slot_set_iter→Sp,slot_list_pop→Sq,plain_set_new→Sr
open _root_.PySem.Heap renaming get?_push_of_some→dX,get?_push_size→eM,lt_size→gy,SameBut→mf,get?_update_self→qA,get?_update_other→uF,ExtBut→uZ,get?_none_of_le→zV,size_push→Ae,hide_ne→Am
open _root_.PySem.Heap.SameBut renaming update→nQ
open _root_.PySem.IntMulOk renaming of_right→SM
open _root_.PySem.NameKind renaming free→sJ,cell→DE
open _root_.PySem.Obj renaming mapSeq→mi,mapFields→uR,cls_mapFields→Dr
open _root_.PySem.PyData renaming eqv→pw,list→uY,int→u9,eqvAll→xI,depthAll→Dx,canLayAll0→JA
open _root_.PySem.SetTable renaming below→j8,grown→Ad,has→DK
open _root_.PySem.SetTable.Met.empty renaming inj→Se
open _root_.PySem.SetTable.Slot renaming live→SK
open _root_.PySem.SetTable.below renaming go→Dl
open _root_.PySem.SetTable.probe renaming go→Dk
open _root_.PySem.Shared renaming TypeIs→DF
open _root_.PySem.Str renaming ofString→uW
open _root_.PySem.Value renaming none→qO,type→sP,ref→sR
open _root_.PySem.Value.ref renaming inj→uQ
open _root_.PySem.W renaming Frag→aS,instObj→kj,tabObj→mw
open _root_.PySem.W.Eqv renaming refl→vo
open _root_.PySem.pickOrder renaming go→JU
local macro_rules |`(⋯)=>`(by kernel_rfl)
set_option hygiene false in
local macro_rules |`(tactic|exists $t)=>`(tactic|first|exact $t|(intro j;exists $t))
section
theorem ay{α:Type}{b:α}{P:Prop}(h:aj=U b):P:=nomatch h
theorem mM{α:Type}{b:α}{P:Prop}(h:U b=aj):P:=nomatch h
theorem bo{P:Prop}(h:ah=J):P:=nomatch h
theorem jk{P:Prop}(h:J=ah):P:=nomatch h
theorem dq{α:Type}{b:α}{P:Prop}(h:b∈([]:List α)):P:=nomatch h
inductive V where
 |none|bool (b:Bool)|int (i:Int)|str (s:af)|fn (a:Nat)|bi (id:String)|ty (n:String)
 |tup (xs:List V)|list (xs:List V)|dict (ks vs:List V)|inst (c:Nat) (ns:List af) (vs:List V)|cell (i:Nat)
inductive Sl where
 |val (v:V)|list (xs:List V)|dict (ks vs:List V)
set_option genInjectivity false in
inductive M where
 |list (xs:List V)|dict (ks vs:List V)|inst (c:Nat) (ns:List af) (vs:List V)|gone (v:V)
inductive R where
 |val (v:V)|var (x:af)|list (xs:List V)|dict (ks vs:List V)
noncomputable def R.v?(r:R):Option V:=R.casesOn (motive:=λj=>Option V) r U (λj=>aj) (λj=>aj) (λj j=>aj)
theorem Ht{v:V}{x:af}{P:Prop}(h:R.val v=.var x):P:=mM (congrArg R.v? h)
noncomputable def R.x?(r:R):Option Str:=R.casesOn (motive:=λj=>Option af) r (λj=>aj) U (λj=>aj) (λj j=>aj)
noncomputable def Sl.v?(r:Sl):Option V:=Sl.casesOn (motive:=λj=>Option V) r U (λj=>aj) (λj j=>aj)
set_option genCtorIdx true in
inductive Fl where
 |next|brk|cont|ret (v:V)
set_option genInjectivity false in
structure S where
 vars:List (af×Sl):=[]
 cv:List (af×V):=[]
 bX:List Sl:=[]
 mem:List M:=[]
noncomputable def lb:List Nat->List Nat->Bool:=List.rec (List.rec J λj j j=>ah) λa j ih=>List.rec ah λb l j=>Bool.rec ah (ih l) (ie a b)
theorem agR{a:List Nat}:∀{b},lb a b=J->a=b:=by
 induction a with
 |nil=>
  intro b h
  cases b with
  |nil=>rfl
  |cons c l=>exact bo h
 |cons x a ih=>
  intro b h
  cases b with
  |nil=>exact bo h
  |cons c l=>
   cases q:ie x c with
   |false=>exact bo ((show lb (x::a) (c::l)=Bool.rec ah (lb a l) (ie x c) from rfl).symm.trans h |> λe=>by rw[q] at e;exact e)
   |true=>
    rw[uG q,ih (b:=l) ((show lb (x::a) (c::l)=Bool.rec ah (lb a l) (ie x c) from rfl).symm.trans h |> λe=>by rw[q] at e;exact e)]
theorem ahb{a:List Nat}:lb a a=true:=by
 induction a with
 |nil=>rfl
 |cons x a ih=>
  show Bool.rec ah (lb a a) (ie x x)=J
  rw[Nat.beq_refl,ih]
noncomputable def sEq(a b:af):Decidable (a=b):=Bool.rec (motive:=λv=>lb a.cps.toList b.cps.toList=v->Decidable (a=b)) (λh=>isFalse λe=>jk (ahb.symm.trans (e▸h))) (λh=>isTrue (congrArg (λl=>af.mk (Array.mk l)) (agR h))) (lb a.cps.toList b.cps.toList) rfl
noncomputable def lk{α:Type}(x:af)(l:List (af×α)):Option α:=List.rec aj (λp j ih=>@ite _ (p.1=x) (sEq p.1 x) (U p.2) ih) l
noncomputable def up{α:Type}(x:af)(a:α)(l:List (af×α)):List (af×α):=List.rec [(x,a)] (λp r ih=>@ite _ (p.1=x) (sEq p.1 x) ((p.1,a)::r) (p::ih)) l
noncomputable def S.set(s:S)(x:af)(a:Sl):S:={s with vars:=up x a s.vars}
mutual
noncomputable def V.free:V->Bool
 |.tup xs=>V.bI xs
 |.list xs=>V.bI xs
 |.dict ks vs=>V.bI ks&&V.bI vs
 |.inst _ _ vs=>V.bI vs
 |.cell _=>ah
 |_=>J
noncomputable def V.bI:List V->Bool
 |[]=>J
 |v::r=>V.free v&&V.bI r
end
mutual
noncomputable def pd:V->PyData
 |.bool b=>.bool b
 |.int i=>.int i
 |.str s=>.str s
 |.tup xs=>.tuple (d8 xs)
 |.list xs=>.list (d8 xs)
 |_=>.none
noncomputable def d8:List V->List PyData
 |[]=>[]
 |x::r=>pd x::d8 r
end
noncomputable def veq(a b:V):Option Bool:=U (pw (pd a) (pd b))
noncomputable def dJ(k:V)(ks:List V):Option Nat:=ks.findIdx? λx=>pw (pd x) (pd k)
noncomputable def gs(k:V)(ks vs:List V):Option (Option V):=U ((dJ k ks).bind λi=>vs[i]?)
noncomputable def nj(k v:V)(ks vs:List V):Option Nat->List V×List V
 |some i=>(ks,vs.set i v)
 |none=>(ks++[k],vs++[v])
noncomputable def dput(k v:V)(ks vs:List V):Option (List V×List V):=U (nj k v ks vs (dJ k ks))
noncomputable def qq(v:V):Bool:=V.casesOn (motive_1:=λj=>Bool) v ah (λj=>ah) (λa=>J) (λj=>ah) (λj=>ah) (λj=>ah) (λj=>ah) (λj=>ah) (λj=>ah) (λj j=>ah) (λj j j=>ah) (λj=>ah)
noncomputable def kd:V->Nat
 |.int _=>1
 |.str _=>2
 |.tup xs=>if xs.all qq then 3 else 0
 |_=>0
noncomputable def dz(k:V)(ks:List V):Bool:=kd k !=0&&ks.all λx=>kd x==kd k
noncomputable def cG:Nat:=100000
noncomputable def V.ow(v:V):Option Nat:=V.casesOn (motive_1:=λj=>Option Nat) v aq (λj=>aq) (λj=>aq) (λj=>aq) (λj=>aq) (λj=>aq) (λj=>aq) (λj=>aq) (λj=>aq) (λj j=>aq) (λj j j=>aq) (λa=>U a)
noncomputable def M.v:M->V
 |.list xs=>.list xs
 |.dict ks vs=>.dict ks vs
 |.inst c ns vs=>.inst c ns vs
 |.gone v=>v
noncomputable def S.view(s:S)(v:V):Option V:=v.ow.elim (U v) λi=>(s.mem[i]?).map M.v
noncomputable def S.FC(s:S):Sl->Option V
 |.val v=>s.view v
 |.list xs=>U (.list xs)
 |.dict ks vs=>U (.dict ks vs)
noncomputable def S.peek(s:S)(r:R):Option V:=match r with
 |.val v=>s.view v
 |.list xs=>U (.list xs)
 |.dict ks vs=>U (.dict ks vs)
 |.var x=>(lk x s.vars).bind s.FC
noncomputable def S.Gq(s:S)(x:af):Sl->V×S
 |.val v=>(v,s)
 |.list xs=>(.list xs,s.set x (.val (.list xs)))
 |.dict ks vs=>(.dict ks vs,s.set x (.val (.dict ks vs)))
noncomputable def S.nJ(s:S)(r:R):Option (V×S):=match r with
 |.val v=>U (v,s)
 |.list xs=>U (.list xs,s)
 |.dict ks vs=>U (.dict ks vs,s)
 |.var x=>(lk x s.vars).map (s.Gq x)
noncomputable def R.fix:R->R
 |.list xs=>.val (.list xs)
 |.dict ks vs=>.val (.dict ks vs)
 |r=>r
noncomputable def tL(f:V->List M->Option (V×List M)):List V->List M->Option (List V×List M)
 |[],m=>U ([],m)
 |v::r,m=>(f v m).bind λp=>(tL f r p.2).map λq=>(p.1::q.1,q.2)
noncomputable def M.kids:M->Option (List V)
 |.list xs=>U xs
 |.dict ks vs=>if V.bI ks then U vs else aj
 |.inst _ _ vs=>U vs
 |.gone _=>aj
noncomputable def M.with(ys:List V):M->V
 |.list _=>.list ys
 |.dict ks _=>.dict ks ys
 |.inst c ns _=>.inst c ns ys
 |.gone v=>v
noncomputable def M.tag:M->Nat
 |.list _=>0
 |.dict _ _=>1
 |.inst _ _ _=>2
 |.gone _=>3
noncomputable def M.ou(v:M):Option V:=M.casesOn (motive:=λj=>Option V) v (λj=>aq) (λj j=>aq) (λj j j=>aq) (λa=>U a)
noncomputable def FX(f:V->List M->Option (V×List M))(v:V)(m:List M):Option (V×List M):=
 if v.free then U (v,m) else v.ow.bind λi=>m[i]?.bind λc=>c.ou.elim
  (c.kids.bind λxs=>(tL f xs m).bind λp=>p.2[i]?.bind λc1=>if c1.tag=c.tag then U (c.with p.1,p.2.set i (.gone (c.with p.1))) else aj)
  λu=>U (u,m)
noncomputable def deep:Nat->V->List M->Option (V×List M)
 |0=>λj j=>aj
 |n+1=>FX (deep n)
set_option genInjectivity false in
structure bb where
 params:List af
 defaults:List V
 body:List br
 sc:List (af×dC)
set_option genInjectivity false in
structure lL where
 init:Nat
 atts:List af
 meths:List (af×Nat)
set_option genInjectivity false in
structure bR where
 glob:af->Option V
 fn:Nat->Option bb
 cls:Nat->Option lL
 wx:Nat->Bool
noncomputable def Gf:Nat:=115
noncomputable def pJ:Addr:=114
noncomputable def dY:Addr:=112
noncomputable def pM:Pos:=⟨92,53,92,73⟩
noncomputable def yO:Str:=uW "form_sorted"
noncomputable def rd:Str:=yO++".<locals>."++"<lambda>"
set_option genInjectivity false in
structure Cx where
 sc:List (af×dC)
 wx:Bool
 comp:Bool
 lam:Bool
noncomputable abbrev n!(s:String):Str:=uW s
noncomputable def yY{α:Type}:List α->Option (α×α)
 |[a,b]=>U (a,b)
 |_=>aj
noncomputable def truthy(v:V):Option Bool:=V.casesOn (motive_1:=λj=>Option Bool) v aq (λa=>U a) (λj=>aq) (λj=>aq) (λj=>aq) (λj=>aq) (λj=>aq) (λj=>aq) (λa=>U (!a.isEmpty)) (λj j=>aq) (λj j j=>aq) (λj=>aq)
noncomputable def afT:List ai->List vp->Bool
 |[],[]=>J
 |_,_=>ah
noncomputable def Ze(v:ai):Bool:=by
 apply ai.casesOn (motive_1:=λj=>Bool) v
 case Name=>exact λa b=>J
 all_goals exists ah
noncomputable def qS(v:ai):Bool:=by
 apply ai.casesOn (motive_1:=λj=>Bool) v
 case Call=>exact λa b c d=>!(Ze a&&afT b c)
 all_goals exists J
section
variable (G:bR)(ih:I)
noncomputable def zg(x:af)(v:Sl):R:=Sl.casesOn (motive:=λj=>R) v (λa=>R.val a) (λj=>R.var x) (λj j=>R.var x)
noncomputable def QA(cx:Cx)(x:af)(s:S):dC->Option R
 |.local=>if cx.comp then(lk x s.cv).map .val else(lk x s.vars).map (zg x)
 |.cell=>if cx.comp then aj else(lk x s.vars).map (zg x)
 |.free=>if cx.comp then(lk x s.vars).map (zg x) else aj
 |.globalImplicit=>(G.glob x).map .val
 |_=>aj
noncomputable def dU(cx:Cx)(x:af)(s:S):Option R:=@ite _ (x=n! "__debug__") (sEq x (n! "__debug__")) aj ((lk x cx.sc).bind (QA G cx x s))
noncomputable def V.fH(v:V):Option Int:=V.casesOn (motive_1:=λj=>Option Int) v aq (λj=>aq) (λa=>U a) (λj=>aq) (λj=>aq) (λj=>aq) (λj=>aq) (λj=>aq) (λj=>aq) (λj j=>aq) (λj j j=>aq) (λj=>aq)
noncomputable def V.lJ(v:V):Option (List V):=V.casesOn (motive_1:=λj=>Option (List V)) v aq (λj=>aq) (λj=>aq) (λj=>aq) (λj=>aq) (λj=>aq) (λj=>aq) (λj=>aq) (λa=>U a) (λj j=>aq) (λj j j=>aq) (λj=>aq)
noncomputable def binI(f:Int->Int->Option R)(a b:V):Option R:=a.fH.bind λi=>b.fH.bind λj=>f i j
noncomputable def PX(a b:V):Option R:=a.lJ.bind λxs=>b.lJ.bind λys=>if xs.length+ys.length<=cG then U (.list (xs++ys)) else aj
noncomputable def fg(o:Operator)(a b:V):Option R:=match o with
 |.Add=>(binI (λi j=>U (.val (.int (i+j)))) a b).or (PX a b)
 |.Sub=>binI (λi j=>U (.val (.int (i-j)))) a b
 |.Mult=>binI (λi j=>if j.natAbs<18446744073709551616 then U (.val (.int (i*j))) else aj) a b
 |.FloorDiv=>binI (λi j=>if 0<j/\j<1073741824 then U (.val (.int (i/j))) else aj) a b
 |.Mod=>binI (λi j=>if 0<j then U (.val (.int (i%j))) else aj) a b
 |_=>aj
noncomputable def Ce(f:List V->Bool)(v:V):Bool:=V.casesOn (motive_1:=λj=>Bool) v J (λa=>J) (λa=>J) (λa=>a.cps.all (·<0x110000)) (λj=>ah) (λj=>ah) (λj=>ah) (λa=>f a) (λa=>f a) (λj j=>ah) (λj j j=>ah) (λj=>ah)
noncomputable def fq:Nat->V->Bool
 |0=>Ce λj=>ah
 |n+1=>Ce λxs=>xs.all (fq n)
noncomputable def isIn(v:V)(xs:List V):Option Bool:=if fq 8 v&&xs.all (fq 8) then U (xs.any λx=>pw (pd x) (pd v)) else aj
noncomputable def isKey(k:V)(ks:List V):Option Bool:=if dz k ks then U (dJ k ks).isSome else aj
noncomputable def rT(a b:V):Option Bool:=if fq 8 a&&fq 8 b then veq a b else aj
noncomputable def kK:Option Bool->Option Bool
 |some c=>U (!c)
 |none=>aj
noncomputable def isNone(v:V):Option Bool:=V.casesOn (motive_1:=λj=>Option Bool) v (U J) (λj=>U ah) (λj=>U ah) (λj=>U ah) (λj=>U ah) (λa=>aq) (λj=>U ah) (λj=>U ah) (λj=>U ah) (λj j=>U ah) (λj j j=>U ah) (λj=>U ah)
noncomputable def CC(a v:V):Option Bool:=V.casesOn (motive_1:=λj=>Option Bool) v (isNone a) (λj=>aq) (λj=>aq) (λj=>aq) (λj=>aq) (λj=>aq) (λj=>aq) (λj=>aq) (λj=>aq) (λj j=>aq) (λj j j=>aq) (λj=>aq)
noncomputable def H8(x v:V):Option Bool:=V.casesOn (motive_1:=λj=>Option Bool) v aq (λj=>aq) (λj=>aq) (λj=>aq) (λj=>aq) (λj=>aq) (λj=>aq) (λa=>isIn x a) (λa=>isIn x a) (λa b=>isKey x a) (λj j j=>aq) (λj=>aq)
noncomputable def B5(p:Int->Int->Bool)(a b:V):Option Bool:=a.fH.bind λi=>b.fH.bind λj=>U (p i j)
noncomputable def bC(o:gR)(a b:V):Option Bool:=match o with
 |.Eq=>rT a b
 |.NotEq=>kK (rT a b)
 |.Lt=>B5 (λi j=>aJ (i<j)) a b
 |.LtE=>B5 (λi j=>aJ (i<=j)) a b
 |.Gt=>B5 (λi j=>aJ (j<i)) a b
 |.GtE=>B5 (λi j=>aJ (j<=i)) a b
 |.Is=>CC a b
 |.IsNot=>kK (CC a b)
 |.In=>H8 a b
 |.NotIn=>kK (H8 a b)
noncomputable def vV(v:V)(s:S):Option (V×S):=v.ow.elim (U (v,s)) λi=>s.mem[i]?.bind λc=>
 if c.tag=0 then(deep 20 v s.mem).map λp=>(p.1,{s with mem:=p.2}) else U (c.ou.getD v,s)
noncomputable def cj(a b:Int):List V:=(cb (b-a).toNat).map λ(i:Nat)=>.int (a+i)
noncomputable def jO(i:Nat):List V->List V
 |[]=>[]
 |x::r=>.tup [.int i,x]::jO (i+1) r
noncomputable def oM(xs ys:List V):List V:=List.zipWith (λx y=>.tup [x,y]) xs ys
noncomputable def vW:List V->Option (List Int)
 |[]=>U []
 |v::r=>v.fH.bind λi=>(vW r).map (i::·)
noncomputable def insI(i:Int):List Int->List Int
 |[]=>[i]
 |j::r=>if i<j then i::j::r else j::insI i r
noncomputable def sortI:List Int->List Int
 |[]=>[]
 |i::r=>insI i (sortI r)
noncomputable def fZ:List Int->List Int
 |[]=>[]
 |i::r=>if r.contains i then fZ r else i::fZ r
noncomputable def Bx(v:V):Option (List V):=V.casesOn (motive_1:=λj=>Option (List V)) v aq (λj=>aq) (λj=>aq) (λj=>aq) (λj=>aq) (λj=>aq) (λj=>aq) (λa=>U a) (λa=>U a) (λa b=>U a) (λj j j=>aq) (λj=>aq)
noncomputable def tZ(k:Int)(v:V):List (Int×V)->List (Int×V)
 |[]=>[(k,v)]
 |(j,u)::r=>if k<=j then(k,v)::(j,u)::r else(j,u)::tZ k v r
noncomputable def kC:List (Int×V)->List (Int×V)
 |[]=>[]
 |(k,v)::r=>tZ k v (kC r)
noncomputable def V.tJ(v:V):Option (List V):=V.casesOn (motive_1:=λj=>Option (List V)) v aq (λj=>aq) (λj=>aq) (λj=>aq) (λj=>aq) (λj=>aq) (λj=>aq) (λa=>U a) (λj=>aq) (λj j=>aq) (λj j j=>aq) (λj=>aq)
noncomputable def V.GI(v:V):Option Int:=v.tJ.bind λl=>l.head?.bind V.fH
noncomputable def vF:List V->Option (List (Int×V))
 |[]=>U []
 |v::r=>v.GI.bind λk=>(vF r).map λl=>(k,v)::l
noncomputable def V.asPair(v:V):Option (V×V):=v.tJ.bind yY
noncomputable def Bm:List V->Option (List (V×V))
 |[]=>U []
 |v::r=>v.asPair.bind λp=>(Bm r).map (p::·)
noncomputable def nX:List (V×V)->List V->List V->Option (List V×List V)
 |[],ks,vs=>U (ks,vs)
 |p::r,ks,vs=>if dz p.1 ks then nX r (nj p.1 p.2 ks vs (dJ p.1 ks)).1 (nj p.1 p.2 ks vs (dJ p.1 ks)).2 else aj
noncomputable def wi:List V->Option V
 |[v]=>U v
 |_=>aj
noncomputable def Cu:List V->Option (V×V)
 |[a,b]=>U (a,b)
 |_=>aj
noncomputable def V.len(v:V):Option R:=V.casesOn (motive_1:=λj=>Option R) v aq (λj=>aq) (λj=>aq) (λj=>aq) (λj=>aq) (λj=>aq) (λj=>aq) (λa=>U (.val (.int a.length))) (λa=>U (.val (.int a.length))) (λj j=>aq) (λj j j=>aq) (λj=>aq)
noncomputable def V.Qq(v:V):Option Bool:=V.casesOn (motive_1:=λj=>Option Bool) v (U ah) (λa=>U J) (λa=>U ah) (λa=>U ah) (λj=>aq) (λj=>aq) (λj=>aq) (λa=>U ah) (λa=>U ah) (λa b=>U ah) (λj j j=>aq) (λj=>aq)
noncomputable def V.Hf(v:V):Bool:=V.casesOn (motive_1:=λj=>Bool) v ah (λj=>ah) (λj=>ah) (λj=>ah) (λj=>ah) (λj=>ah) (λa=>aJ (a="bool")) (λj=>ah) (λj=>ah) (λj j=>ah) (λj j j=>ah) (λj=>ah)
noncomputable def V.items(v:V):Option R:=V.casesOn (motive_1:=λj=>Option R) v aq (λj=>aq) (λj=>aq) (λj=>aq) (λj=>aq) (λj=>aq) (λj=>aq) (λa=>U (.list a)) (λa=>U (.list a)) (λj j=>aq) (λj j j=>aq) (λj=>aq)
noncomputable def V.toI(v:V):Option R:=v.fH.map λi=>.val (.int i)
noncomputable def agF(p:V×V):Option R:=if p.2.Hf then p.1.Qq.map λb=>.val (.bool b) else aj
noncomputable def O1(v:V):Option R:=(Bx v).bind λxs=>(vW xs).bind λl=>if l.length<64 then U (.list ((sortI l).map .int)) else aj
noncomputable def AY(id:String)(as:List V):Option R:=
 if id="len" then(wi as).bind V.len
 else if id="isinstance" then(Cu as).bind agF
 else if id="min" then(Cu as).bind λp=>binI (λa b=>U (.val (.int (if b<a then b else a)))) p.1 p.2
 else if id="max" then(Cu as).bind λp=>binI (λa b=>U (.val (.int (if a<b then b else a)))) p.1 p.2
 else if id="sorted" then(wi as).bind O1
 else aj
noncomputable def O8(v:V):Option R:=v.lJ.bind λxs=>(Bm xs).bind λps=>(nX ps [] []).map λp=>.dict p.1 p.2
noncomputable def BO(n:String)(as:List V):Option R:=
 if n="list" then(wi as).bind V.items
 else if n="int" then(wi as).bind V.toI
 else if n="dict" then(wi as).bind O8
 else aj
noncomputable def vU(s:S):List R->Option (List V)
 |[]=>U []
 |r::rs=>(s.peek r).bind λv=>(vU s rs).map (v::·)
noncomputable def Bu(xs:List V)(l u st:Option Int):Option (List V):=match st with
 |none=>U ((xs.drop (l.elim 0 (jG xs.length))).take (u.elim xs.length (jG xs.length)-l.elim 0 (jG xs.length)))
 |some st=>if st= -1/\l=aj/\u=aj then U xs.reverse else aj
noncomputable def jx(xs:List V)(i:Int):Option V:=if 0<=i then xs[i.toNat]? else if 0<=i+xs.length then xs[(i+xs.length).toNat]? else aj
noncomputable def cC(v k:V):Option V:=V.casesOn (motive_1:=λj=>Option V) v aq (λj=>aq) (λj=>aq) (λj=>aq) (λj=>aq) (λj=>aq) (λj=>aq) (λa=>k.fH.bind (jx a)) (λa=>k.fH.bind (jx a)) (λa b=>if dz k a then(dJ k a).bind λi=>b[i]? else aq) (λj j j=>aq) (λj=>aq)
noncomputable def isSet(v:ai):Bool:=by
 apply ai.casesOn (motive_1:=λj=>Bool) v
 case Set=>exact λa b c=>J
 all_goals exists ah
set_option genInjectivity false in
inductive It where
 |items (pair:Bool) (xs:List V)
 |live (x:af) (en:Bool)
 |cell (c:Nat)
noncomputable def BK(en:Bool)(i:Nat)(v:V):V:=if en then .tup [.int i,v] else v
noncomputable def It.pair:It->Bool
 |.items p _=>p
 |.live _ en=>en
 |.cell _=>ah
noncomputable def iL(v:ai):Option (af×aY):=by
 apply ai.casesOn (motive_1:=λj=>Option (af×aY)) v
 case Name=>exact λa b=>U (a,b)
 all_goals exists aq
noncomputable def pX(v:ai):Option (List ai×Nat×aY):=by
 apply ai.casesOn (motive_1:=λj=>Option (List ai×Nat×aY)) v
 case Tuple=>exact λa b c=>U (a,b,c)
 all_goals exists aq
noncomputable def vE(t:ai):Bool:=(pX t).isSome
noncomputable def It.oD(it:It)(t:ai):Bool:=!it.pair||vE t
noncomputable def Sl.gb(v:Sl):Option (List V):=Sl.casesOn (motive:=λj=>Option (List V)) v (λj=>aq) (λa=>U a) (λj j=>aq)
noncomputable def M.gb(v:M):Option (List V):=M.casesOn (motive:=λj=>Option (List V)) v (λa=>U a) (λj j=>aq) (λj j j=>aq) (λj=>aq)
noncomputable def It.cur(s:S):It->Option (List V)
 |.items _ xs=>U xs
 |.live x _=>(lk x s.vars).bind Sl.gb
 |.cell c=>(s.mem[c]?).bind M.gb
noncomputable def It.out(i:Nat)(v:V):It->V
 |.live _ en=>BK en i v
 |_=>v
noncomputable def It.at(it:It)(i:Nat)(s:S):Option (Option V):=(it.cur s).map λxs=>(xs[i]?).map λv=>it.out i v
noncomputable def ja(a b:Int):Option It:=if(b-a).toNat<=cG/\ -1000000<=a/\a<=10000000/\ -1000000<=b/\b<=10000000 then U (.items ah (cj a b)) else aj
noncomputable def Mv(cx:Cx)(x y:af)(v:V):Option (List (af×V)):=v.asPair.bind λq=>if lk x cx.sc=U .local/\lk y cx.sc=U .local/\x≠y then U [(x,q.1),(y,q.2)] else aj
noncomputable def bindC(cx:Cx)(p:Bool)(t:ai)(v:V):Option (List (af×V)):=(iL t).elim
 ((pX t).bind λq=>(yY q.1).bind λe=>(iL e.1).bind λx=>(iL e.2).bind λy=>Mv cx x.1 y.1 v)
 λx=>if p then aj else if lk x.1 cx.sc=U .local then U [(x.1,v)] else aj
noncomputable def rL(cx:Cx)(sc:List (af×dC)):Bool:=sc.all λp=>match p.2 with
 |.free=>aJ (lk p.1 cx.sc=U .cell)&&aJ (lk p.1 sc=U .free)
 |.local=>aJ (lk p.1 sc=U .local)
 |.globalImplicit=>J
 |_=>ah
noncomputable def cellOf(r:R)(s:S):Option (V×S):=match r with
 |.list xs=>U (.cell s.mem.length,{s with mem:=s.mem++[.list xs]})
 |.dict ks vs=>U (.cell s.mem.length,{s with mem:=s.mem++[.dict ks vs]})
 |r=>s.nJ r
noncomputable def S.Gv(s:S)(x:af)(r:R):Option S:=match r with
 |.val v=>U (s.set x (.val v))
 |.list xs=>U (s.set x (.list xs))
 |.dict ks vs=>U (s.set x (.dict ks vs))
 |.var y=>(s.nJ (.var y)).map λp=>p.2.set x (.val p.1)
noncomputable def nt(cx:Cx)(x:af)(r:R)(s:S):Option S:=if cx.comp then aj else if lk x cx.sc=U .local\/lk x cx.sc=U .cell then s.Gv x r else aj
noncomputable def setAt(xs:List V)(i:Int)(v:V):Option (List V):=if 0<=i/\i<xs.length then U (xs.set i.toNat v) else aj
noncomputable def jW(a:af):List af->List af
 |[]=>[a]
 |n::r=>@ite _ (n=a) (sEq n a) (n::r) (n::jW a r)
noncomputable def ue(a:af)(v:V):List af->List V->List V
 |[],_=>[v]
 |n::r,vs=>@ite _ (n=a) (sEq n a) (v::vs.tail) (vs.headD .none::ue a v r vs.tail)
noncomputable def wV(ns:List af)(vs:List V)(a:af)(v:V):List af×List V:=(jW a ns,ue a v ns vs)
noncomputable def Sl.r:Sl->R
 |.val v=>.val v|.list xs=>.list xs|.dict ks vs=>.dict ks vs
noncomputable def aes(cx:Cx)(l:Nat)(q:af×aY):Option Str:=if lk q.1 cx.sc=U .local/\q.2.line=l then U q.1 else aj
noncomputable def jN(cx:Cx)(ts:List ai):List Str:=ts.filterMap λt=>(iL t).bind (aes cx ((ts.head?.map (·.pos.line)).getD 0))
noncomputable def Gx:List Sl->Option (Sl×List Sl)
 |a::r=>U (a,r)
 |[]=>aj
noncomputable def Ay(cx:Cx):List af->S->Option S
 |[],s=>if s.bX.isEmpty then U s else aj
 |x::xs,s=>(Gx s.bX).bind λq=>(nt cx x q.1.r {s with bX:=q.2}).bind (Ay cx xs)
noncomputable def Ph(s:S):R->Option (V×S)
 |.val v=>U (v,s)
 |.var y=>((lk y s.vars).bind Sl.gb).map λxs=>(.cell s.mem.length,{s.set y (.val (.cell s.mem.length)) with mem:=s.mem++[.list xs]})
 |_=>aj
noncomputable def M6(cx:Cx)(e:ai)(s:S):Option (V×S):=(iL e).bind λz=>(dU G cx z.1 s).bind (Ph s)
noncomputable def FI(v:ai):Option Const:=by
 apply ai.casesOn (motive_1:=λj=>Option tI) v
 case Constant=>exact λa b c=>U a
 all_goals exists aq
noncomputable def Const.G5(v:tI):Option Str:=tI.casesOn (motive:=λj=>Option af) v aq (λj=>aq) (λj=>aq) (λj=>aq) (λj j=>aq) (λa=>U a) (λj=>aq) aq
noncomputable def Qb(e:ai):Option Str:=(FI e).bind Const.G5
noncomputable def strKeys:List (Option ai)->Option (List V)
 |[]=>U []
 |e::r=>(e.bind Qb).bind λk=>(strKeys r).map (.str k::·)
noncomputable def EG(cx:Cx):List ai->S->Option (List V×S)
 |[],s=>U ([],s)
 |e::r,s=>(M6 G cx e s).bind λp=>(EG cx r p.2).map λq=>(p.1::q.1,q.2)
noncomputable def EA(cx:Cx)(ke:List (Option ai))(ve:List ai)(ks vs:List V)(s:S):Option ((List V×List V)×S):=
 if ke.length=ve.length then(strKeys ke).bind λkeys=>(EG G cx ve s).bind λp=>(nX (keys.zip p.1) ks vs).map λd=>(d,p.2) else aj
noncomputable def vT(ps:List af)(vs d:List V):Option (List (af×Sl)):=
 if vs.length<=ps.length/\ps.length-vs.length<=d.length then U ((ps.zip (vs++d.drop (d.length-(ps.length-vs.length)))).map λp=>(p.1,.val p.2)) else aj
end
end
section
noncomputable abbrev Z:=ag->Option aP
def Z.le(z z':Z):Prop:=∀a o,z a=U o->z' a=U o
theorem Z.le_refl(z:Z):Z.le z z:=λj j e=>e
theorem Z.le_trans(h:Z.le a b)(k:Z.le b c):Z.le a c:=λx o e=>k x o (h x o e)
noncomputable def Z.put(z:Z)(a:ag)(o:aP):Z:=λb=>if b=a then U o else z b
theorem Z.dp(z:Z)(a:ag)(o:aP):Z.put z a o a=U o:=if_pos rfl
theorem Z.df(z:Z)(o:aP)(h:b≠a):Z.put z a o b=z b:=if_neg h
theorem Z.lH(o:aP)(h:z a=aj):Z.le z (Z.put z a o):=λb ob e=>by
 by_cases q:b=a
 ·subst q;rw[h] at e;cases e
 ·rw[Z.df z o q];exact e
def pre{α:Type}(l l':List α):Prop:=∀(i:Nat) (a:α),l[i]?=U a->l'[i]?=U a
theorem bz(l:List α):pre l l:=λj j e=>e
theorem kh(h:pre a b)(k:pre b c):pre a c:=λi x e=>k i x (h i x e)
theorem u4(l r:List α):pre l (l++r):=λi a e=>by
 rw[qw (g7.mp e).1];exact e
noncomputable abbrev i6(vs:Array ae)(n:Nat):Obj:=⟨.type "tuple",aj,.seq vs n,#[]⟩
noncomputable abbrev bg(vs:Array ae)(n:Nat):Obj:=⟨.type "list",aj,.seq vs n,#[]⟩
def NoSys(a:ag)(ks:List V):Prop:=ks.Nodup/\(a==kf)=ah
noncomputable abbrev cB(es:Array cm)(n:Nat):Obj:=⟨.type "dict",aj,.dict es n,#[]⟩
section
variable (w:aE)
noncomputable def yN:V->Int
 |.int i=>hashInt i
 |.str s=>sW w s
 |.tup xs=>tupleKeyHash (iG (I4) w) (xs.map λx=>match x with|.int i=>i|_=>0)
 |_=>0
mutual
inductive Den(z:Z)(cs:List ag):V->ae->Prop
 |none:Den z cs .none .none
 |bool (b:Bool):Den z cs (.bool b) (.bool b)
 |int (i:Int) (t:gY):Den z cs (.int i) (.int i t)
 |str (s:af) (t:gY):Den z cs (.str s) (.str s t)
 |fn (a:Nat):Den z cs (.fn a) (.ref a)
 |bi (id:String):Den z cs (.bi id) (.builtin id)
 |ty (n:String):Den z cs (.ty n) (.type n)
 |tup {xs:List V} {a:ag} {vs:Array ae} {n:Nat} (h:z a=U (i6 vs n)) (k:aF z cs xs vs.toList) (hz:xs.length<=bQ):Den z cs (.tup xs) (.ref a)
 |list {xs:List V} {a:ag} {vs:Array ae} {n:Nat} (h:z a=U (bg vs n)) (k:aF z cs xs vs.toList) (hz:xs.length<=bQ):Den z cs (.list xs) (.ref a)
 |dict {ks vs:List V} {a:ag} {es:Array cm} {n:Nat} (h:z a=U (cB es n)) (k:cn z cs ks vs es.toList) (hn:NoSys a ks) (hz:ks.length<=bQ):Den z cs (.dict ks vs) (.ref a)
 |inst {c:Nat} {ns:List af} {vs:List V} {a d:ag} {es:Array cm} {n:Nat} (h:z a=U (kj c d)) (hd:z d=U (cB es n)) (k:dA z cs ns vs es.toList) (hn:ns.Nodup):Den z cs (.inst c ns vs) (.ref a)
 |cell {i:Nat} {a:ag} (h:cs[i]?=U a):Den z cs (.cell i) (.ref a)
inductive aF(z:Z)(cs:List ag):List V->List ae->Prop
 |nil:aF z cs [] []
 |cons {x:V} {xs:List V} {v:ae} {vs:List ae} (h:Den z cs x v) (k:aF z cs xs vs):aF z cs (x::xs) (v::vs)
inductive cn(z:Z)(cs:List ag):List V->List V->List cm->Prop
 |nil:cn z cs [] [] []
 |cons {x y:V} {xs ys:List V} {e:cm} {es:List cm} (hk:Den z cs x e.key) (hv:Den z cs y e.val) (hh:e.hash=yN w x) (k:cn z cs xs ys es):cn z cs (x::xs) (y::ys) (e::es)
inductive dA(z:Z)(cs:List ag):List af->List V->List cm->Prop
 |nil:dA z cs [] [] []
 |cons {x:af} {y:V} {xs:List af} {ys:List V} {e:cm} {es:List cm} (hk:∃t,e.key=.str x t) (hv:Den z cs y e.val) (hh:e.hash=sW w x) (k:dA z cs xs ys es):dA z cs (x::xs) (y::ys) (e::es)
end
variable {w}
theorem bl(h:(a&&b)=J):a=true:=(Jk.mp h).1
theorem aU(h:(a&&b)=J):b=true:=(Jk.mp h).2
theorem ak(h:a=J)(k:b=J):(a&&b)=true:=Jk.mpr ⟨h,k⟩
section
variable {z z':Z}{cs aV:List ag}
theorem Den.lift(hz:Z.le z z')(d:Den w z cs v x):(pre cs aV\/v.free=J)->Den w z' aV v x:=
 Den.rec (motive_1:=λv x j=>(pre cs aV\/v.free=J)->Den w z' aV v x) (motive_2:=λl ys j=>(pre cs aV\/V.bI l=J)->aF w z' aV l ys)
  (motive_3:=λks vs es j=>(pre cs aV\/(V.bI ks&&V.bI vs)=J)->cn w z' aV ks vs es) (motive_4:=λns vs es j=>(pre cs aV\/V.bI vs=J)->dA w z' aV ns vs es)
  (λj=>.none) (λb j=>.bool b) (λi t j=>.int i t) (λs t j=>.str s t) (λa j=>.fn a) (λi j=>.bi i) (λn j=>.ty n)
  (λh j l ih e=>.tup (hz _ _ h) (ih e) l) (λh j l ih e=>.list (hz _ _ h) (ih e) l) (λh j n l ih e=>.dict (hz _ _ h) (ih e) n l) (λh hd j n ih e=>.inst (hz _ _ h) (hz _ _ hd) (ih e) n)
  (λh e=>.cell (e.elim (λk=>k _ _ h) λk=>bo k)) (λj=>.nil) (λj j a b e=>.cons (a (e.imp id bl)) (b (e.imp id aU)))
  (λj=>.nil) (λj j hh j a b c e=>.cons (a (e.imp id λk=>bl (bl k))) (b (e.imp id λk=>bl (aU k))) hh (c (e.imp id λk=>ak (aU (bl k)) (aU (aU k)))))
  (λj=>.nil) (λhk j hh j a b e=>.cons hk (a (e.imp id bl)) hh (b (e.imp id aU))) d
theorem Den.mono(hz:Z.le z z')(hc:pre cs aV)(d:Den w z cs v x):Den w z' aV v x:=d.lift hz (.inl hc)
theorem Den.free(d:Den w z cs v x)(h:v.free=J):Den w z aV v x:=d.lift (Z.le_refl _) (.inr h)
theorem iF(h:aF w z cs [] ys):ys=[]:=by cases h;rfl
theorem gB{P:List ae->Prop}{ys:List ae}(h:aF w z cs (v::r) ys)(k:∀y q,Den w z cs v y->aF w z cs r q->P (y::q)):P ys:=by
 cases h with
 |cons a b=>exact k _ _ a b
theorem n2(h:cn w z cs [] vs es):vs=[]/\es=[]:=by cases h;exact⟨rfl,rfl⟩
theorem sQ{P:List V->List cm->Prop}{es:List cm}(h:cn w z cs (v::r) vs es)(k:∀u us e q,Den w z cs v e.key->Den w z cs u e.val->e.hash=yN w v->cn w z cs r us q->P (u::us) (e::q)):P vs es:=by
 cases h with
 |cons a b c d=>exact k _ _ _ _ a b c d
theorem qU(h:dA w z cs [] vs es):vs=[]/\es=[]:=by cases h;exact⟨rfl,rfl⟩
theorem vd{P:List V->List cm->Prop}{x:af}{r:List af}{es:List cm}(h:dA w z cs (x::r) vs es)(k:∀u us e q,(∃t,e.key=.str x t)->Den w z cs u e.val->e.hash=sW w x->dA w z cs r us q->P (u::us) (e::q)):P vs es:=by
 cases h with
 |cons a b c d=>exact k _ _ _ _ a b c d
def TupAt(w:aE)(get:Z)(z:Z)(cs:List ag)(xs:List V)(y:ae):Prop:=∀C:Prop,(∀(a:ag) (vs:Array ae) (n:Nat) (e0:y=.ref a) (e1:get a=U (i6 vs n)) (e2:aF w z cs xs vs.toList) (e3:xs.length<=bQ),C)->C
def Gi(w:aE)(get:Z)(z:Z)(cs:List ag)(xs:List V)(y:ae):Prop:=∀C:Prop,(∀(a:ag) (vs:Array ae) (n:Nat) (e0:y=.ref a) (e1:get a=U (bg vs n)) (e2:aF w z cs xs vs.toList) (e3:xs.length<=bQ),C)->C
def iK(w:aE)(get:Z)(z:Z)(cs:List ag)(ks vs:List V)(y:ae):Prop:=∀C:Prop,(∀(a:ag) (es:Array cm) (n:Nat) (e0:y=.ref a) (e1:get a=U (cB es n)) (e2:cn w z cs ks vs es.toList) (e3:ks.Nodup) (e4:(a==kf)=ah) (e5:ks.length<=bQ),C)->C
def F3(w:aE)(get:Z)(z:Z)(cs:List ag)(c:Nat)(ns:List af)(vs:List V)(y:ae):Prop:=∀C:Prop,(∀(a d:ag) (es:Array cm) (n:Nat) (e0:y=.ref a) (e1:get a=U (kj c d)) (e2:get d=U (cB es n)) (e3:dA w z cs ns vs es.toList) (e4:ns.Nodup),C)->C
def NA(w:aE)(z:Z)(cs:List ag)(v:V)(y:ae):Prop:=match v with
 |.none=>y=.none
 |.bool b=>y=.bool b
 |.int i=>∃t,y=.int i t
 |.str s=>∃t,y=.str s t
 |.fn a=>y=.ref a
 |.bi id=>y=.builtin id
 |.ty n=>y=.type n
 |.tup xs=>TupAt w z z cs xs y
 |.list xs=>Gi w z z cs xs y
 |.dict ks vs=>iK w z z cs ks vs y
 |.inst c ns vs=>F3 w z z cs c ns vs y
 |.cell i=>∃a,cs[i]?=U a/\y=.ref a
theorem Den.inv(d:Den w z cs v y):NA w z cs v y:=
 Den.casesOn (motive_1:=λv y j=>NA w z cs v y) d rfl (λj=>rfl) (λj t=>⟨t,rfl⟩) (λj t=>⟨t,rfl⟩) (λj=>rfl) (λj=>rfl) (λj=>rfl) (λh k hz Q_ k_=>k_ _ _ _ rfl h k hz) (λh k hz Q_ k_=>k_ _ _ _ rfl h k hz)
  (λh k hn hz Q_ k_=>k_ _ _ _ rfl h k hn.1 hn.2 hz) (λh hd k hn Q_ k_=>k_ _ _ _ _ rfl h hd k hn) λh=>⟨_,h,rfl⟩
theorem aF.lift(hz:Z.le z z'):∀{ys:List ae},aF w z cs l ys->(pre cs aV\/V.bI l=J)->aF w z' aV l ys:=
 List.rec (motive:=λl=>∀{ys:List ae},aF w z cs l ys->(pre cs aV\/V.bI l=J)->aF w z' aV l ys) (λh j=>iF h▸.nil)
  (λj j ih j h e=>gB h λj j a b=>.cons (a.lift hz (e.imp id bl)) (ih b (e.imp id aU))) l
theorem cn.lift(hz:Z.le z z'):∀{vs:List V} {es:List cm},cn w z cs l vs es->(pre cs aV\/(V.bI l&&V.bI vs)=J)->cn w z' aV l vs es:=
 List.rec (motive:=λl=>∀{vs:List V} {es:List cm},cn w z cs l vs es->(pre cs aV\/(V.bI l&&V.bI vs)=J)->cn w z' aV l vs es) (λh j=>by rw[(n2 h).1,(n2 h).2];exact .nil)
  (λj j ih j j h=>sQ (P:=λvs es=>(pre cs aV\/(_&&V.bI vs)=J)->cn w z' aV _ vs es) h λj j j j a b c d e=>
   .cons (a.lift hz (e.imp id λk=>bl (bl k))) (b.lift hz (e.imp id λk=>bl (aU k))) c (ih d (e.imp id λk=>ak (aU (bl k)) (aU (aU k))))) l
theorem dA.lift(hz:Z.le z z'){l:List af}:∀{vs:List V} {es:List cm},dA w z cs l vs es->(pre cs aV\/V.bI vs=J)->dA w z' aV l vs es:=
 List.rec (motive:=λl=>∀{vs:List V} {es:List cm},dA w z cs l vs es->(pre cs aV\/V.bI vs=J)->dA w z' aV l vs es) (λh j=>(qU h).1▸(qU h).2▸.nil)
  (λj j ih j j h=>vd (P:=λvs es=>(pre cs aV\/V.bI vs=J)->dA w z' aV _ vs es) h λj j j j a b c d e=>
   .cons a (b.lift hz (e.imp id bl)) c (ih d (e.imp id aU))) l
theorem aF.mono(hz:Z.le z z')(hc:pre cs aV)(d:aF w z cs l ys):aF w z' aV l ys:=d.lift hz (.inl hc)
theorem cn.mono(hz:Z.le z z')(hc:pre cs aV)(d:cn w z cs l vs ys):cn w z' aV l vs ys:=d.lift hz (.inl hc)
theorem dA.mono(hz:Z.le z z')(hc:pre cs aV)(d:dA w z cs l vs ys):dA w z' aV l vs ys:=d.lift hz (.inl hc)
theorem aF.free(d:aF w z cs l ys)(h:V.bI l=J):aF w z aV l ys:=d.lift (Z.le_refl _) (.inr h)
theorem aF.length:∀{x:List ae},aF w z cs v x->v.length=x.length:=
 List.rec (motive:=λv=>∀{x:List ae},aF w z cs v x->v.length=x.length) (λh=>by rw[iF h];rfl) (λj j ih j h=>gB (P:=λx=>_=x.length) h λj j j k=>congrArg (·+1) (ih k)) v
theorem aF.ahead(r:aF w z cs b y):∀{x:List ae},aF w z cs a x->aF w z cs (a++b) (x++y):=
 List.rec (motive:=λa=>∀{x:List ae},aF w z cs a x->aF w z cs (a++b) (x++y)) (λh=>by rw[iF h];exact r) (λj j ih j h=>gB (P:=λx=>aF w z cs _ (x++y)) h λj j h k=>.cons h (ih k)) a
theorem aF.append(h:aF w z cs a x)(r:aF w z cs b y):aF w z cs (a++b) (x++y):=r.ahead h
theorem aF.at:∀{x:List ae} (i:Nat),aF w z cs v x->(∀a,v[i]?=U a->∃y,x[i]?=U y/\Den w z cs a y)/\∀(a:V) (y:ae),Den w z cs a y->aF w z cs (v.set i a) (x.set i y):=by
 induction v with
 |nil=>exact λ{x} i h=>by rw[iF h];exact⟨λj e=>(ay e),λj j j=>.nil⟩
 |cons b r ih=>
  intro x i h
  refine gB (P:=λx=>(∀a,(b::r)[i]?=U a->∃y,x[i]?=U y/\Den w z cs a y)/\∀(a:V) (y:ae),Den w z cs a y->aF w z cs ((b::r).set i a) (x.set i y)) h λy q h k=>?_
  induction i with
  |zero=>exact⟨λj e=>⟨y,rfl,aA e▸h⟩,λj j d=>.cons d k⟩
  |succ i=>exact⟨(ih i k).1,λj j d=>.cons h ((ih i k).2 _ _ d)⟩
theorem aF.get{v:List V}{x:List ae}{i:Nat}{a:V}(h:aF w z cs v x)(e:v[i]?=U a):∃y,x[i]?=U y/\Den w z cs a y:=(h.at i).1 a e
theorem aF.set(i:Nat)(h:aF w z cs v x)(d:Den w z cs a y):aF w z cs (v.set i a) (x.set i y):=(h.at i).2 _ _ d
theorem aF.none{v:List V}{x:List ae}{i:Nat}(h:aF w z cs v x)(e:v[i]?=aj):x[i]?=none:=
 kZ (h.length▸zP.mp e)
theorem aF.split:∀{x:List ae} (n:Nat),aF w z cs v x->aF w z cs (v.take n) (x.take n)/\aF w z cs (v.drop n) (x.drop n):=
 List.rec (motive:=λv=>∀{x:List ae} (n:Nat),aF w z cs v x->aF w z cs (v.take n) (x.take n)/\aF w z cs (v.drop n) (x.drop n))
  (λn h=>by rw[iF h,List.take_nil,List.drop_nil,List.take_nil,List.drop_nil];exact⟨.nil,.nil⟩)
  (λj j ih x n h=>gB (P:=λx=>aF w z cs _ (x.take n)/\aF w z cs _ (x.drop n)) h λy q h k=>Nat.casesOn n ⟨.nil,.cons h k⟩ λn=>⟨.cons h (ih n k).1,(ih n k).2⟩) v
theorem aF.take(n:Nat)(h:aF w z cs v x):aF w z cs (v.take n) (x.take n):=(h.split n).1
theorem aF.drop(n:Nat)(h:aF w z cs v x):aF w z cs (v.drop n) (x.drop n):=(h.split n).2
theorem aF.reverse:∀{x:List ae},aF w z cs v x->aF w z cs v.reverse x.reverse:=
 List.rec (motive:=λv=>∀{x:List ae},aF w z cs v x->aF w z cs v.reverse x.reverse) (λh=>iF h▸.nil)
  (λj j ih j h=>gB (P:=λx=>aF w z cs _ x.reverse) h λj j h k=>by rw[uM,uM];exact(ih k).append (.cons h .nil)) v
end
end
end
section
def ug(o:aP)(m:af->Option ae):Prop:=∃es ep,o.data=.dict es ep/\StrKeys es/\∀name,nsFind es name=m name
theorem kl{h:az}{a:ag}{m:af->Option ae}:h.Ns a m↔∃o,h.get? a=U o/\ug o m:=
 ⟨λ⟨o,es,ep,e,r⟩=>⟨o,e,es,ep,r⟩,λ⟨o,e,es,ep,r⟩=>⟨o,es,ep,e,r⟩⟩
section
variable (w:aE)
inductive dr(z:Z)(cs:List ag)(ρ:Z):Sl->ae->List ag->Prop
 |val {v:V} {x:ae} (h:Den w z cs v x):dr z cs ρ (.val v) x []
 |list {xs:List V} {a:ag} {vs:Array ae} {n:Nat} (h:ρ a=U (bg vs n)) (k:aF w z cs xs vs.toList) (hz:xs.length<=bQ):dr z cs ρ (.list xs) (.ref a) [a]
 |dict {ks vs:List V} {a:ag} {es:Array cm} {n:Nat} (h:ρ a=U (cB es n)) (k:cn w z cs ks vs es.toList) (hn:NoSys a ks) (hz:ks.length<=bQ):dr z cs ρ (.dict ks vs) (.ref a) [a]
inductive et(z:Z)(cs:List ag)(ρ:Z):List Sl->List ae->List ag->Prop
 |nil:et z cs ρ [] [] []
 |cons {a:Sl} {r:List Sl} {v:ae} {vs:List ae} {o p:List ag} (h:dr w z cs ρ a v o) (k:et z cs ρ r vs p):et z cs ρ (a::r) (v::vs) (o++p)
inductive eH(z:Z)(cs:List ag)(ρ:Z):List (af×Sl)->List (af×ae)->List ag->Prop
 |nil:eH z cs ρ [] [] []
 |cons {x:af} {a:Sl} {r:List (af×Sl)} {v:ae} {vs:List (af×ae)} {o p:List ag} (h:dr w z cs ρ a v o) (k:eH z cs ρ r vs p):eH z cs ρ ((x,a)::r) ((x,v)::vs) (o++p)
inductive de(z:Z)(cs:List ag)(ρ:Z):M->ag->List ag->Prop
 |list {xs:List V} {a:ag} {vs:Array ae} {n:Nat} (h:ρ a=U (bg vs n)) (k:aF w z cs xs vs.toList) (hz:xs.length<=bQ):de z cs ρ (.list xs) a [a]
 |dict {ks vs:List V} {a:ag} {es:Array cm} {n:Nat} (h:ρ a=U (cB es n)) (k:cn w z cs ks vs es.toList) (hn:NoSys a ks) (hz:ks.length<=bQ):de z cs ρ (.dict ks vs) a [a]
 |inst {c:Nat} {ns:List af} {vs:List V} {a d:ag} {es:Array cm} {n:Nat} (h:ρ a=U (kj c d)) (hd:ρ d=U (cB es n)) (k:dA w z cs ns vs es.toList) (hn:ns.Nodup):de z cs ρ (.inst c ns vs) a [a,d]
 |gone {v:V} {a:ag} (h:Den w z cs v (.ref a)) (hf:v.free=J):de z cs ρ (.gone v) a []
inductive dT(z:Z)(cs:List ag)(ρ:Z):List M->List ag->List ag->Prop
 |nil:dT z cs ρ [] [] []
 |cons {m:M} {r:List M} {a:ag} {as:List ag} {o p:List ag} (h:de w z cs ρ m a o) (k:dT z cs ρ r as p):dT z cs ρ (m::r) (a::as) (o++p)
inductive jR(z:Z)(cs:List ag):List (af×V)->List (af×ae)->Prop
 |nil:jR z cs [] []
 |cons {x:af} {v:V} {r:List (af×V)} {u:ae} {us:List (af×ae)} (h:Den w z cs v u) (k:jR z cs r us):jR z cs ((x,v)::r) ((x,u)::us)
end
section
variable {w:aE}{z z':Z}{cs aV:List ag}{ρ ρ':Z}
theorem dr.mono(hz:Z.le z z')(hc:pre cs aV){a:Sl}{v:ae}{o:List ag}(h:dr w z cs ρ a v o)(hr:∀b∈o,ρ' b=ρ b):dr w z' aV ρ' a v o:=by
 induction h with
 |val h=>exact .val (h.mono hz hc)
 |list h k l=>exact .list ((hr _ (.head _)).trans h) (k.mono hz hc) l
 |dict h k n l=>exact .dict ((hr _ (.head _)).trans h) (k.mono hz hc) n l
theorem qQ{v:List ae}{o:List ag}(h:et w z cs ρ [] v o):v=[]/\o=[]:=by cases h;exact⟨rfl,rfl⟩
theorem As{P:List ae->List ag->Prop}{a:Sl}{r:List Sl}{v:List ae}{o:List ag}(h:et w z cs ρ (a::r) v o)(k:∀y u p q,dr w z cs ρ a y p->et w z cs ρ r u q->P (y::u) (p++q)):P v o:=by
 cases h with
 |cons a b=>exact k _ _ _ _ a b
theorem xQ{v:List (af×ae)}{o:List ag}(h:eH w z cs ρ [] v o):v=[]/\o=[]:=by cases h;exact⟨rfl,rfl⟩
theorem Aq{P:List (af×ae)->List ag->Prop}{x:af}{a:Sl}{r:List (af×Sl)}{v:List (af×ae)}{o:List ag}(h:eH w z cs ρ ((x,a)::r) v o)(k:∀y u p q,dr w z cs ρ a y p->eH w z cs ρ r u q->P ((x,y)::u) (p++q)):P v o:=by
 cases h with
 |cons a b=>exact k _ _ _ _ a b
theorem vi{v:List ag}{o:List ag}(h:dT w z cs ρ [] v o):v=[]/\o=[]:=by cases h;exact⟨rfl,rfl⟩
theorem xW{P:List ag->List ag->Prop}{a:M}{r:List M}{v:List ag}{o:List ag}(h:dT w z cs ρ (a::r) v o)(k:∀y u p q,de w z cs ρ a y p->dT w z cs ρ r u q->P (y::u) (p++q)):P v o:=by
 cases h with
 |cons a b=>exact k _ _ _ _ a b
theorem KI{P:List (af×ae)->Prop}{x:af}{a:V}{r:List (af×V)}{v:List (af×ae)}(h:jR w z cs ((x,a)::r) v)(k:∀y u,Den w z cs a y->jR w z cs r u->P ((x,y)::u)):P v:=by
 cases h with
 |cons a b=>exact k _ _ a b
theorem et.mono(hz:Z.le z z')(hc:pre cs aV){a:List Sl}:∀{v:List ae} {o:List ag},et w z cs ρ a v o->(∀b∈o,ρ' b=ρ b)->et w z' aV ρ' a v o:=by
 induction a with
 |nil=>intro v o h _;rw[(qQ h).1,(qQ h).2];exact .nil
 |cons a r ih=>exact λh=>As (P:=λv o=>(∀b∈o,ρ' b=ρ b)->et w z' aV ρ' (a::r) v o) h λj j j j h k hr=>.cons (h.mono hz hc λb q=>hr b (bp _ q)) (ih k λb q=>hr b (cy _ q))
theorem eH.mono(hz:Z.le z z')(hc:pre cs aV){a:List (af×Sl)}:∀{v:List (af×ae)} {o:List ag},eH w z cs ρ a v o->(∀b∈o,ρ' b=ρ b)->eH w z' aV ρ' a v o:=by
 induction a with
 |nil=>intro v o h _;rw[(xQ h).1,(xQ h).2];exact .nil
 |cons a r ih=>exact λh=>Aq (P:=λv o=>(∀b∈o,ρ' b=ρ b)->eH w z' aV ρ' (a::r) v o) h λj j j j h k hr=>.cons (h.mono hz hc λb q=>hr b (bp _ q)) (ih k λb q=>hr b (cy _ q))
theorem de.mono(hz:Z.le z z')(hc:pre cs aV){m:M}{a:ag}{o:List ag}(h:de w z cs ρ m a o)(hr:∀b∈o,ρ' b=ρ b):de w z' aV ρ' m a o:=by
 induction h with
 |list h k l=>exact .list ((hr _ (.head _)).trans h) (k.mono hz hc) l
 |dict h k n l=>exact .dict ((hr _ (.head _)).trans h) (k.mono hz hc) n l
 |inst h hd k n=>exact .inst ((hr _ (.head _)).trans h) ((hr _ (.tail _ (.head _))).trans hd) (k.mono hz hc) n
 |gone h hf=>exact .gone (h.mono hz hc) hf
theorem dT.mono(hz:Z.le z z')(hc:pre cs aV){a:List M}:∀{v:List ag} {o:List ag},dT w z cs ρ a v o->(∀b∈o,ρ' b=ρ b)->dT w z' aV ρ' a v o:=by
 induction a with
 |nil=>intro v o h _;rw[(vi h).1,(vi h).2];exact .nil
 |cons a r ih=>exact λh=>xW (P:=λv o=>(∀b∈o,ρ' b=ρ b)->dT w z' aV ρ' (a::r) v o) h λj j j j h k hr=>.cons (h.mono hz hc λb q=>hr b (bp _ q)) (ih k λb q=>hr b (cy _ q))
theorem jR.mono(hz:Z.le z z')(hc:pre cs aV){a:List (af×V)}:∀{v:List (af×ae)},jR w z cs a v->jR w z' aV a v:=by
 induction a with
 |nil=>intro v h;cases h;exact .nil
 |cons a r ih=>exact λh=>KI h λj j h k=>.cons (h.mono hz hc) (ih k)
theorem dT.length{a:List M}:∀{v:List ag} {o:List ag},dT w z cs ρ a v o->a.length=v.length:=by
 induction a with
 |nil=>intro v o h;rw[(vi h).1];rfl
 |cons a r ih=>exact λh=>xW (P:=λv j=>(a::r).length=v.length) h λj j j j j k=>congrArg (·+1) (ih k)
theorem eI{α:Type}{x y:af}{b:α}{r:List (af×α)}:(y=x->lk x ((y,b)::r)=U b)/\(y≠x->lk x ((y,b)::r)=lk x r):=⟨λq=>if_pos q,λq=>if_neg q⟩
theorem ry{α:Type}{x y:af}{a b:α}{r:List (af×α)}:(y=x->up x a ((y,b)::r)=(y,a)::r)/\(y≠x->up x a ((y,b)::r)=(y,b)::up x a r):=⟨λq=>if_pos q,λq=>if_neg q⟩
theorem jR.get{x:af}{a:List (af×V)}:∀{v:List (af×ae)} {u:V},jR w z cs a v->lk x a=U u->∃y,lk x v=U y/\Den w z cs u y:=by
 induction a with
 |nil=>exact λj e=>ay e
 |cons p r ih=>
  intro v u h e
  refine KI (P:=λv=>∃y,lk x v=U y/\Den w z cs u y) h λy q h k=>?_
  by_cases c:p.1=x
  ·rw[eI.1 c] at e ⊢;exact⟨y,rfl,aA e▸h⟩
  ·rw[eI.2 c] at e ⊢;exact ih k e
def OI(w:aE)(z:Z)(cs:List ag)(ρ:Z)(x:af)(a:List (af×Sl))(v:List (af×ae))(o:List ag)(sl:Sl):Prop:=∀C:Prop,(∀(y:ae) (o1 o2 o3:List ag) (e1:lk x v=U y) (e2:dr w z cs ρ sl y o2) (e3:o=o1++o2++o3) (e4:∀(z':Z) (aV:List ag) (ρ':Z) (fv:Sl) (kU:List ag),Z.le z z'->pre cs aV->dr w z' aV ρ' fv y kU->(∀b∈o1,ρ' b=ρ b)->(∀b∈o3,ρ' b=ρ b)->eH w z' aV ρ' (up x fv a) v (o1++kU++o3)),C)->C
theorem eH.get{x:af}{sl:Sl}{a:List (af×Sl)}:∀{v:List (af×ae)} {o:List ag},eH w z cs ρ a v o->lk x a=U sl->OI w z cs ρ x a v o sl:=by
 induction a with
 |nil=>exact λj e=>ay e
 |cons p r ih=>
  intro v o h e
  refine Aq (P:=λv o=>OI w z cs ρ x (p::r) v o sl) h λy u oa op h k=>?_
  by_cases c:p.1=x
  ·exact λQ_ k_=>k_ y [] oa op (eI.1 c) (aA ((eI.1 c).symm.trans e)▸h) rfl (λz' aV ρ' fv kU hz hc h' j h3=>by rw[show up x fv (p::r)=(p.1,fv)::r from ry.1 c];exact .cons h' (k.mono hz hc h3))
  ·exact ih k ((eI.2 c).symm.trans e) _ λy1 o1 o2 o3 e1 e2 e3 e4 Q_ k_=>k_ y1 (oa++o1) o2 o3 ((eI.2 c).trans e1) e2 (by rw[e3,aN,aN,aN]) (λz' aV ρ' fv kU hz hc h' h1 h3=>by
     rw[show up x fv (p::r)=(p.1,p.2)::up x fv r from ry.2 c,aN,aN,<-aN o1]
     exact .cons (h.mono hz hc λb hb=>h1 b (bp _ hb)) (e4 z' aV ρ' fv kU hz hc h' (λb hb=>h1 b (cy _ hb)) h3))
theorem ZZ{a b c l:List ag}(h:(a++b++c++l).Nodup):(c++b++l).Nodup:=
 (((mS).append_right l).nodup_iff).mp ((cM.mp (by rw[aN a,aN a] at h;exact h)).2.1)
theorem afl{a b c l:List ag}(h:(a++b++c++l).Nodup):(b++c++(a++l)).Nodup:=by
 rw[aN a,aN a] at h
 exact((mS).trans (by rw[aN (b++c)];exact(mS).append_left _)).nodup h
theorem abJ{a b l:List ag}(h:(b++(a++l)).Nodup):(a++b++l).Nodup:=by
 rw[<-aN] at h
 exact((mS).append_right l).nodup h
def NN(w:aE)(z:Z)(cs:List ag)(ρ:Z)(a:List (af×Sl))(v:List (af×ae))(o o':List ag):Prop:=∀C:Prop,(∀(oo:List ag) (h1:eH w z cs ρ a v oo) (h2:∀b∈oo,b∈o\/b∈o') (h3:∀l:List ag,(o++o'++l).Nodup->(oo++l).Nodup),C)->C
theorem eH.put{x:af}{fv:Sl}{y':ae}{o':List ag}(h':dr w z cs ρ fv y' o'){a:List (af×Sl)}:∀{v:List (af×ae)} {o:List ag},eH w z cs ρ a v o->NN w z cs ρ (up x fv a) (up x y' v) o o':=by
 induction a with
 |nil=>
  intro v o h
  rw[(xQ h).1,(xQ h).2]
  exact λQ_ k_=>k_ (o'++[]) (.cons h' .nil) (λb hb=>.inr (by rw[bx] at hb;exact hb)) (λl hl=>by rw[bx];exact hl)
 |cons p r ih=>
  intro v o h
  refine Aq (P:=λv o=>NN w z cs ρ (up x fv (p::r)) (up x y' v) o o') h λy u oa op h k=>?_
  by_cases c:p.1=x
  ·rw[show up x fv (p::r)=(p.1,fv)::r from ry.1 c,show up x y' ((p.1,y)::u)=(p.1,y')::u from ry.1 c]
   exact λQ_ k_=>k_ (o'++op) (.cons h' k) (λb hb=>(gx.mp hb).elim .inr λq=>.inl (cy _ q)) (λl hl=>ZZ hl)
  ·rw[show up x fv (p::r)=(p.1,p.2)::up x fv r from ry.2 c,show up x y' ((p.1,y)::u)=(p.1,y)::up x y' u from ry.2 c]
   exact ih k _ λoo e1 e2 e3 Q_ k_=>k_ (oa++oo) (.cons h e1) (λb hb=>(gx.mp hb).elim (λq=>.inl (bp _ q)) λq=>(e2 b q).imp (cy _) id) (λl hl=>abJ (e3 _ (afl hl)))
def NF(w:aE)(z:Z)(cs:List ag)(ρ:Z)(i:Nat)(a:List M)(v:List ag)(o:List ag)(m:M):Prop:=∀C:Prop,(∀(y:ag) (o1 o2 o3:List ag) (e1:v[i]?=U y) (e2:de w z cs ρ m y o2) (e3:o=o1++o2++o3) (e4:∀(z':Z) (aV:List ag) (ρ':Z) (m':M) (kU:List ag),Z.le z z'->pre cs aV->de w z' aV ρ' m' y kU->(∀b∈o1,ρ' b=ρ b)->(∀b∈o3,ρ' b=ρ b)->dT w z' aV ρ' (a.set i m') v (o1++kU++o3)),C)->C
theorem dT.get{m:M}{a:List M}:∀{v:List ag} {o:List ag} {i:Nat},dT w z cs ρ a v o->a[i]?=U m->NF w z cs ρ i a v o m:=by
 induction a with
 |nil=>exact λj e=>ay e
 |cons p r ih=>
  intro v o i h e
  refine xW (P:=λv o=>NF w z cs ρ i (p::r) v o m) h λy u oa op h k=>?_
  induction i with
  |zero=>exact λQ_ k_=>k_ y [] oa op rfl (aA e▸h) rfl (λz' aV ρ' fv kU hz hc h' j h3=>.cons h' (k.mono hz hc h3))
  |succ i=>
   exact ih k e _ λy1 o1 o2 o3 e1 e2 e3 e4 Q_ k_=>k_ y1 (oa++o1) o2 o3 e1 e2 (by rw[e3,aN,aN,aN]) (λz' aV ρ' fv kU hz hc h' h1 h3=>by
     rw[aN,aN,<-aN o1]
     exact .cons (h.mono hz hc λb hb=>h1 b (bp _ hb)) (e4 z' aV ρ' fv kU hz hc h' (λb hb=>h1 b (cy _ hb)) h3))
theorem dT.Gs{m:M}{b:ag}{p:List ag}(h':de w z cs ρ m b p){a:List M}:∀{v:List ag} {o:List ag},dT w z cs ρ a v o->dT w z cs ρ (a++[m]) (v++[b]) (o++p):=by
 induction a with
 |nil=>intro v o h;rw[(vi h).1,(vi h).2];have:=dT.cons h' .nil;rw[bx] at this;exact this
 |cons a r ih=>exact λh=>xW (P:=λv o=>dT w z cs ρ (a::r++[m]) (v++[b]) (o++p)) h λj j j j h k=>aN ..▸.cons h (ih k)
theorem et.Gs{m:Sl}{b:ae}{p:List ag}(h':dr w z cs ρ m b p){a:List Sl}:∀{v:List ae} {o:List ag},et w z cs ρ a v o->et w z cs ρ (a++[m]) (v++[b]) (o++p):=by
 induction a with
 |nil=>intro v o h;rw[(qQ h).1,(qQ h).2];have:=et.cons h' .nil;rw[bx] at this;exact this
 |cons a r ih=>exact λh=>As (P:=λv o=>et w z cs ρ (a::r++[m]) (v++[b]) (o++p)) h λj j j j h k=>aN ..▸.cons h (ih k)
theorem dT.snoc{m:M}{b:ag}{p:List ag}{a:List M}{v:List ag}{o:List ag}(h:dT w z cs ρ a v o)(h':de w z cs ρ m b p):dT w z cs ρ (a++[m]) (v++[b]) (o++p):=dT.Gs h' h
theorem et.snoc{m:Sl}{b:ae}{p:List ag}{a:List Sl}{v:List ae}{o:List ag}(h:et w z cs ρ a v o)(h':dr w z cs ρ m b p):et w z cs ρ (a++[m]) (v++[b]) (o++p):=et.Gs h' h
end
set_option genInjectivity false in
structure Fm where
 hb:az
 tab:ag
 lp:aY
 lq:af
 bh:dh
 env:dh
 comp:Bool
 kp:Z
 zb:Z
 os:OsState
noncomputable def Fm.ns(F:Fm):List Addr:=F.bh.locals::F.bh.cells.map (·.2)++(if F.comp then[F.env.locals] else[])++[F.tab]
set_option genInjectivity false in
structure Gh where
 z:Z
 cs:List ag
 ρ:Z
 vl:List (af×ae)
 cl:List (af×ae)
 tv:List ae
 ov:List ag
 ot:List ag
 om:List ag
structure oy(ρ:Z)(bh:dh)(vl:List (af×ae)):Prop where
 ns:∃o m,ρ bh.locals=U o/\ug o m/\∀x v,lk x vl=U v->bh.kindOf x=U .local->m x=U v
 cell:∀p∈bh.cells,∃o,ρ p.2=U o/\(∃v0,o.data=.cell v0)/\∀v,bh.cells.lookup p.1=U p.2->lk p.1 vl=U v->bh.kindOf p.1=U .cell->o.data=.cell (U v)
 kinds:∀x v,lk x vl=U v->bh.kindOf x=U .local\/(bh.kindOf x=U .cell/\∃c,bh.cells.lookup x=U c)
structure Bo(ρ:Z)(env:dh)(cl:List (af×ae)):Prop where
 ns:∃o m,ρ env.locals=U o/\ug o m/\∀x v,lk x cl=U v->m x=U v
def oB(z ρ:Z)(P:ag)(lp:aY)(lq:af):Prop:=∃ps,ρ P=U (mw ps)/\(P=dY/\lp=pM/\lq=rd)/\TriplesOk ps.toList/\
 (codeAmong lp ps.toList=aj\/∃c o vs t,codeAmong lp ps.toList=U (.ref c)/\z c=U o/\o.data=.fields vs/\vs[1]?=U (.str lq t))
theorem oB.mono{z z' ρ ρ':Z}{P:ag}{lp:aY}{lq:af}(h:oB z ρ P lp lq)(hz:Z.le z z')(hr:ρ' P=ρ P):oB z' ρ' P lp lq:=by
 obtain⟨ps,e,q,t,k⟩:=h
 refine⟨ps,hr.trans e,q,t,k.imp id ?_⟩
 rintro ⟨c,o,vs,t,a,b,r⟩
 exact⟨c,o,vs,t,a,hz _ _ b,r⟩
structure Reg(F:Fm)(z ρ:Z)(σ:aw):Prop where
 zi:∀a o,z a=U o->σ.heap.get? a=U o
 ki:∀a o,F.kp a=U o->σ.heap.get? a=U o
 ri:∀a o,ρ a=U o->σ.heap.get? a=U o
 rz:∀a o,ρ a=U o->z a=aj/\F.kp a=aj
 zk:∀a o,z a=U o->F.kp a=aj\/F.zb a=U o
 zb:Z.le F.zb z
 base:∀a o,F.hb.get? a=U o->F.zb a=U o
 gens:σ.gens=#[]
 os:σ.os=F.os
structure Cont(w:aE)(F:Fm)(s:S)(g:Gh)(x:List ag):Prop where
 loc:oy g.ρ F.bh g.vl
 tb:oB g.z g.ρ F.tab F.lp F.lq
 cmp:F.comp=J->Bo g.ρ F.env g.cl
 vars:eH w g.z g.cs g.ρ s.vars g.vl g.ov
 bX:et w g.z g.cs g.ρ s.bX g.tv g.ot
 mem:dT w g.z g.cs g.ρ s.mem g.cs g.om
 cv:jR w g.z g.cs s.cv g.cl
 nd:(F.ns++g.ov++g.ot++g.om++x).Nodup
 xo:∀b∈x,∃o,g.ρ b=U o
structure Full(w:aE)(F:Fm)(s:S)(g:Gh)(x:List ag)(σ:aw):Prop extends Reg F g.z g.ρ σ,Cont w F s g x
structure Gh.le(g g':Gh):Prop where
 z:Z.le g.z g'.z
 cs:pre g.cs g'.cs
 vl:g'.vl=g.vl
 cl:g'.cl=g.cl
 tv:g'.tv=g.tv
theorem Gh.le_refl(g:Gh):g.le g:=⟨Z.le_refl _,bz _,rfl,rfl,rfl⟩
theorem Gh.le.le_trans{a b c:Gh}(h:a.le b)(k:b.le c):a.le c:=⟨Z.le_trans h.z k.z,kh h.cs k.cs,k.vl.trans h.vl,k.cl.trans h.cl,k.tv.trans h.tv⟩
inductive cg(w:aE)(g:Gh):R->ae->List ag->Prop
 |val {v:V} {x:ae} (h:Den w g.z g.cs v x):cg w g (.val v) x []
 |var {y:af} {x:ae} (h:lk y g.vl=U x):cg w g (.var y) x []
 |list {xs:List V} {a:ag} {vs:Array ae} {n:Nat} (h:g.ρ a=U (bg vs n)) (k:aF w g.z g.cs xs vs.toList) (hz:xs.length<=bQ):cg w g (.list xs) (.ref a) [a]
 |dict {ks vs:List V} {a:ag} {es:Array cm} {n:Nat} (h:g.ρ a=U (cB es n)) (k:cn w g.z g.cs ks vs es.toList) (hn:NoSys a ks) (hz:ks.length<=bQ):cg w g (.dict ks vs) (.ref a) [a]
theorem cg.mono{w:aE}{g g':Gh}{r:R}{x:ae}(h:cg w g r x [])(k:g.le g'):cg w g' r x []:=by
 cases h with
 |val h=>exact .val (h.mono k.z k.cs)
 |var h=>exact .var (by rw[k.vl];exact h)
section
variable {w:aE}{F:Fm}{s:S}{g:Gh}{x:List ag}{σ σ':aw}
section
variable {z ρ:Z}
structure cU(σ σ':aw):Prop where
 heap:∀a o,σ.heap.get? a=U o->σ'.heap.get? a=U o
 gens:σ'.gens=σ.gens
 os:σ'.os=σ.os
theorem cU.refl(σ:aw):cU σ σ:=⟨λj j e=>e,rfl,rfl⟩
theorem cU.trans{a b c:aw}(h:cU a b)(k:cU b c):cU a c:=⟨λx o e=>k.heap x o (h.heap x o e),k.gens.trans h.gens,k.os.trans h.os⟩
structure mB(a:ag)(o:aP)(σ σ':aw):Prop where
 heap:∀b ob,b≠a->σ.heap.get? b=U ob->σ'.heap.get? b=U ob
 at_:σ'.heap.get? a=U o
 gens:σ'.gens=σ.gens
 os:σ'.os=σ.os
noncomputable def Z.del(z:Z)(a:ag):Z:=λb=>if b=a then aj else z b
theorem Z.XS(z:Z)(a:ag):Z.del z a a=none:=if_pos rfl
theorem Z.vD(z:Z){a b:ag}(h:b≠a):Z.del z a b=z b:=if_neg h
theorem Z.qW{z:Z}{a b:ag}{o:aP}(e:Z.del z a b=U o):b≠a/\z b=U o:=by
 by_cases q:b=a
 ·rw[q,Z.XS] at e;cases e
 ·rw[Z.vD _ q] at e;exact⟨q,e⟩
theorem Z.lx{z:Z}{a b:ag}{o ob:aP}{P:Prop}(e:Z.put z a o b=U ob)(h1:b=a->o=ob->P)(h2:b≠a->z b=U ob->P):P:=by
 by_cases q:b=a
 ·exact h1 q (by rw[q,Z.dp] at e;exact aA e)
 ·exact h2 q (by rw[Z.df _ _ q] at e;exact e)
theorem Z.no{z:Z}{h:az}(hz:∀a o,z a=U o->h.get? a=U o){a:ag}(ha:h.get? a=aj):z a=none:=by
 cases e:z a with
 |none=>rfl
 |some o=>exact absurd (ha.symm.trans (hz _ _ e)) ay
theorem Z.off{z:Z}{a b:ag}{o:aP}(h:z a=aj)(e:z b=U o):b≠a:=λq=>by rw[q,h] at e;cases e
theorem Reg.w6(R:Reg F z ρ σ):∀a o,F.hb.get? a=U o->σ.heap.get? a=U o:=λa o e=>R.zi a o (R.zb a o (R.base a o e))
theorem Reg.grown(R:Reg F z ρ σ)(G:cU σ σ'):Reg F z ρ σ':=
 ⟨λa o e=>G.heap a o (R.zi a o e),λa o e=>G.heap a o (R.ki a o e),λa o e=>G.heap a o (R.ri a o e),R.rz,R.zk,R.zb,R.base,G.gens.trans R.gens,G.os.trans R.os⟩
theorem Reg.own(R:Reg F z ρ σ)(G:cU σ σ'){a:ag}{o:aP}(ha:σ.heap.get? a=aj)(e:σ'.heap.get? a=U o):Reg F z (ρ.put a o) σ':=
 {R.grown G with
  ri:=λb ob k=>Z.lx k (λq k=>by rw[q,<-k];exact e) λj k=>G.heap _ _ (R.ri b ob k)
  rz:=λb ob k=>Z.lx k (λq j=>q▸⟨Z.no R.zi ha,Z.no R.ki ha⟩) λj=>R.rz b ob}
theorem Reg.ag9(R:Reg F z ρ σ)(G:cU σ σ'){a:ag}{o:aP}(ha:σ.heap.get? a=aj)(e:σ'.heap.get? a=U o):Reg F (z.put a o) ρ σ':=
 {R.grown G with
  zi:=λb ob k=>Z.lx k (λq k=>by rw[q,<-k];exact e) λj k=>G.heap _ _ (R.zi b ob k)
  rz:=λb ob k=>⟨(Z.df _ _ (Z.off (Z.no R.ri ha) k)).trans (R.rz b ob k).1,(R.rz b ob k).2⟩
  zk:=λb ob k=>Z.lx k (λq j=>.inl (q▸Z.no R.ki ha)) λj=>R.zk b ob
  zb:=Z.le_trans R.zb (Z.lH o (Z.no R.zi ha))}
theorem Reg.freeze(R:Reg F z ρ σ){a:ag}{o:aP}(ha:ρ a=U o):Reg F (z.put a o) (ρ.del a) σ:=
 {R with
  zi:=λb ob k=>Z.lx k (λq k=>by rw[q,<-k];exact R.ri _ _ ha) λj=>R.zi b ob
  ri:=λb ob k=>R.ri b ob (Z.qW k).2
  rz:=λb ob k=>⟨(Z.df _ _ (Z.qW k).1).trans (R.rz b ob (Z.qW k).2).1,(R.rz b ob (Z.qW k).2).2⟩
  zk:=λb ob k=>Z.lx k (λq j=>.inl (q▸(R.rz _ o ha).2)) λj=>R.zk b ob
  zb:=Z.le_trans R.zb (Z.lH o (R.rz a o ha).1)}
theorem Reg.t4(R:Reg F z ρ σ){a:ag}{o o':aP}(ha:ρ a=U o)(P:mB a o' σ σ'):Reg F z (ρ.put a o') σ':=
 {R with
  zi:=λb ob k=>P.heap b ob (Z.off (R.rz a o ha).1 k) (R.zi b ob k),ki:=λb ob k=>P.heap b ob (Z.off (R.rz a o ha).2 k) (R.ki b ob k)
  ri:=λb ob k=>Z.lx k (λq k=>by rw[q,<-k];exact P.at_) λh k=>P.heap b ob h (R.ri b ob k)
  rz:=λb ob k=>Z.lx k (λq j=>q▸R.rz a o ha) λj=>R.rz b ob
  gens:=P.gens.trans R.gens,os:=P.os.trans R.os}
noncomputable def er(p:ag->Bool)(ρ kp:Z):Z:=λa=>if p a then(ρ a).or (kp a) else kp a
noncomputable def iI(p:ag->Bool)(ρ:Z):Z:=λa=>if p a then aj else ρ a
noncomputable def ig(p:ag->Bool)(ρ ρ':Z):Z:=λa=>if p a then(ρ a).or (ρ' a) else ρ' a
noncomputable abbrev Fm.er(F:Fm)(p:ag->Bool)(ρ:Z):Fm:={F with kp:=Mine.er p ρ F.kp}
theorem mX{p:ag->Bool}{a:ag}{o:aP}(e:iI p ρ a=U o):p a=ah/\ρ a=U o:=by
 unfold iI at e
 cases h:p a with
 |true=>rw[h] at e;cases e
 |false=>rw[h] at e;exact⟨rfl,e⟩
theorem xY{p:ag->Bool}{a:ag}(h:p a=ah):iI p ρ a=ρ a:=by unfold iI;rw[h];rfl
theorem xV{p:ag->Bool}{kp:Z}{a:ag}(h:p a=ah):er p ρ kp a=kp a:=by unfold er;rw[h];rfl
theorem pE{p:ag->Bool}{kp:Z}{a:ag}{o:aP}(h:p a=J)(e:ρ a=U o):er p ρ kp a=U o:=by unfold er;rw[h,e];rfl
theorem sU{p:ag->Bool}{kp:Z}{a:ag}(e:ρ a=aj):er p ρ kp a=kp a:=by
 unfold er
 rw[e]
 induction p a<;>rfl
theorem DU{p:ag->Bool}{ρ':Z}{a:ag}(h:p a=ah):ig p ρ ρ' a=ρ' a:=by unfold ig;rw[h];rfl
theorem D8{p:ag->Bool}{ρ':Z}{a:ag}{o:aP}(h:p a=J)(e:ρ a=U o):ig p ρ ρ' a=U o:=by unfold ig;rw[h,e];rfl
theorem Vc{p:ag->Bool}{ρ':Z}{a:ag}(e:ρ a=aj):ig p ρ ρ' a=ρ' a:=sU e
theorem xM{p:ag->Bool}{kp:Z}{a:ag}{o:aP}{P:Prop}(e:er p ρ kp a=U o)(h1:p a=J->ρ a=U o->P)(h2:kp a=U o->P):P:=by
 cases h:p a with
 |false=>exact h2 ((xV h).symm.trans e)
 |true=>
  cases q:ρ a with
  |none=>exact h2 ((sU q).symm.trans e)
  |some o'=>exact h1 h (q.trans ((pE h q).symm.trans e))
theorem Reg.er(R:Reg F z ρ σ)(p:ag->Bool):Reg (F.er p ρ) z (iI p ρ) σ:=
 {R with
  ki:=λa o e=>xM e (λj=>R.ri a o) (R.ki a o)
  ri:=λa o e=>R.ri a o (mX e).2
  rz:=λa o e=>⟨(R.rz a o (mX e).2).1,(xV (mX e).1).trans (R.rz a o (mX e).2).2⟩
  zk:=λa o e=>(R.zk a o e).imp (λh=>(sU (by cases q:ρ a with
   |none=>rfl
   |some ob=>rw[(R.rz a ob q).1] at e;cases e)).trans h) id}
theorem Reg.apart(R:Reg F z ρ σ){p:ag->Bool}{z' ρ':Z}(R':Reg (F.er p ρ) z' ρ' σ'){a:ag}{o:aP}(e:ρ' a=U o)(h:p a=J):ρ a=none:=by
 cases q:ρ a with
 |none=>rfl
 |some ob=>exact absurd ((pE h q).symm.trans (R'.rz a o e).2) mM
theorem Reg.KU(R:Reg F z ρ σ){p:ag->Bool}{z' ρ':Z}(R':Reg (F.er p ρ) z' ρ' σ'){a:ag}{o:aP}(e:ρ' a=U o):ig p ρ ρ' a=ρ' a:=by
 cases h:p a with
 |false=>exact DU h
 |true=>exact Vc (R.apart R' e h)
theorem Reg.ig(R:Reg F z ρ σ){p:ag->Bool}{z' ρ':Z}(R':Reg (F.er p ρ) z' ρ' σ'):Reg F z' (ig p ρ ρ') σ':=
 {zi:=R'.zi,zb:=R'.zb,base:=R'.base,gens:=R'.gens,os:=R'.os
  ki:=λa o e=>R'.ki a o ((sU (by cases q:ρ a with
   |none=>rfl
   |some ob=>rw[(R.rz a ob q).2] at e;cases e)).trans e)
  ri:=λa o e=>xM e (λh q=>R'.ki a o (pE h q)) (R'.ri a o)
  rz:=λa o e=>xM e (λh q=>⟨by
    cases qz:z' a with
    |none=>rfl
    |some oz=>exact(R'.zk a oz qz).elim (λh3=>absurd ((pE h q).symm.trans h3) mM) λh3=>absurd ((R.rz a o q).1.symm.trans (R.zb a oz h3)) ay,(R.rz a o q).2⟩)
   λq=>⟨(R'.rz a o q).1,by
    cases h:p a with
    |false=>exact(xV h).symm.trans (R'.rz a o q).2
    |true=>exact(sU (R.apart R' q h)).symm.trans (R'.rz a o q).2⟩
  zk:=λa o e=>(R'.zk a o e).imp (λh=>by
    cases q:ρ a with
    |none=>exact(sU q).symm.trans h
    |some ob=>exact(R.rz a ob q).2) id}
end
theorem Full.grown(H:Full w F s g x σ)(G:cU σ σ'):Full w F s g x σ':=⟨H.toReg.grown G,H.toCont⟩
theorem Full.grow(H:Full w F s g x σ)(hh:∀a o,σ.heap.get? a=U o->σ'.heap.get? a=U o)(hg:σ'.gens=σ.gens)(ho:σ'.os=σ.os):Full w F s g x σ':=H.grown ⟨hh,hg,ho⟩
theorem Full.toks(H:Full w F s g x σ)(t:Nat):Full w F s g x {σ with toks:=t}:=H.grow (λj j e=>e) rfl rfl
theorem dr.eY{z:Z}{cs:List ag}{ρ:Z}{a:Sl}{v:ae}{o:List ag}(h:dr w z cs ρ a v o):∀b∈o,∃ob,ρ b=U ob:=by
 induction h with
 |val h=>intro b hb;cases hb
 |list h k l=>intro b hb;rw[cK.mp hb];exact⟨_,h⟩
 |dict h k n l=>intro b hb;rw[cK.mp hb];exact⟨_,h⟩
theorem n6{ρ:Z}{p q:List ag}(h:∀b∈p,∃ob,ρ b=U ob)(k:∀b∈q,∃ob,ρ b=U ob):∀b∈p++q,∃ob,ρ b=U ob:=λb hb=>(gx.mp hb).elim (h b) (k b)
theorem et.eY{z:Z}{cs:List ag}{ρ:Z}{a:List Sl}:∀{v:List ae} {o:List ag},et w z cs ρ a v o->∀b∈o,∃ob,ρ b=U ob:=by
 induction a with
 |nil=>exact λh b hb=>by rw[(qQ h).2] at hb;cases hb
 |cons a r ih=>exact λh=>As (P:=λj o=>∀b∈o,∃ob,ρ b=U ob) h λj j j j h k=>n6 h.eY (ih k)
theorem eH.eY{z:Z}{cs:List ag}{ρ:Z}{a:List (af×Sl)}:∀{v:List (af×ae)} {o:List ag},eH w z cs ρ a v o->∀b∈o,∃ob,ρ b=U ob:=by
 induction a with
 |nil=>exact λh b hb=>by rw[(xQ h).2] at hb;cases hb
 |cons a r ih=>exact λh=>Aq (P:=λj o=>∀b∈o,∃ob,ρ b=U ob) h λj j j j h k=>n6 h.eY (ih k)
theorem de.eY{z:Z}{cs:List ag}{ρ:Z}{m:M}{a:ag}{o:List ag}(h:de w z cs ρ m a o):∀b∈o,∃ob,ρ b=U ob:=by
 induction h with
 |list h k l=>intro b hb;rw[cK.mp hb];exact⟨_,h⟩
 |dict h k n l=>intro b hb;rw[cK.mp hb];exact⟨_,h⟩
 |inst h hd k n=>
  intro b hb
  rcases cf.mp hb with rfl|hb
  ·exact⟨_,h⟩
  ·rw[cK.mp hb];exact⟨_,hd⟩
 |gone h hf=>intro b hb;cases hb
theorem dT.eY{z:Z}{cs:List ag}{ρ:Z}{a:List M}:∀{v:List ag} {o:List ag},dT w z cs ρ a v o->∀b∈o,∃ob,ρ b=U ob:=by
 induction a with
 |nil=>exact λh b hb=>by rw[(vi h).2] at hb;cases hb
 |cons a r ih=>exact λh=>xW (P:=λj o=>∀b∈o,∃ob,ρ b=U ob) h λj j j j h k=>n6 h.eY (ih k)
theorem oB.FD{z ρ:Z}{P:ag}{lp:aY}{lq:af}(h:oB z ρ P lp lq):∃o,ρ P=U o:=h.elim λj h=>⟨_,h.1⟩
theorem Full.O7(H:Full w F s g x σ):∀b∈F.ns,∃o,g.ρ b=U o:=by
 unfold Fm.ns
 refine n6 (n6 (λb hb=>?_) λb hb=>?_) λb hb=>by rw[cK.mp hb];exact H.tb.FD
 ·rcases cf.mp hb with rfl|hb
  ·exact H.loc.ns.elim λo h=>⟨o,h.elim λj h=>h.1⟩
  ·obtain⟨p,hp,rfl⟩:=i4.mp hb
   exact(H.loc.cell p hp).imp λj h=>h.1
 ·split at hb
  ·rename_i q
   rw[cK.mp hb]
   exact(H.cmp q).ns.elim λo h=>⟨o,h.elim λj h=>h.1⟩
  ·cases hb
theorem Full.eY(H:Full w F s g x σ):∀b∈F.ns++g.ov++g.ot++g.om++x,∃o,g.ρ b=U o:=n6 (n6 (n6 (n6 H.O7 H.vars.eY) H.bX.eY) H.mem.eY) H.xo
theorem kg{h:az}:h.get? h.objs.size=none:=by
 cases e:h.get? h.objs.size with
 |none=>rfl
 |some o=>exact absurd (gy e) (sL _)
theorem Full.Fe(H:Full w F s g x σ):g.z σ.heap.objs.size=none:=Z.no H.zi kg
theorem Full.aab(H:Full w F s g x σ):F.kp σ.heap.objs.size=none:=Z.no H.ki kg
theorem oy.mono{ρ ρ':Z}{bh:dh}{vl:List (af×ae)}(h:oy ρ bh vl)(hr:∀a∈bh.locals::bh.cells.map (·.2),∀o,ρ a=U o->ρ' a=U o):oy ρ' bh vl:=
 ⟨h.ns.imp λj k=>k.imp λj k=>⟨hr _ (.head _) _ k.1,k.2⟩,λp hp=>(h.cell p hp).imp λj k=>⟨hr _ (.tail _ (qC hp)) _ k.1,k.2⟩,h.kinds⟩
theorem oy.on{ρ ρ':Z}{bh:dh}{vl:List (af×ae)}(h:oy ρ bh vl)(hr:∀a∈bh.locals::bh.cells.map (·.2),ρ' a=ρ a):oy ρ' bh vl:=h.mono λa ha j e=>(hr a ha).trans e
theorem Bo.on{ρ ρ':Z}{env:dh}{cl:List (af×ae)}(h:Bo ρ env cl)(hr:∀o,ρ env.locals=U o->ρ' env.locals=U o):Bo ρ' env cl:=⟨h.ns.imp λj k=>k.imp λj k=>⟨hr _ k.1,k.2⟩⟩
section
variable {a b c d e:List ag}{y:ag}
theorem BD(h:y∈a):y∈a++b++c++d++e:=bp _ (bp _ (bp _ (bp _ h)))
theorem ae0(h:y∈b):y∈a++b++c++d++e:=bp _ (bp _ (bp _ (cy _ h)))
theorem adV(h:y∈c):y∈a++b++c++d++e:=bp _ (bp _ (cy _ h))
theorem afY(h:y∈d):y∈a++b++c++d++e:=bp _ (cy _ h)
end
theorem Fm.pP{F:Fm}{b:ag}(h:b∈F.bh.locals::F.bh.cells.map (·.2)):b∈F.ns:=bp _ (bp _ h)
theorem Fm.Bf{F:Fm}(q:F.comp=J):F.env.locals∈F.ns:=bp _ (cy _ (by rw[if_pos q];exact .head _))
theorem Fm.yt{F:Fm}:F.tab∈F.ns:=cy _ (.head _)
theorem Cont.mono(C:Cont w F s g x){z' ρ':Z}(hz:Z.le g.z z')(hr:∀b∈F.ns++g.ov++g.ot++g.om++x,ρ' b=g.ρ b):Cont w F s {g with z:=z',ρ:=ρ'} x:=
 ⟨C.loc.on λj hb=>hr _ (BD (Fm.pP hb)),C.tb.mono hz (hr _ (BD Fm.yt)),λq=>(C.cmp q).on λj e=>(hr _ (BD (Fm.Bf q))).trans e,C.vars.mono hz (bz _) λj hb=>hr _ (ae0 hb),C.bX.mono hz (bz _) λj hb=>hr _ (adV hb),
  C.mem.mono hz (bz _) λj hb=>hr _ (afY hb),C.cv.mono hz (bz _),C.nd,λb hb=>(C.xo b hb).imp λj e=>(hr _ (cy _ hb)).trans e⟩
theorem Cont.keep(C:Cont w F s g x)(k:Z):Cont w {F with kp:=k} s g x:=⟨C.loc,C.tb,C.cmp,C.vars,C.bX,C.mem,C.cv,C.nd,C.xo⟩
theorem Cont.rm{k:Z}(C:Cont w {F with kp:=k} s g x):Cont w F s g x:=⟨C.loc,C.tb,C.cmp,C.vars,C.bX,C.mem,C.cv,C.nd,C.xo⟩
theorem Z.iH{ρ:Z}{a:ag}{o:aP}{l:List ag}(h:a∉l):∀b∈l,ρ.put a o b=ρ b:=λj hb=>Z.df _ _ λq=>h (q▸hb)
theorem Full.put(H:Full w F s g x σ)(G:cU σ σ'){a:ag}{o:aP}(ha:σ.heap.get? a=aj)(e:σ'.heap.get? a=U o):Full w F s {g with ρ:=g.ρ.put a o} (x++[a]) σ':=by
 have hn:a∉F.ns++g.ov++g.ot++g.om++x:=λhb=>(H.eY _ hb).elim λo q=>absurd (ha.symm.trans (H.ri _ _ q)) ay
 have C:=H.toCont.mono (Z.le_refl _) (Z.iH (o:=o) hn)
 exact⟨H.toReg.own G ha e,{C with
  nd:=by
   rw[<-aN]
   exact cM.mpr ⟨H.nd,eN.mpr ⟨uN,nU⟩,λc hc b hb e=>hn (cK.mp hb▸e▸hc)⟩
  xo:=n6 C.xo λb hb=>⟨o,by rw[cK.mp hb];exact Z.dp _ _ _⟩}⟩
theorem rt(o:aP)(hf:o.isFreed=ah)(hg:σ'.gens=σ.gens)(ho:σ'.os=σ.os)(hh:σ'.heap=σ.heap.push o):cU σ σ'/\σ'.heap.get? σ.heap.objs.size=U o:=
 ⟨⟨λa ob e=>by rw[hh];exact dX _ e,hg,ho⟩,by rw[hh];exact eM _ hf⟩
theorem Full.alloc(H:Full w F s g x σ)(o:aP)(hf:o.isFreed=ah)(hg:σ'.gens=σ.gens)(ho:σ'.os=σ.os)(hh:σ'.heap=σ.heap.push o):
  Full w F s {g with ρ:=g.ρ.put σ.heap.objs.size o} (x++[σ.heap.objs.size]) σ':=H.put (rt o hf hg ho hh).1 kg (rt o hf hg ho hh).2
theorem Full.acZ(H:Full w F s g x σ)(o:aP)(hf:o.isFreed=ah)(hg:σ'.gens=σ.gens)(ho:σ'.os=σ.os)(hh:σ'.heap=σ.heap.push o):
  Full w F s {g with z:=g.z.put σ.heap.objs.size o} x σ':=⟨H.toReg.ag9 (rt o hf hg ho hh).1 kg (rt o hf hg ho hh).2,H.toCont.mono (Z.lH o H.Fe) λj j=>rfl⟩
theorem Full.toZ(H:Full w F s g x σ){a:ag}{o:aP}{ov ot om x':List ag}(ha:g.ρ a=U o){s':S}(p5:a∉F.ns)
  (hv:eH w (g.z.put a o) g.cs (g.ρ.del a) s'.vars g.vl ov) (ht:et w (g.z.put a o) g.cs (g.ρ.del a) s'.bX g.tv ot) (hm:dT w (g.z.put a o) g.cs (g.ρ.del a) s'.mem g.cs om) (hc:s'.cv=s.cv)
  (hx:∀b∈x',b∈x/\b≠a) (hn:(F.ns++ov++ot++om++x').Nodup):
  Full w F s' {g with z:=g.z.put a o,ρ:=g.ρ.del a,ov:=ov,ot:=ot,om:=om} x' σ:=
 have hr:Z.le g.z (g.z.put a o):=Z.lH o (H.rz a o ha).1
 have hd:∀b∈F.ns,g.ρ.del a b=g.ρ b:=λb hb=>Z.vD _ λq=>p5 (q▸hb)
 ⟨H.toReg.freeze ha,⟨H.loc.on λb hb=>hd b (Fm.pP hb),H.tb.mono hr (hd _ Fm.yt),λq=>(H.cmp q).on λj e=>(hd _ (Fm.Bf q)).trans e,hv,ht,hm,hc▸H.cv.mono hr (bz _),hn,
  λb hb=>(H.xo b (hx b hb).1).imp λj e=>(Z.vD _ (hx b hb).2).trans e⟩⟩
theorem Full.t4(H:Full w F s g x σ){a:ag}{o o':aP}(ha:g.ρ a=U o)(hs:∀b ob,b≠a->σ.heap.get? b=U ob->σ'.heap.get? b=U ob)(he:σ'.heap.get? a=U o')(hg:σ'.gens=σ.gens)(ho:σ'.os=σ.os)
  {s':S} {ov ot om x':List ag} (p5:a∉F.ns) (hv:eH w g.z g.cs (g.ρ.put a o') s'.vars g.vl ov) (ht:et w g.z g.cs (g.ρ.put a o') s'.bX g.tv ot) (hm:dT w g.z g.cs (g.ρ.put a o') s'.mem g.cs om) (hc:s'.cv=s.cv)
  (hn:(F.ns++ov++ot++om++x').Nodup) (hx:∀b∈x',∃ob,(g.ρ.put a o') b=U ob):
  Full w F s' {g with ρ:=g.ρ.put a o',ov:=ov,ot:=ot,om:=om} x' σ':=
 have hd:∀b∈F.ns,g.ρ.put a o' b=g.ρ b:=Z.iH p5
 ⟨H.toReg.t4 ha ⟨hs,he,hg,ho⟩,⟨H.loc.on λb hb=>hd b (Fm.pP hb),H.tb.mono (Z.le_refl _) (hd _ Fm.yt),λq=>(H.cmp q).on λj e=>(hd _ (Fm.Bf q)).trans e,hv,ht,hm,hc▸H.cv,hn,hx⟩⟩
theorem Full.yx(H:Full w F s g x σ){a:ag}{o':aP}:∀b∈x,∃ob,(g.ρ.put a o') b=U ob:=λb hb=>by
 by_cases q:b=a
 ·exact⟨o',by rw[q];exact Z.dp _ _ _⟩
 ·exact(H.xo b hb).imp λj e=>(Z.df _ _ q).trans e
theorem ahr{l x:List ag}(h:(l++x).Nodup){a:ag}(ha:a∈x):a∉l:=λhb=>(cM.mp h).2.2 a hb a ha rfl
structure aeL(a:ag)(n o1 o3 t m x:List ag):Prop where
 hn:a∉n
 h1:a∉o1
 h3:a∉o3
 ht:a∉t
 hm:a∉m
 nd:(n++(o1++[]++o3)++t++m++x).Nodup
theorem LV{a:ag}{n o1 o3 t m x:List ag}(h:(n++(o1++[a]++o3)++t++m++x).Nodup):aeL a n o1 o3 t m x:=by
 have e:n++(o1++[a]++o3)++t++m++x=(n++o1)++a::(o3++t++m++x):=by simp only[aN,l9,gk]
 have e2:n++(o1++[]++o3)++t++m++x=(n++o1)++(o3++t++m++x):=by simp only[aN,gk]
 rw[e] at h
 obtain⟨h1,h2⟩:=eN.mp (Ds.nodup h)
 have r:∀{l},a∈l->l ⊆ o3++t++m++x->False:=λh k=>h1 (cy _ (k h))
 exact⟨λq=>h1 (bp _ (bp _ q)),λq=>h1 (bp _ (cy _ q)),λq=>r q λj k=>bp _ (bp _ (bp _ k)),
  λq=>r q λj k=>bp _ (bp _ (cy _ k)),λq=>r q λj k=>bp _ (cy _ k),e2▸h2⟩
theorem Z.vx{ρ:Z}{a:ag}{l:List ag}(h:a∉l):∀b∈l,ρ.del a b=ρ b:=λj hb=>Z.vD _ λq=>h (q▸hb)
theorem Full.leZ(H:Full w F s g x σ){a:ag}{o:aP}(ha:g.ρ a=U o):Z.le g.z (g.z.put a o):=Z.lH o (H.rz a o ha).1
theorem Gh.Br(H:Full w F s g x σ){a:ag}{o:aP}(ha:g.ρ a=U o)(ov:List ag):g.le {g with z:=g.z.put a o,ρ:=g.ρ.del a,ov:=ov}:=⟨H.leZ ha,bz _,rfl,rfl,rfl⟩
theorem Full.P9{a:ag}{o:aP}(H:Full w F s g [a] σ)(ha:g.ρ a=U o):Full w F s {g with z:=g.z.put a o,ρ:=g.ρ.del a} [] σ:=by
 have hn:=ahr H.nd (.head _)
 have off:∀{l:List ag},l ⊆ F.ns++g.ov++g.ot++g.om->∀b∈l,g.ρ.del a b=g.ρ b:=λh=>Z.vx λq=>hn (h q)
 exact H.toZ ha (λq=>hn (bp _ (bp _ (bp _ q)))) (H.vars.mono (H.leZ ha) (bz _) (off λj k=>bp _ (bp _ (cy _ k))))
  (H.bX.mono (H.leZ ha) (bz _) (off λj k=>bp _ (cy _ k))) (H.mem.mono (H.leZ ha) (bz _) (off λj k=>cy _ k)) rfl (λb hb=>dq hb) (by rw[bx];exact(cM.mp H.nd).1)
theorem Full.P8{a:ag}{o:aP}{y:af}{u:ae}{v:V}{o1 o3:List ag}(H:Full w F s g x σ)(ha:g.ρ a=U o)(e3:g.ov=o1++[a]++o3)(hd:Den w (g.z.put a o) g.cs v u)(hx:a∉x)
  (e4:∀(z':Z) (aV:List ag) (ρ':Z) (fv:Sl) (kU:List ag),Z.le g.z z'->pre g.cs aV->dr w z' aV ρ' fv u kU->(∀b∈o1,ρ' b=g.ρ b)->(∀b∈o3,ρ' b=g.ρ b)->eH w z' aV ρ' (up y fv s.vars) g.vl (o1++kU++o3)):
  Full w F (s.set y (.val v)) {g with z:=g.z.put a o,ρ:=g.ρ.del a,ov:=o1++[]++o3} x σ:=by
 have hA:=LV (e3▸H.nd)
 exact H.toZ ha hA.hn (e4 _ _ _ _ _ (H.leZ ha) (bz _) (.val hd) (Z.vx hA.h1) (Z.vx hA.h3)) (H.bX.mono (H.leZ ha) (bz _) (Z.vx hA.ht)) (H.mem.mono (H.leZ ha) (bz _) (Z.vx hA.hm)) rfl (λb hb=>⟨hb,λq=>hx (q▸hb)⟩) hA.nd
def ji(w:aE)(F:Fm)(s':S)(g:Gh)(σ:aw)(av:V)(v:ae):Prop:=∀C:Prop,(∀(g':Gh) (h1:g.le g') (h2:Full w F s' g' [] σ) (h3:Den w g'.z g'.cs av v),C)->C
theorem ik{α β:Type}{P:α->β->Prop}{a a':α}{b b':β}(e:U (a,b)=U (a',b'))(h:P a b):P a' b':=by cases e;exact h
theorem aa1{y:af}{sl:Sl}{v:ae}(H:Full w F s g [] σ)(q:lk y s.vars=U sl)(hy:lk y g.vl=U v):ji w F (s.Gq y sl).2 g σ (s.Gq y sl).1 v:=by
 refine H.vars.get q _ λu' o1 o2 o3 e1 e2 e3 e4=>?_
 have eu:u'=v:=aA (e1.symm.trans hy)
 cases e2 with
 |val h=>exact λQ_ k_=>k_ g g.le_refl H (eu▸h)
 |list h k hz=>
  have hd:=Den.list (Z.dp _ _ _) (k.mono (H.leZ h) (bz _)) hz
  exact λQ_ k_=>k_ _ (Gh.Br H h _) (H.P8 h e3 hd (λq=>dq q) e4) (eu▸hd)
 |dict h k hk hz=>
  have hd:=Den.dict (Z.dp _ _ _) (k.mono (H.leZ h) (bz _)) hk hz
  exact λQ_ k_=>k_ _ (Gh.Br H h _) (H.P8 h e3 hd (λq=>dq q) e4) (eu▸hd)
theorem rp(H:Full w F s g x σ){r:R}{v:ae}{av:V}{s':S}(hr:cg w g r v x)(e:s.nJ r=U (av,s')):ji w F s' g σ av v:=by
 cases hr with
 |val h=>exact ik (P:=λav s'=>ji w F s' g σ av v) e (λQ_ k_=>k_ g g.le_refl H h)
 |list h k hz=>exact ik (P:=λav s'=>ji w F s' g σ av _) e (λQ_ k_=>k_ _ (Gh.Br H h _) (H.P9 h) (.list (Z.dp _ _ _) (k.mono (H.leZ h) (bz _)) hz))
 |dict h k hk hz=>exact ik (P:=λav s'=>ji w F s' g σ av _) e (λQ_ k_=>k_ _ (Gh.Br H h _) (H.P9 h) (.dict (Z.dp _ _ _) (k.mono (H.leZ h) (bz _)) hk hz))
 |var hy=>exact(dw.mp e).elim λsl h=>ik (P:=λav s'=>ji w F s' g σ av v) (congrArg U h.2) (aa1 H h.1 hy)
end
end
section
noncomputable abbrev ao:Program:=I4
def aC:ae->aw->Prop:=λj j=>False
structure cJ(n:Nat)(A:bj):Prop where
 handled:A.handled=aj
 depth:A.depth+2*n<recursionLimit
 units:A.units+30*n<cLine
theorem cJ.le(h:cJ n A)(k:m<=n):cJ m A:=⟨h.handled,bq (gd (Di 2 k) _) h.depth,bq (gd (Di 30 k) _) h.units⟩
theorem cJ.room(h:cJ (n+1) A):A.depth<recursionLimit:=bq (fe _ _) h.depth
theorem cJ.unit(h:cJ (n+1) A):A.units+20<cLine:=bq (gd (bf (by decide) (Nat.le_mul_of_pos_right 30 (uX n))) _) h.units
structure Base(w:aE)(K:aS)(hb:az)(mg mb:af->Option ae):Prop where
 k:K.In hb
 g:hb.Ns jE mg
 b:hb.Ns qM mb
 lim:hb.NoLimit
 lam:CodeHd hb pJ dY
 bm:∃bm ob,mg "__builtins__"=U (.ref bm)/\bm≠qM/\hb.get? bm=U ob/\ob.cls=.type "module"/\ob.dict=U qM/\ob.data=.plain
 bi:∀x:af,x≠"__name__"->mb x=uS x
structure cz(w:aE)(K:aS)(mg mb:af->Option ae)(cx:Cx)(F:Fm):Prop where
 base:Base w K F.hb mg mb
 kind:F.env.scope.kind=.function
 pW:F.bh.scope.kind=.function
 glob:F.env.globals=jE
 blt:F.env.builtins=qM
 cmp:cx.comp=F.comp
 fn:F.comp=ah->F.env=F.bh/\cx.sc=F.bh.scope.names
 qn:F.comp=ah->∀x,lk x cx.sc=U .cell->∃c,F.bh.cells.lookup x=U c
 loc:F.comp=J->∀x,lk x cx.sc=U .local->F.env.kindOf x=U .local
 zo:F.comp=J->∀x,lk x cx.sc=U .free->F.env.kindOf x=U .cell/\F.bh.kindOf x=U .cell/\F.env.cells.lookup x=F.bh.cells.lookup x
 r5:F.comp=J->∀x,lk x cx.sc=U .globalImplicit->F.env.kindOf x=U .globalImplicit
 lam:cx.lam=J->F.comp=ah->F.env.code=.ref pJ/\F.env.qual=yO++".<locals>."
theorem qT(x:af)(l:List (af×α)):lk x l=l.lookup x:=by
 induction l with
 |nil=>rfl
 |cons p r ih=>
  rw[sD]
  by_cases h:p.1=x
  ·rw[h,beq_self_eq_true];exact eI.1 h
  ·rw[show(x==p.1)=ah from beq_eq_false_iff_ne.mpr λe=>h e.symm];exact(eI.2 h).trans ih
structure yI(K:aS)(c:Nat)(k:lL):Prop where
 set:findIn K (.ref c) "__setattr__"=U (U (.builtin "object.__setattr__"))/\plainOver K c=J/\∀a∈k.atts,takerIn K c a=U aj/\hasDictIn K c=J
 keep:keepIn K (.ref c)=J
 makes:makesIn K c=J
 init:findIn K (.ref c) "__init__"=U (U (.ref k.init))
 initfn:typeIn K (.ref k.init)=U (.type "function")
 att:∀a∈k.atts,plainGet K c a=J/\hasDictIn K c=J/\∃attr,findIn K (.ref c) a=U attr/\noGet K attr=J
 yV:∀m f,lk m k.meths=U f->plainGet K c m=J/\findIn K (.ref c) m=U (U (.ref f))/\isFn K (.ref f)=J
structure eG(w:aE)(K:aS)(mg mb:af->Option ae)(G:bR):Prop where
 cls:∀c k,G.cls c=U k->yI K c k
 glob:∀x v,G.glob x=U v->v.free=J/\∀h:az,K.In h->∃u,Den w h.get? [] v u/\(mg x=U u\/(mg x=aj/\mb x=U u))
section
variable (w:aE)(K:aS)(mg mb:af->Option ae)
def cO(F:Fm)(g:Gh)(s':S)(r:R)(v:ae)(σ':aw):Prop:=∀C:Prop,(∀(g':Gh) (x':List ag) (h1:g.le g') (h2:Full w F s' g' x' σ') (h3:cg w g' r v x'),C)->C
end
inductive bw(w:aE)(z:Z)(cs:List ag)(h:az):V->ae->Prop
 |den {v:V} {x:ae} (k:Den w z cs v x):bw w z cs h v x
 |list {xs:List V} {a:ag} {vs:Array ae} {n:Nat} (e:h.get? a=U (bg vs n)) (k:aF w z cs xs vs.toList) (hz:xs.length<=bQ):bw w z cs h (.list xs) (.ref a)
 |dict {ks vs:List V} {a:ag} {es:Array cm} {n:Nat} (e:h.get? a=U (cB es n)) (k:cn w z cs ks vs es.toList) (hn:NoSys a ks) (hz:ks.length<=bQ):bw w z cs h (.dict ks vs) (.ref a)
 |inst {c:Nat} {ns:List af} {vs:List V} {a d:ag} {es:Array cm} {n:Nat} (e:h.get? a=U (kj c d)) (hd:h.get? d=U (cB es n)) (k:dA w z cs ns vs es.toList) (hn:ns.Nodup):bw w z cs h (.inst c ns vs) (.ref a)
section
variable {w:aE}{K:aS}{mg mb:af->Option ae}{F:Fm}{s s':S}{g:Gh}{x:List ag}{σ:aw}{A:bj}{cx:Cx}
def Cq(w:aE)(z:Z)(cs:List ag)(h:az)(v:V)(y:ae):Prop:=match v with
 |.tup xs=>TupAt w h.get? z cs xs y
 |.list xs=>Gi w h.get? z cs xs y
 |.dict ks vs=>iK w h.get? z cs ks vs y
 |.inst c ns vs=>F3 w h.get? z cs c ns vs y
 |v=>Den w z cs v y
theorem bw.inv(hz:∀a o,z a=U o->h.get? a=U o)(k:bw w z cs h v y):Cq w z cs h v y:=by
 induction k with
 |list e k l=>exact λQ_ k_=>k_ _ _ _ rfl e k l
 |dict e k n l=>exact λQ_ k_=>k_ _ _ _ rfl e k n.1 n.2 l
 |inst e hd k n=>exact λQ_ k_=>k_ _ _ _ _ rfl e hd k n
 |den d=>
  exact Den.casesOn (motive_1:=λv y j=>Cq w z cs h v y) d .none .bool .int .str .fn .bi .ty (λh k l Q_ k_=>k_ _ _ _ rfl (hz _ _ h) k l) (λh k l Q_ k_=>k_ _ _ _ rfl (hz _ _ h) k l)
   (λh k n l Q_ k_=>k_ _ _ _ rfl (hz _ _ h) k n.1 n.2 l) (λh hd k n Q_ k_=>k_ _ _ _ _ rfl (hz _ _ h) (hz _ _ hd) k n) .cell
theorem bw.isList(hz:∀a o,z a=U o->h.get? a=U o)(k:bw w z cs h (.list xs) y):Gi w h.get? z cs xs y:=k.inv hz
theorem bw.isTup(hz:∀a o,z a=U o->h.get? a=U o)(k:bw w z cs h (.tup xs) y):TupAt w h.get? z cs xs y:=k.inv hz
theorem bw.tm(hz:∀a o,z a=U o->h.get? a=U o)(k:bw w z cs h (.dict ks vs) y):iK w h.get? z cs ks vs y:=k.inv hz
theorem bw.Od(hz:∀a o,z a=U o->h.get? a=U o)(k:bw w z cs h (.inst c ns vs) y):F3 w h.get? z cs c ns vs y:=k.inv hz
noncomputable def isObj:V->Bool
 |.list _=>J
 |.dict _ _=>J
 |.inst _ _ _=>J
 |_=>ah
theorem bw.wj(k:bw w z cs h v y):isObj v=ah->Den w z cs v y:=
 bw.casesOn (motive:=λv y j=>isObj v=ah->Den w z cs v y) k (λd j=>d) (λj j j e=>jk e) (λj j j j e=>jk e) (λj j j j e=>jk e)
theorem bw.int(k:bw w z cs h (.int i) y):∃t,y=.int i t:=(k.wj rfl).inv
theorem bw.str(k:bw w z cs h (.str i) y):∃t,y=.str i t:=(k.wj rfl).inv
theorem bw.bool(k:bw w z cs h (.bool i) y):y=.bool i:=(k.wj rfl).inv
theorem bw.none(k:bw w z cs h .none y):y=.none:=(k.wj rfl).inv
theorem de.view(k:de w z cs ρ m a o)(hr:∀a o,ρ a=U o->h.get? a=U o):bw w z cs h m.v (.ref a):=by
 induction k with
 |list h k l=>exact .list (hr _ _ h) k l
 |dict h k n l=>exact .dict (hr _ _ h) k n l
 |inst h hd k n=>exact .inst (hr _ _ h) (hr _ _ hd) k n
 |gone h hf=>exact .den h
theorem vw(H:Full w F s g x σ)(hd:Den w g.z g.cs v y)(e:s.view v=U pv):bw w g.z g.cs σ.heap pv y:=by
 cases v with
 |cell i=>
  refine(dw.mp e).elim λm q=>hd.inv.elim λa ha=>?_
  rw[<-q.2,ha.2]
  exact H.mem.get q.1 _ λa' _ _ _ e1 e2 _ _=>aA (e1.symm.trans ha.1)▸e2.view H.ri
 |_=>exact aA e▸.den hd
theorem VJ(H:Full w F s g x σ)(h:dr w g.z g.cs g.ρ sl y o)(e:s.FC sl=U pv):bw w g.z g.cs σ.heap pv y:=by
 induction h with
 |val h=>exact vw H h e
 |list h k l=>exact aA e▸.list (H.ri _ _ h) k l
 |dict h k n l=>exact aA e▸.dict (H.ri _ _ h) k n l
theorem Be(H:Full w F s g x σ)(q:lk z s.vars=U sl):∃y o,lk z g.vl=U y/\dr w g.z g.cs g.ρ sl y o:=by
 exact H.vars.get q _ λy _ o _ e1 e2 _ _=>⟨y,o,e1,e2⟩
theorem gp(H:Full w F s g x σ)(hr:cg w g r y x')(e:s.peek r=U pv):bw w g.z g.cs σ.heap pv y:=by
 induction hr with
 |val h=>exact vw H h e
 |list h k l=>exact aA e▸.list (H.ri _ _ h) k l
 |dict h k n l=>exact aA e▸.dict (H.ri _ _ h) k n l
 |var hz=>exact(bN.mp e).elim λsl q=>(Be H q.1).elim λu h=>h.elim λo h=>aA (h.1.symm.trans hz)▸VJ H h.2 q.2
theorem adC(H:Full w F s g [] σ)(e:lk y s.vars=U sl):∃v,lk y g.vl=U v/\cg w g (zg y sl) v []:=
 (Be H e).elim λv h=>h.elim λo h=>⟨v,h.1,by
  cases h.2 with
  |val d=>exact .val d
  |list _ _ _=>exact .var h.1
  |dict _ _ _ _=>exact .var h.1⟩
theorem Full.hb(H:Full w F s g x σ):∀a o,F.hb.get? a=U o->σ.heap.get? a=U o:=H.toReg.w6
section
variable {G:bR}{y:af}{r:R}{Q:ae->aw->Prop}
def Ge(w:aE)(g:Gh)(y:af)(r:R)(Q:ae->Prop):Prop:=∀v,cg w g r v []->(∀z,r=.var z->z=y)->Q v
theorem EC(H:Full w F s g [] σ)(e:(lk y s.vars).map (zg y)=U r){Q:ae->Prop}(h:Ge w g y r Q):∃v,lk y g.vl=U v/\Q v:=
 (dw.mp e).elim λsl q=>(adC H q.1).elim λv k=>⟨v,k.1,h v (q.2▸k.2) λz ez=>by
  rw[<-q.2] at ez
  induction sl with
  |val v=>exact Ht ez
  |list _=>exact(R.var.inj ez).symm
  |dict _ _=>exact(R.var.inj ez).symm⟩
theorem UB{env:dh}{ρ:Z}{vl:List (af×ae)}{v:ae}(hk:env.scope.kind=.function)(hn:env.kindOf y=U .local)(L:∃o m,ρ env.locals=U o/\ug o m/\∀x v,lk x vl=U v->env.kindOf x=U .local->m x=U v)
  (hr:∀a o,ρ a=U o->σ.heap.get? a=U o) (e:lk y vl=U v) (h:Q v σ):ax (ar ao w) A (loadName env y) Q aC σ:=
 L.elim λo L=>L.elim λm L=>wpAny_loadName_local hk hn (kl.mpr ⟨o,hr _ _ L.1,L.2.1⟩) (L.2.2 y v e hn) h
theorem Li(hk:env.scope.kind=.function)(hn:env.kindOf y=U .cell)(L:oy g.ρ bh g.vl)(hf:bh.kindOf y=U .cell)(hl:env.cells.lookup y=bh.cells.lookup y)(hr:∀a o,g.ρ a=U o->σ.heap.get? a=U o)(e:lk y g.vl=U v)(h:Q v σ):ax (ar ao w) A (loadName env y) Q aC σ:=
 ((L.kinds y v e).elim (λz=>by rw[hf] at z;cases z) (·.2)).elim λc ec=>(L.cell (y,c) (mem_of_lookup ec)).elim λo k=>wpAny_loadName_cell hk hn (hl.trans ec) ⟨o,hr _ _ k.1,k.2.2 v ec e hf⟩ h
theorem K6(T:eG w K mg mb G)(C:cz w K mg mb cx F)(H:Full w F s g [] σ)(q:F.env.kindOf y=U .globalImplicit)(e:(G.glob y).map .val=U r)(h:Ge w g y r (Q · σ)):ax (ar ao w) A (loadName F.env y) Q aC σ:=
 (dw.mp e).elim λv k=>(T.glob y v k.1).elim λhf hu=>(hu F.hb C.base.k).elim λu hd=>by
  have hq:Q u σ:=h u (k.2▸.val ((hd.1.mono (λa o e=>H.zb a o (H.base a o e)) (bz _)).free hf)) λz ez=>Ht (k.2.trans ez)
  unfold loadName
  simp only[dh.blockKind,q,C.kind,ScopeKind.isAnnotationScope,JM,Jw,if_false]
  rcases hd.2 with hm|hm
  ·exact Calls.loadGlobal_global (by rw[C.glob];exact C.base.g.keeps H.hb) hm hq
  ·exact Calls.loadGlobal_builtin (by rw[C.glob];exact C.base.g.keeps H.hb) hm.1 (by rw[C.blt];exact C.base.b.keeps H.hb) hm.2 hq
theorem E5(C:cz w K mg mb cx F)(hc:F.comp=ah)(q:lk y cx.sc=U k):F.bh.kindOf y=U k:=by
 rw[(C.fn hc).2,qT] at q;exact q
theorem yo(T:eG w K mg mb G)(C:cz w K mg mb cx F)(H:Full w F s g [] σ)(e:dU G cx y s=U r)(h:∀v,cg w g r v []->(∀z,r=.var z->z=y)->Q v σ):ax (ar ao w) A (loadName F.env y) Q aC σ:=by
 have e:(lk y cx.sc).bind (QA G cx y s)=U r:=by
  unfold dU at e
  split at e
  ·cases e
  ·exact e
 refine(bN.mp e).elim λk q=>?_
 have h:Ge w g y r (Q · σ):=h
 have e2:=q.2
 cases hc:F.comp with
 |true=>
  have hx:cx.comp=true:=C.cmp.trans hc
  induction k with
  |«local»=>
   have e2:(lk y s.cv).map R.val=U r:=(if_pos hx).symm.trans e2
   refine(dw.mp e2).elim λv k=>(H.cv.get k.1).elim λu d=>(H.cmp hc).ns.elim λo L=>L.elim λm L=>?_
   exact wpAny_loadName_local C.kind (C.loc hc y q.1) (kl.mpr ⟨o,H.ri _ _ L.1,L.2.1⟩) (L.2.2 y u d.1) (h u (k.2▸.val d.2) λz ez=>Ht (k.2.trans ez))
  |free=>exact(EC H ((if_pos hx).symm.trans e2) h).elim λv k=>(C.zo hc y q.1).elim λa b=>Li C.kind a H.loc b.1 b.2 H.ri k.1 k.2
  |cell=>exact ay ((if_pos hx).symm.trans e2)
  |globalImplicit=>exact K6 T C H (C.r5 hc y q.1) e2 h
  |globalExplicit=>exact ay e2
 |false=>
  have hx:¬cx.comp=true:=λz=>by rw[C.cmp,hc] at z;cases z
  have hk:=E5 C hc q.1
  induction k with
  |«local»=>exact(EC H ((if_neg hx).symm.trans e2) h).elim λv k=>(C.fn hc).1▸UB C.pW hk H.loc.ns H.ri k.1 k.2
  |cell=>exact(EC H ((if_neg hx).symm.trans e2) h).elim λv k=>(C.fn hc).1▸Li C.pW hk H.loc hk rfl H.ri k.1 k.2
  |free=>exact ay ((if_neg hx).symm.trans e2)
  |globalImplicit=>exact K6 T C H ((C.fn hc).1▸hk) e2 h
  |globalExplicit=>exact ay e2
end
end
section
variable {w:aE}
structure dN(w:aE)(B:Fm)(m:List M)(z ρ:Z)(cs om:List ag)(σ:aw):Prop extends Reg B z ρ σ where
 tb:oB z ρ B.tab B.lp B.lq
 mem:dT w z cs ρ m cs om
 nd:(B.tab::om).Nodup
end
section
variable (w:aE)(K:aS)(mg mb:af->Option ae)
def OF(w:aE)(B:Fm)(z:Z)(cs:List ag)(v:V)(m':List M)(r:jq)(σ':aw):Prop:=∀C:Prop,(∀(y:ae) (e:r=.ok (.ret y)) (z' ρ':Z) (aV fo:List ag) (h1:Z.le z z') (h2:pre cs aV) (h3:dN w B m' z' ρ' aV fo σ') (h4:Den w z' aV v y),C)->C
end
end
section
theorem ei[Decidable c](h:(if c then a else aj)=U x):c/\a=U x:=by
 by_cases q:c
 ·rw[if_pos q] at h;exact⟨q,h⟩
 ·rw[if_neg q] at h;cases h
section
variable {w:aE}{K:aS}{mg mb:af->Option ae}{F:Fm}{s s':S}{g:Gh}{x:List ag}{σ:aw}{A:bj}{cx:Cx}{n:Nat}{ih:I}{G:bR}
theorem ib(H:Full w F s g [] σ)(h:Den w g.z g.cs v y):cO w F g s (.val v) y σ:=λQ_ k_=>k_ g [] g.le_refl H (.val h)
theorem Eg(H:Full w F s g [] σ)(k:aF w g.z g.cs xs vs)(hl:vs.length<=bQ)(hh:σ'.heap=σ.heap.push (bg vs.toArray 0))(hg:σ'.gens=σ.gens)(ho:σ'.os=σ.os):
  cO w F g s (.list xs) (.ref σ.heap.objs.size) σ':=by
 have b:=H.alloc (bg vs.toArray 0) rfl hg ho hh
 refine λQ_ k_=>k_ ({g with ρ:=g.ρ.put σ.heap.objs.size (bg vs.toArray 0)}) ([]++[σ.heap.objs.size]) ⟨Z.le_refl _,bz _,rfl,rfl,rfl⟩ b ?_
 exact cg.list (Z.dp _ _ _) k (by rw[k.length];exact hl)
theorem LA(H:Full w F s g [] σ)(k:aF w g.z g.cs xs vs)(hl:vs.length<=bQ)(hh:σ'.heap=σ.heap.push (i6 vs.toArray 0))(hg:σ'.gens=σ.gens)(ho:σ'.os=σ.os):
  cO w F g s (.val (.tup xs)) (.ref σ.heap.objs.size) σ':=by
 have b:=H.acZ (i6 vs.toArray 0) rfl hg ho hh
 have hle:Z.le g.z (g.z.put σ.heap.objs.size (i6 vs.toArray 0)):=Z.lH _ H.Fe
 refine λQ_ k_=>k_ ({g with z:=g.z.put σ.heap.objs.size (i6 vs.toArray 0)}) [] ⟨hle,bz _,rfl,rfl,rfl⟩ b (.val ?_)
 exact Den.tup (Z.dp _ _ _) (k.mono hle (bz _)) (by rw[k.length];exact hl)
theorem cO.le(h:cO w F g' s r y σ)(k:g.le g'):cO w F g s r y σ:=by
 exact h _ λg2 x' a b c Q_ k_=>k_ g2 x' (k.le_trans a) b c
theorem aW(h:ax (ar ao w) A t Q aC σ)(k:∀a σ',Q a σ'->Q' a σ'):ax (ar ao w) A t Q' aC σ:=
 jn h k λj j e=>e
theorem yr[Decidable c](h:c)(k:ax (ar ao w) A a Q E σ):ax (ar ao w) A (if c then a else b) Q E σ:=by rw[if_pos h];exact k
theorem fz[Decidable c](h:¬c)(k:ax (ar ao w) A b Q E σ):ax (ar ao w) A (if c then a else b) Q E σ:=by rw[if_neg h];exact k
def y5(w:aE)(A:bj)(R:jq->aw->Prop):AF->aw->Prop:=λfin s'=>match fin with
 |.done f=>R (.ok f) s'
 |.again c'=>c'.quiet=J/\ic (ar ao w) A c' R s'
theorem rf{id:String}{args:Args}{b:dD}{R:jq->aw->Prop}(hb:entryFor table id=U b)(hp:plainId id=J)(h:ax (ar ao w) A.in1 (b args) (y5 w A R) (λe s'=>R (.error e) s') σ):ic (ar ao w) A (.builtin id args) R σ:=
 codeAny_builtin hb (by rw[Ji hp];exact h)
theorem abQ(H:Full w F s g x σ)(hr:cg w g r v x):∃g',g.le g'/\Full w F s g' [] σ/\cg w g' r.fix v []:=by
 induction hr with
 |val h=>exact⟨g,g.le_refl,H,.val h⟩
 |var h=>exact⟨g,g.le_refl,H,.var h⟩
 |list h k l=>
  refine rp H (.list h k l) rfl _ λg' a b c=>?_
  exact⟨g',a,b,.val c⟩
 |dict h k n l=>
  refine rp H (.dict h k n l) rfl _ λg' a b c=>?_
  exact⟨g',a,b,.val c⟩
end
end
section
def Cj(n:Nat)(d:PyData):Prop:=d.canLay0=J/\d.depth<=n
theorem Py(hf:∀xs,f xs=J->JA (d8 xs)=J/\Dx (d8 xs)+1<=n)(v:V)(h:Ce f v=J):Cj n (pd v):=by
 cases v with
 |tup xs=>exact hf xs h
 |list xs=>exact hf xs h
 |str x=>exact⟨h,eO _⟩
 |none=>exact⟨rfl,eO _⟩
 |bool b=>exact⟨rfl,eO _⟩
 |int i=>exact⟨rfl,eO _⟩
 |_=>exact bo h
theorem PV(ih:∀v,fq n v=J->Cj n (pd v))(xs:List V):xs.all (fq n)=J->JA (d8 xs)=J/\Dx (d8 xs)+1<=n+1:=
 List.rec (motive:=λxs=>xs.all (fq n)=J->JA (d8 xs)=J/\Dx (d8 xs)+1<=n+1) (λj=>⟨rfl,gM (eO _)⟩)
  (λx j hi h=>⟨ak (ih x (bl h)).1 (hi (aU h)).1,gM (Nat.max_le.mpr ⟨(ih x (bl h)).2,qy (hi (aU h)).2⟩)⟩) xs
theorem s8(n:Nat):∀v,fq n v=J->Cj n (pd v):=
 Nat.rec (motive:=λn=>∀v,fq n v=J->Cj n (pd v)) (Py λj h=>bo h) (λj ih=>Py (PV ih)) n
section
variable {w:aE}{z:Z}{cs:List ag}{h:az}
theorem Cq.reads(hf:∀xs ys,aF w z cs xs ys->f xs=J->∃as,ReadsAll h ys (d8 xs) as)(k:Cq w z cs h v y)(e:Ce f v=J):∃as,Reads h y (pd v) as:=by
 cases v with
 |tup xs=>
  exact k _ λa vs n e0 e1 e2 e3=>e0▸(hf _ _ e2 e).elim λas r=>⟨_,.tuple e1 rfl rfl r⟩
 |list xs=>
  exact k _ λa vs n e0 e1 e2 e3=>e0▸(hf _ _ e2 e).elim λas r=>⟨_,.list e1 rfl rfl r⟩
 |str x=>exact(Den.inv k).elim λt q=>q▸⟨_,.str x t⟩
 |none=>exact(Den.inv k:y=.none)▸⟨_,.none⟩
 |bool b=>exact(Den.inv k:y=.bool b)▸⟨_,.bool b⟩
 |int i=>exact(Den.inv k).elim λt q=>q▸⟨_,.int i t⟩
 |_=>exact bo e
theorem FO(ih:∀v y,Den w z cs v y->fq n v=J->∃as,Reads h y (pd v) as)(xs:List V):∀ys,aF w z cs xs ys->xs.all (fq n)=J->∃as,ReadsAll h ys (d8 xs) as:=
 List.rec (motive:=λxs=>∀ys,aF w z cs xs ys->xs.all (fq n)=J->∃as,ReadsAll h ys (d8 xs) as) (λj d j=>iF d▸⟨_,.nil⟩)
  (λx r hi j d e=>gB (P:=λys=>∃as,ReadsAll h ys (d8 (x::r)) as) d λj j a b=>(ih _ _ a (bl e)).elim λj r1=>(hi _ b (aU e)).elim λj r2=>⟨_,.cons r1 r2⟩) xs
theorem Den.reads(hz:∀a o,z a=U o->h.get? a=U o)(n:Nat):∀v y,Den w z cs v y->fq n v=J->∃as,Reads h y (pd v) as:=
 Nat.rec (motive:=λn=>∀v y,Den w z cs v y->fq n v=J->∃as,Reads h y (pd v) as) (λj j d=>((bw.den d).inv hz).reads λj j j e=>bo e) (λj ih j j d=>((bw.den d).inv hz).reads λxs ys=>FO ih xs ys) n
theorem bw.reads(hz:∀a o,z a=U o->h.get? a=U o)(n:Nat)(d:bw w z cs h v y)(e:fq (n+1) v=J):∃as,Reads h y (pd v) as:=(d.inv hz).reads (FO (Den.reads hz n)) e
end
section
variable {w:aE}{K:aS}{mg mb:af->Option ae}{F:Fm}{s s':S}{g:Gh}{x:List ag}{σ:aw}{A:bj}{cx:Cx}{n:Nat}{ih:I}{G:bR}
theorem LU(hA:cJ (n+1) A){d:PyData}(h:fq 8 a=J):A.units+min (pd a).depth d.depth<cLine:=
 bq (gd (bf (Dz _ _) (bf (s8 8 a h).2 (by decide:8<=20))) _) hA.unit
theorem my(e:rT a b=U c):fq 8 a=J/\fq 8 b=J/\pw (pd a) (pd b)=c:=by
 unfold rT at e
 split at e
 ·rename_i q;exact⟨bl q,aU q,aA e⟩
 ·cases e
theorem acj(hA:cJ (n+1) A)(H:Full w F s g x σ)(ha:bw w g.z g.cs σ.heap a u)(hb:bw w g.z g.cs σ.heap b v)(e:rT a b=U c)
  (h:Q (.bool c) σ):ax (ar ao w) A (compareOp .Eq u v) Q aC σ:=
 (ha.reads H.zi 7 (my e).1).elim λj ra=>(hb.reads H.zi 7 (my e).2.1).elim λj rb=>SeqAt.compareEq_reads ra rb (s8 8 a (my e).1).1 (s8 8 b (my e).2.1).1 (LU hA (my e).1) ((my e).2.2.symm▸h)
theorem adI(hA:cJ (n+1) A)(H:Full w F s g x σ)(ha:bw w g.z g.cs σ.heap a u)(hb:bw w g.z g.cs σ.heap b v)(e:rT a b=U c)
  (h:Q (.bool (!c)) σ):ax (ar ao w) A (compareOp .NotEq u v) Q aC σ:=
 (ha.reads H.zi 7 (my e).1).elim λj ra=>(hb.reads H.zi 7 (my e).2.1).elim λj rb=>SeqAt.compareNe_reads ra rb (s8 8 a (my e).1).1 (s8 8 b (my e).2.1).1 (LU hA (my e).1) ((my e).2.2.symm▸h)
end
end
section
section
variable {w:aE}{z:Z}{cs:List ag}
theorem AB(h:aF w z cs vs []):vs=[]:=by cases h;rfl
theorem u7{P:List V->Prop}{y:ae}{q:List ae}(h:aF w z cs vs (y::q))(k:∀v r,Den w z cs v y->aF w z cs r q->P (v::r)):P vs:=by
 cases h with
 |cons a b=>exact k _ _ a b
inductive lK(w:aE)(z:Z)(cs:List ag){α:Type}(g:α->ae):Option V->Option α->Prop
 |hit {v:V} {x:α} (d:Den w z cs v (g x)):lK w z cs g (U v) (U x)
 |miss:lK w z cs g aj aj
theorem lK.map(h:lK w z cs (λx=>g (p x)) r o):lK w z cs g r (o.map p):=by
 induction h with
 |hit d=>exact .hit d
 |miss=>exact .miss
section
variable {Kt β:Type}[DecidableEq Kt]{f:β->Kt}{g:β->ae}{k:Kt}
theorem Yj(xs:List β):∀{vs:List V},aF w z cs vs (xs.map g)->lK w z cs g (((xs.map f).findIdx? λx=>aJ (x=k)).bind λi=>vs[i]?) (xs.find? λx=>aJ (f x=k)):=by
 induction xs with
 |nil=>intro vs h;exact .miss
 |cons x r ih=>
  intro vs h
  refine u7 (P:=λvs=>lK w z cs g ((((x::r).map f).findIdx? λx=>aJ (x=k)).bind λi=>vs[i]?) ((x::r).find? λx=>aJ (f x=k))) h λv q a b=>?_
  rw[ff,qD,JG]
  induction aJ (f x=k) with
  |true=>exact .hit a
  |false=>
   have:=ih b
   generalize ((r.map f).findIdx? λx=>aJ (x=k))=o at this
   induction o<;>exact this
theorem find_some(xs:List β):(((xs.map f).findIdx? λx=>aJ (x=k))).isSome=(xs.find? λx=>aJ (f x=k)).isSome:=by
 induction xs with
 |nil=>rfl
 |cons x r ih=>
  rw[ff,qD,JG]
  induction aJ (f x=k) with
  |true=>rfl
  |false=>rw[<-ih];exact Dm
theorem Nk{p:β->β}{u:ae}(hk:∀x,f x=k->g (p x)=u)(eD:∀x,f x≠k->p x=x)(d:Den w z cs v u)(xs:List β):∀{vs:List V} {i:Nat},(xs.map f).Nodup->aF w z cs vs (xs.map g)->((xs.map f).findIdx? λx=>aJ (x=k))=U i->aF w z cs (vs.set i v) ((xs.map p).map g):=by
 induction xs with
 |nil=>intro vs i _ _ e;exact ay e
 |cons x r ih=>
  intro vs i hn h e
  have hn:=eN.mp hn
  refine u7 (P:=λvs=>aF w z cs (vs.set i v) (((x::r).map p).map g)) h λv0 q a b=>?_
  rw[ff,qD] at e
  by_cases c:f x=k
  ·rw[decide_eq_true c] at e
   have hr:r.map p=r:=(zW λy hy=>eD y λq=>hn.1 (c.trans q.symm▸qC hy)).trans (List.map_id' r)
   rw[<-aA e,ff,ff,hr,hk x c]
   exact .cons d b
  ·rw[decide_eq_false c] at e
   refine(dw.mp e).elim λj ej=>?_
   rw[<-ej.2,ff,ff,eD x c]
   exact .cons a (ih hn.2 b ej.1)
end
structure Enc{Kt:Type}[DecidableEq Kt](enc:Kt->V):Prop where
 eq:∀a b,pw (pd (enc a)) (pd (enc b))=aJ (a=b)
section
variable {Kt:Type}[DecidableEq Kt]{enc:Kt->V}
theorem Enc.inj(E:Enc enc)(h:enc a=enc b):a=b:=by
 have:=E.eq a b
 rw[h,E.eq b b,decide_eq_true rfl] at this
 exact of_decide_eq_true this.symm
theorem Enc.at(E:Enc enc)(k:Kt)(nN:List Kt):dJ (enc k) (nN.map enc)=nN.findIdx? λx=>aJ (x=k):=by
 unfold dJ
 rw[List.findIdx?_map]
 exact congrArg (λp=>nN.findIdx? p) (funext λx=>E.eq x k)
theorem Enc.nodup(E:Enc enc){nN:List Kt}:(nN.map enc).Nodup↔nN.Nodup:=by
 induction nN with
 |nil=>exact⟨λj=>nU,λj=>nU⟩
 |cons k r ih=>
  rw[ff,eN,eN,ih]
  exact and_congr_left λj=>not_congr ⟨λh=>(i4.mp h).elim λy q=>E.inj q.2▸q.1,qC⟩
theorem Enc.put(E:Enc enc){k:Kt}{nN:List Kt}(hp:dput (enc k) v (nN.map enc) vs=U (cH,bM)):nj (enc k) v (nN.map enc) vs (nN.findIdx? λx=>aJ (x=k))=(cH,bM):=by
 rw[<-E.at];exact aA hp
end
structure tU{Kt:Type}[DecidableEq Kt](knd:PySem.KeyKind ao w Kt)(enc:Kt->V):Prop extends Enc enc where
 is:∀{z:Z} {cs:List ag} {k:Kt} {v:ae},Den w z cs (enc k) v->knd.is k v=J
 den:∀{z:Z} {cs:List ag} {k:Kt} {v:ae},knd.is k v=J->Den w z cs (enc k) v
 hash:∀k,yN w (enc k)=knd.hash k
theorem encInt:tU (w:=w) (iG ao w) V.int where
 eq:=λa b=>rfl
 is:=λd=>d.inv.elim λt e=>e▸beq_self_eq_true _
 den:=λh=>(ae.isInt_shape h).elim λt e=>e▸.int _ _
 hash:=λj=>rfl
theorem encStr:tU (w:=w) (PySem.strKind ao w) V.str where
 eq:=λa b=>rfl
 is:=λd=>d.inv.elim λt e=>e▸beq_self_eq_true _
 den:=λh=>(ae.isStrOf_shape h).elim λt e=>e▸.str _ _
 hash:=λj=>rfl
noncomputable def tupI(l:List Int):V:=.tup (l.map V.int)
theorem ER(a:List Int):∀b:List Int,xI (d8 (a.map V.int)) (d8 (b.map V.int))=aJ (a=b):=by
 induction a with
 |nil=>intro b;induction b<;>rfl
 |cons x a ih=>
  intro b
  induction b with
  |nil=>rfl
  |cons y b=>
   show(aJ (x=y)&&xI (d8 (a.map V.int)) (d8 (b.map V.int)))=_
   rw[ih,<-Bool.decide_and]
   exact decide_eq_decide.mpr List.cons_eq_cons.symm
theorem tu:Enc tupI:=⟨ER⟩
end
theorem abn(h:qq x=J):∃i,x=.int i:=by
 cases x with
 |int i=>exact⟨i,rfl⟩
 |_=>exact bo h
theorem all_map{α:Type}{enc:α->V}{p:V->Bool}(one:∀v,p v=J->∃i,v=enc i)(xs:List V)(h:xs.all p=J):∃l:List α,xs=l.map enc:=by
 induction xs with
 |nil=>exact⟨[],rfl⟩
 |cons x r ih=>exact(one x (bl h)).elim λi e=>(ih (aU h)).elim λl q=>⟨i::l,by rw[e,q];rfl⟩
def KdS(v:V):Nat->Prop
 |0=>True
 |1=>∃i,v=.int i
 |2=>∃i,v=.str i
 |3=>∃i,v=tupI i
 |_=>True
theorem Qm(v:V):KdS v (kd v):=by
 cases v with
 |int i=>exact⟨i,rfl⟩
 |str i=>exact⟨i,rfl⟩
 |tup xs=>
  show KdS _ (if xs.all qq then 3 else 0)
  cases c:xs.all qq with
  |true=>exact(all_map (λj=>abn) xs c).elim λl e=>⟨l,congrArg V.tup e⟩
  |false=>exact trivial
 |_=>exact trivial
inductive BY:V->List V->Prop
 |int (i:Int) (l:List Int):BY (.int i) (l.map V.int)
 |str (i:af) (l:List af):BY (.str i) (l.map V.str)
 |tup (i:List Int) (l:List (List Int)):BY (tupI i) (l.map tupI)
theorem ad2(v:V):kd v=0\/kd v=1\/kd v=2\/kd v=3:=by
 cases v with
 |int i=>exact .inr (.inl rfl)
 |str i=>exact .inr (.inr (.inl rfl))
 |tup xs=>
  show(if xs.all qq then 3 else 0)=0\/(if xs.all qq then 3 else 0)=1\/(if xs.all qq then 3 else 0)=2\/(if xs.all qq then 3 else 0)=3
  cases xs.all qq with
  |true=>exact .inr (.inr (.inr rfl))
  |false=>exact .inl rfl
 |_=>exact .inl rfl
theorem P6(h:dz k ks=J):BY k ks:=by
 have hk:=Qm k
 have h2:=aU h
 have one:∀{α:Type} {enc:α->V} {c:Nat},kd k=c->(∀v,KdS v c->∃i,v=enc i)->∃l:List α,ks=l.map enc:=λe q=>all_map (λv hv=>q v (e▸(beq_iff_eq.mp hv:kd v=kd k)▸Qm v)) ks h2
 rcases ad2 k with c|c|c|c
 ·exact absurd c (bne_iff_ne.mp (bl h))
 ·exact(one c λv h=>h).elim λl e=>e▸((c▸hk:KdS k 1)).elim λi q=>q▸.int i l
 ·exact(one c λv h=>h).elim λl e=>e▸((c▸hk:KdS k 2)).elim λi q=>q▸.str i l
 ·exact(one c λv h=>h).elim λl e=>e▸((c▸hk:KdS k 3)).elim λi q=>q▸.tup i l
end
section
section
variable {w:aE}{z:Z}{cs:List ag}{h:az}{a:ag}
def yK(w:aE)(z:Z)(cs:List ag)(dflt y:ae):Option V->Prop
 |some v=>Den w z cs v y
 |none=>y=dflt
def Gn(w:aE)(k:V)(ks:List V)(b:ag)(σ:aw)(u dflt:ae)(Q:ae->aw->Prop):Prop:=∀C:Prop,(∀(z:Z) (cs:List ag) (ys:List V) (hz:∀a o,z a=U o->σ.heap.get? a=U o) (hd:iK w σ.heap.get? z cs ks ys (.ref b)) (hk:Den w z cs k u) (h:∀y t,yK w z cs dflt y ((dJ k ks).bind λi=>ys[i]?)->Q y {σ with toks:=t}),C)->C
structure Fz(w:aE)(k:V)(ks:List V):Prop where
 isin:∀{A:bj} {σ:aw} {z:Z} {cs:List ag} {ys:List V} {u:ae} {p:ag} {neg:Bool} {Q:ae->aw->Prop},A.units+5<cLine->(∀a o,z a=U o->σ.heap.get? a=U o)->iK w σ.heap.get? z cs ks ys (.ref p)->Den w z cs k u->
  (∀t,Q (.bool (if neg then !(dJ k ks).isSome else(dJ k ks).isSome)) {σ with toks:=t})->ax (ar ao w) A (compareOp (if neg then .NotIn else .In) u (.ref p)) Q aC σ
 item:∀{A:bj} {σ:aw} {z:Z} {cs:List ag} {ys:List V} {u:ae} {p:ag} {v:V} {Q:ae->aw->Prop},A.units+5<cLine->(∀a o,z a=U o->σ.heap.get? a=U o)->iK w σ.heap.get? z cs ks ys (.ref p)->Den w z cs k u->
  ((dJ k ks).bind λi=>ys[i]?)=U v->(∀y t,Den w z cs v y->Q y {σ with toks:=t})->ax (ar ao w) A (mq (.ref p) u) Q aC σ
 get1:∀{A:bj} {σ:aw} {b:ag} {pos:aY} {e:Sem ae} {Q:ae->aw->Prop},A.units+5<cLine->(b==kf)=ah->ax (ar ao w) A e (λu aG=>Gn w k ks b aG u .none Q) aC σ->
  ax (ar ao w) A (sS pos (.builtin "dict.get") [.ref b] [(ah,e)] []) Q aC σ
 get2:∀{A:bj} {σ:aw} {b:ag} {pos:aY} {e e2:Sem ae} {Q:ae->aw->Prop},A.units+5<cLine->(b==kf)=ah->ax (ar ao w) A e (λu IL=>ax (ar ao w) A e2 (λu2 aG=>Gn w k ks b aG u u2 Q) aC IL) aC σ->
  ax (ar ao w) A (sS pos (.builtin "dict.get") [.ref b] [(ah,e),(ah,e2)] []) Q aC σ
 put:∀{A:bj} {σ:aw} {it:Bool} {z:Z} {cs:List ag} {d:ag} {vs cH bM:List V} {v:V} {ku vu:ae} {Q:Unit->aw->Prop},A.units+5<cLine->(∀a o,z a=U o->σ.heap.get? a=U o)->iK w σ.heap.get? z cs ks vs (.ref d)->dput k v ks vs=U (cH,bM)->
  Den w z cs k ku->Den w z cs v vu->(∀h' t eL m',(∀b o,b≠d->σ.heap.get? b=U o->h'.get? b=U o)->h'.get? d=U (cB eL m')->cn w z cs cH bM eL.toList->cH.Nodup->Q () {σ with heap:=h',toks:=t})->
  ax (ar ao w) A (if it then setItem (.ref d) ku vu else dictSet d ku vu) Q aC σ
theorem Bi{α:Type}{g:α->ae}{r:Option V}{o:Option α}{y dflt:ae}(h:lK w z cs g r o)(e:y=(o.map g).getD dflt):yK w z cs dflt y r:=by
 induction h with
 |hit d=>exact e▸d
 |miss=>exact e
section
variable {Kt:Type}[DecidableEq Kt]{knd:PySem.KeyKind ao w Kt}{enc:Kt->V}
theorem Yl(E:tU knd enc)(l:List Kt):∀{vs:List V} {es:List cm} {P:Prop},cn w z cs (l.map enc) vs es->(∀kvs,Pairs knd es kvs->kvs.map (·.1)=l->aF w z cs vs (kvs.map (·.2))->(∀e∈es,∃k,knd.is k e.key=J/\e.hash=knd.hash k)->P)->P:=by
 induction l with
 |nil=>intro vs es P h k;rw[(n2 h).1,(n2 h).2] at*;exact k [] .nil rfl .nil λj q=>(dq q)
 |cons x r ih=>
  intro vs es P h
  refine sQ (P:=λvs es=>(∀kvs,Pairs knd es kvs->kvs.map (·.1)=x::r->aF w z cs vs (kvs.map (·.2))->(∀e∈es,∃k,knd.is k e.key=J/\e.hash=knd.hash k)->P)->P) h λu us e q a b c d k=>ih d λkvs h1 h2 h3 h4=>?_
  exact k ((x,e.val)::kvs) (.cons (E.is a) rfl h1) (congrArg (x::·) h2) (.cons b h3) λe' he=>(cf.mp he).elim (λq=>q▸⟨x,E.is a,c.trans (E.hash x)⟩) (h4 e')
theorem X2(E:tU knd enc){es:List cm}{kvs:List (Kt×ae)}(h:Pairs knd es kvs):∀{vs:List V},(∀e∈es,∃k,knd.is k e.key=J/\e.hash=knd.hash k)->aF w z cs vs (kvs.map (·.2))->cn w z cs ((kvs.map (·.1)).map enc) vs es:=by
 induction h with
 |nil=>intro vs _ h;rw[AB h];exact .nil
 |@cons e kv es kvs h1 h2 t ih=>
  intro vs hk h
  refine u7 (P:=λvs=>cn w z cs (((kv::kvs).map (·.1)).map enc) vs (e::es)) h λv r a b=>?_
  exact .cons (E.den h1) (h2.symm▸a) ((hk e (.head _)).elim λk q=>by rw[q.2,E.hash,knd.inj _ _ _ q.1 h1]) (ih (λe he=>hk e (.tail _ he)) b)
theorem vb(E:tU knd enc){l:List Kt}{ys:List V}{P:Prop}(D:iK w h.get? z cs (l.map enc) ys (.ref a))(k:∀kvs,h.DictOf knd a kvs->kvs.map (·.1)=l->aF w z cs ys (kvs.map (·.2))->P):P:=by
 refine D _ λa' es n e0 e1 e2 e3 e4 e5=>?_
 cases e0
 exact Yl E l e2 λkvs h1 h2 h3 h4=>k kvs ⟨_,es,n,e1,⟨rfl,rfl,rfl⟩,rfl,λe he=>h4 e (Sz.mpr he),h1,h2▸E.nodup.mp e3⟩ h2 h3
theorem iK.sys{ks ys:List V}(D:iK w h.get? z cs ks ys (.ref a)):(a==kf)=ah/\ks.length<=sizeLine:=by
 refine D _ λa' es n e0 e1 e2 e3 e4 e5=>?_
 cases e0;exact⟨e4,e5⟩
theorem J9{o:aP}{es:Array cm}{ep:Nat}(c:o.ExactDict)(hd:o.data=.dict es ep):o=cB es ep:=by
 obtain⟨oc,od,odt,osl⟩:=o
 obtain⟨c1,c2,c3⟩:=c
 cases c1;cases c2;cases c3;cases hd
 rfl
theorem WS{α:Type}(p:α->Bool)(l:List α):l.any p=(l.find? p).isSome:=by
 induction l with
 |nil=>rfl
 |cons x r ih=>
  rw[JN,JG,ih]
  induction p x<;>rfl
theorem AJ{α:Type}{f:α->Kt}{l:List Kt}{xs:List α}(h:xs.map f=l)(hl:(l.map enc).length<=bQ):xs.length<=sizeLine:=by rw[<-h,aO,aO] at hl;exact hl
theorem lK.found{α:Type}{g:α->ae}{r:Option V}{o:Option α}{v:V}(h:lK w z cs g r o)(e:r=U v):∃x,o=U x/\Den w z cs v (g x):=by
 induction h with
 |hit d=>exact⟨_,rfl,aA e▸d⟩
 |miss=>exact ay e
section
variable {i:Kt}{l:List Kt}{kvs:List (Kt×ae)}{vs bM cH:List V}{v:V}{vu:ae}
theorem NM(E:Enc enc){α:Type}{kvs:List (Kt×α)}(e1:kvs.map (·.1)=l):(dJ (enc i) (l.map enc)).isSome=((kvs.find? λx=>aJ (x.1=i)).map (·.2)).isSome:=by rw[<-e1,E.at,find_some];exact Dm.symm
theorem vP(E:Enc enc){α:Type}{g:α->ae}{kvs:List (Kt×α)}(e1:kvs.map (·.1)=l)(e2:aF w z cs vs (kvs.map λx=>g x.2)):lK w z cs (λx=>g x.2) ((dJ (enc i) (l.map enc)).bind λi=>vs[i]?) (kvs.find? λx=>aJ (x.1=i)):=by
 rw[<-e1,E.at];exact Yj kvs e2
theorem M8{α:Type}:¬(aj:Option α).isSome=true:=xp
theorem afe(E:Enc enc)(e1:kvs.map (·.1)=l)(hn0:(kvs.map (·.1)).Nodup)(e2:aF w z cs vs (kvs.map (·.2)))(hp:dput (enc i) v (l.map enc) vs=U (cH,bM))(hv:Den w z cs v vu):cH=((stored kvs i vu).map (·.1)).map enc/\aF w z cs bM ((stored kvs i vu).map (·.2)):=by
 rw[<-e1] at hp
 have hp:=E.put hp
 have ha:(kvs.any λkv=>aJ (kv.1=i))=(((kvs.map (·.1)).findIdx? λx=>aJ (x=i))).isSome:=(WS _ kvs).trans (find_some kvs).symm
 unfold stored
 rw[ha]
 generalize q:((kvs.map (·.1)).findIdx? λx=>aJ (x=i))=r at hp
 induction r with
 |none=>
  rw[if_neg M8,bZ,bZ,bZ]
  exact(mZ hp).1▸(mZ hp).2▸⟨rfl,e2.append (.cons hv .nil)⟩
 |some j=>
  rw[if_pos (show(U j).isSome=J from rfl),keys_map_store]
  exact(mZ hp).1▸(mZ hp).2▸⟨rfl,Nk (f:=λx=>x.1) (u:=vu) (λx c=>congrArg Prod.snd (if_pos c)) (λx c=>if_neg c) hv kvs hn0 e2 q⟩
theorem Tr(hd:h.DictOf knd a kvs):(kvs.map (·.1)).Nodup:=hd.elim λj q=>q.elim λj q=>q.elim λj q=>q.2.2.2.2.2
theorem afM(E:tU knd enc)(hd:h.DictOf knd a kvs)(e1:cH=(kvs.map (·.1)).map enc)(e2:aF w z cs bM (kvs.map (·.2))):∃es ep,h.get? a=U (cB es ep)/\cn w z cs cH bM es.toList/\cH.Nodup:=
 hd.elim λo q=>q.elim λes q=>q.elim λep q=>⟨es,ep,J9 q.2.1 q.2.2.1▸q.1,e1▸X2 E q.2.2.2.2.1 (λe he=>q.2.2.2.1 e (Sz.mp he)) e2,e1▸E.nodup.mpr q.2.2.2.2.2⟩
end
theorem J1(E:tU knd enc)(i:Kt)(l:List Kt):Fz w (enc i) (l.map enc) where
 isin:=λ{A σ z cs ys u p neg Q} hA hz D hk h=>vb E D λkvs hd e1 e2=>by
  rw[NM E.toEnc e1] at h
  induction neg with
  |true=>exact wpAny_notIn_of (E.is hk) D.sys.1 hd.mapOf (h _)
  |false=>exact wpAny_in_of (E.is hk) D.sys.1 hd.mapOf (h _)
 item:=λ{A σ z cs ys u p v Q} hA hz D hk e h=>vb E D λkvs hd e1 e2=>((vP (g:=λx=>x) E.toEnc e1 e2).found e).elim λx q=>wpAny_getItem_of (E.is hk) hd.mapOf (congrArg (Ax λx:Kt×ae=>x.2) q.1) (h _ _ q.2)
 get1:=λ{A σ b pos e Q} hA hs he=>wpAny_dict_get1 hs (aW he λu aG h1=>by
  exact h1 _ λz cs ys hz D hk h=>vb E D λkvs hd e1 e2=>⟨i,_,E.is hk,hd.mapOf,h _ _ (Bi (vP (g:=λx=>x) E.toEnc e1 e2) rfl)⟩)
 get2:=λ{A σ b pos e e2 Q} hA hs he=>wpAny_dict_get2 hs (aW he λu IL h0=>aW h0 λu2 aG h1=>by
  exact h1 _ λz cs ys hz D hk h=>vb E D λkvs hd e1 e2=>⟨i,_,E.is hk,hd.mapOf,h _ _ (Bi (vP (g:=λx=>x) E.toEnc e1 e2) rfl)⟩)
 put:=λ{A σ it z cs d vs cH bM v ku vu Q} hA hz D hp hk hv h=>vb E D λkvs hd e1 e2=>(afe E.toEnc e1 (Tr hd) e2 hp hv).elim λp1 p2=>by
  have fin:∀h',h'.DictOf knd d (stored kvs i vu)->mf d σ.heap h'->Q () {σ with heap:=h',toks:=σ.toks+1}:=λh' mN iA=>
   (afM E mN p1 p2).elim λes q=>q.elim λep q=>h h' _ es ep (λb o hb q=>iA.extBut b o hb q) q.1 q.2.1 q.2.2
  induction it with
  |true=>exact wpAny_setItem_pairs (E.is hk) hd fin (AJ e1 D.sys.2)
  |false=>exact wpAny_dictSet_pairs (E.is hk) hd fin (AJ e1 D.sys.2)
end
noncomputable abbrev tk(w:aE):HeapKind ao w (List Int):=tupleKind (iG ao w)
noncomputable abbrev TX:=List Int×ag×ae
theorem UQ(l:List Int):∀{vs:List ae},aF w z cs (l.map V.int) vs->ItemsAre (iG ao w) l vs:=by
 induction l with
 |nil=>intro vs h;rw[iF h];exact .nil
 |cons i r ih=>exact λh=>gB h λj j a b=>.cons (encInt.is a) (ih b)
theorem vj(hz:∀a o,z a=U o->h.get? a=U o){l:List Int}{v:ae}(d:Den w z cs (tupI l) v):∃b,v=.ref b/\(tk w).is h l b:=by
 exact(d.inv:TupAt w z z cs (l.map V.int) v) _ λa vs n e0 e1 e2 e3=>⟨a,e0,_,_,_,hz _ _ e1,rfl,rfl,UQ l e2⟩
theorem Tn(l:List Int):((l.map V.int).map λx=>match x with|.int i=>i|_=>0)=l:=by
 rw[nW];exact List.map_id' l
theorem KA(l:List Int):yN w (tupI l)=(tk w).hash l:=by
 show tupleKeyHash (iG ao w) ((l.map V.int).map λx=>match x with|.int i=>i|_=>0)=_
 rw[Tn]
 rfl
theorem Z4(hz:∀a o,z a=U o->h.get? a=U o)(l:List (List Int)):∀{vs:List V} {es:List cm} {P:Prop},cn w z cs (l.map tupI) vs es->
  (∀xs:List TX,es=xs.map (entryOfKey (tk w))->xs.map (·.1)=l->aF w z cs vs (xs.map (·.2.2))->(∀x∈xs,(tk w).is h x.1 x.2.1/\Den w z cs (tupI x.1) (.ref x.2.1))->P)->P:=by
 induction l with
 |nil=>intro vs es P h k;rw[(n2 h).1,(n2 h).2] at*;exact k [] rfl rfl .nil λj q=>(dq q)
 |cons x r ih=>
  intro vs es P h
  refine sQ (P:=λvs es=>(∀xs:List TX,es=xs.map (entryOfKey (tk w))->xs.map (·.1)=x::r->aF w z cs vs (xs.map (·.2.2))->(∀x∈xs,(tk w).is _ x.1 x.2.1/\Den w z cs (tupI x.1) (.ref x.2.1))->P)->P) h λu us e q a b c d k=>ih d λxs h1 h2 h3 h4=>?_
  refine(vj hz a).elim λb' hb=>k ((x,b',e.val)::xs) ?_ (congrArg (x::·) h2) (.cons b h3) λy hy=>(cf.mp hy).elim (λq=>q▸⟨hb.2,hb.1▸a⟩) (h4 y)
  rw[ff,<-h1]
  refine congrArg (·::q) ?_
  obtain⟨eh,ek,ev⟩:=e
  exact(congr (congrArg cm.mk (c.trans (KA x))) hb.1▸rfl)
theorem ZX(xs:List TX):∀{vs:List V},aF w z cs vs (xs.map (·.2.2))->(∀x∈xs,Den w z cs (tupI x.1) (.ref x.2.1))->cn w z cs ((xs.map (·.1)).map tupI) vs (xs.map (entryOfKey (tk w))):=by
 induction xs with
 |nil=>intro vs h _;rw[AB h];exact .nil
 |cons x r ih=>
  intro vs h hk
  refine u7 (P:=λvs=>cn w z cs (((x::r).map (·.1)).map tupI) vs ((x::r).map (entryOfKey (tk w)))) h λv q a b=>?_
  have hh:(entryOfKey (tk w) x).hash=yN w (tupI x.1):=(KA x.1).symm
  exact cn.cons (hk x (.head _)) a hh (ih b λy hy=>hk y (.tail _ hy))
theorem yd(hz:∀a o,z a=U o->h.get? a=U o){l:List (List Int)}{ys:List V}{P:Prop}(D:iK w h.get? z cs (l.map tupI) ys (.ref a))
  (k:∀xs:List TX,h.DictOfH (tk w) a xs->xs.map (·.1)=l->aF w z cs ys (xs.map (·.2.2))->(∀x∈xs,Den w z cs (tupI x.1) (.ref x.2.1))->(xs.map (·.1)).Nodup->P):P:=by
 refine D _ λa' es n e0 e1 e2 e3 e4 e5=>?_
 cases e0
 refine Z4 hz l e2 λxs h1 h2 h3 h4=>?_
 have hn:(xs.map (·.1)).Nodup:=by rw[h2];exact tu.nodup.mp e3
 exact k xs ⟨_,es,n,e1,⟨rfl,rfl,rfl⟩,rfl,h1,λx hx=>(h4 x hx).1,hn⟩ h2 h3 (λx hx=>(h4 x hx).2) hn
theorem Lk(k:List Int)(u:ae)(x:TX):(putAt k u x).1=x.1/\(putAt k u x).2.1=x.2.1:=by
 unfold putAt
 split<;>exact⟨rfl,rfl⟩
section
variable {i:List Int}{l:List (List Int)}{xs:List TX}{b:ag}{vs bM cH:List V}{v:V}{vu:ae}
theorem afv(e1:xs.map (·.1)=l)(e4:(xs.map (·.1)).Nodup)(e2:aF w z cs vs (xs.map (·.2.2)))(e3:∀x∈xs,Den w z cs (tupI x.1) (.ref x.2.1))(hp:dput (tupI i) v (l.map tupI) vs=U (cH,bM))(hk:Den w z cs (tupI i) (.ref b))(hv:Den w z cs v vu):
  cH=((storedH xs i b vu).map (·.1)).map tupI/\aF w z cs bM ((storedH xs i b vu).map (·.2.2))/\∀x∈storedH xs i b vu,Den w z cs (tupI x.1) (.ref x.2.1):=by
 rw[<-e1] at hp
 have hp:=tu.put hp
 have ha:(atKey xs i).isSome=(((xs.map (·.1)).findIdx? λx=>aJ (x=i))).isSome:=Dm.trans (find_some xs).symm
 unfold storedH
 rw[ha]
 generalize q:((xs.map (·.1)).findIdx? λx=>aJ (x=i))=r at hp
 induction r with
 |none=>
  rw[if_neg M8,bZ,bZ,bZ]
  exact(mZ hp).1▸(mZ hp).2▸⟨rfl,e2.append (.cons hv .nil),λx hx=>(gx.mp hx).elim (e3 x) λhx=>cK.mp hx▸hk⟩
 |some j=>
  rw[if_pos (show(U j).isSome=J from rfl),keys_map_putAt]
  exact(mZ hp).1▸(mZ hp).2▸⟨rfl,Nk (λx c=>by unfold putAt;rw[if_pos c]) (λx c=>by unfold putAt;exact if_neg c) hv xs e4 e2 q,
   λx hx=>(i4.mp hx).elim λy hy=>by rw[<-hy.2,(Lk i vu y).1,(Lk i vu y).2];exact e3 y hy.1⟩
theorem aeJ(hd:h.DictOfH (tk w) a xs)(e1:cH=(xs.map (·.1)).map tupI)(e2:aF w z cs bM (xs.map (·.2.2)))(e3:∀x∈xs,Den w z cs (tupI x.1) (.ref x.2.1)):∃es ep,h.get? a=U (cB es ep)/\cn w z cs cH bM es.toList/\cH.Nodup:=
 hd.elim λo q=>q.elim λes q=>q.elim λep q=>⟨es,ep,J9 q.2.1 q.2.2.1▸q.1,e1▸q.2.2.2.1▸ZX _ e2 e3,e1▸tu.nodup.mpr q.2.2.2.2.2⟩
end
theorem vr{A:bj}(hA:A.units+5<cLine):(tk w).room A.in1:=bq (gd (by decide:1<=5) _) hA
theorem VH(i:List Int)(l:List (List Int)):Fz w (tupI i) (l.map tupI) where
 isin:=λ{A σ z cs ys u p neg Q} hA hz D hk h=>yd hz D λxs hd e1 e2 e3 e4=>(vj hz hk).elim λb hb=>by
  rw[NM tu e1] at h
  rw[hb.1]
  induction neg with
  |true=>exact wpAny_notIn_heap (vr hA) hb.2 D.sys.1 hd (h _)
  |false=>exact wpAny_in_heap (vr hA) hb.2 D.sys.1 hd (h _)
 item:=λ{A σ z cs ys u p v Q} hA hz D hk e h=>yd hz D λxs hd e1 e2 e3 e4=>(vj hz hk).elim λb hb=>((vP tu e1 e2).found e).elim λx q=>
  hb.1▸wpAny_getItem_heap (vr hA) hb.2 hd (congrArg (Ax λx:TX=>x.2) q.1) (h _ _ q.2)
 get1:=λ{A σ b pos e Q} hA hs he=>wpAny_dict_get1_heap (vr hA) hs (aW he λu aG h1=>by
  refine h1 _ λz cs ys hz D hk h=>?_
  exact yd hz D λxs hd e1 e2 e3 e4=>(vj hz hk).elim λb' hb=>⟨b',i,_,hb.1,hb.2,hd,h _ _ (Bi (lK.map (vP tu e1 e2)) rfl)⟩)
 get2:=λ{A σ b pos e e2 Q} hA hs he=>wpAny_dict_get2_heap (vr hA) hs (aW he λu IL h0=>aW h0 λu2 aG h1=>by
  refine h1 _ λz cs ys hz D hk h=>?_
  exact yd hz D λxs hd e1 e2 e3 e4=>(vj hz hk).elim λb' hb=>⟨b',i,_,hb.1,hb.2,hd,h _ _ (Bi (lK.map (vP tu e1 e2)) rfl)⟩)
 put:=λ{A σ it z cs d vs cH bM v ku vu Q} hA hz D hp hk hv h=>yd hz D λxs hd e1 e2 e3 e4=>(vj hz hk).elim λb hb=>(afv e1 e4 e2 e3 hp (hb.1▸hk) hv).elim λp1 p2=>by
  have fin:∀h',h'.DictOfH (tk w) d (storedH xs i b vu)->mf d σ.heap h'->Q () {σ with heap:=h',toks:=σ.toks+(tk w).draws i}:=λh' mN iA=>
   (aeJ mN p1 p2.1 p2.2).elim λes q=>q.elim λep q=>h h' _ es ep (λb o hb q=>iA.extBut b o hb q) q.1 q.2.1 q.2.2
  rw[hb.1]
  induction it with
  |true=>exact wpAny_setItem_heap (vr hA) hb.2 hd fin (AJ e1 D.sys.2)
  |false=>exact wpAny_dictSet_heap (bq (fe _ _) hA) hb.2 hd fin (AJ e1 D.sys.2)
theorem tC{k:V}{ks:List V}(h:dz k ks=J):Fz w k ks:=by
 induction P6 h with
 |int i l=>exact J1 encInt i l
 |str i l=>exact J1 encStr i l
 |tup i l=>exact VH i l
theorem EF{k v:V}{ks vs cH bM:List V}(hp:dput k v ks vs=U (cH,bM)):cH.length<=ks.length+1:=by
 have hp:=(mZ (aA hp)).1
 unfold nj at hp
 rw[<-hp]
 induction dJ k ks with
 |none=>rw[aX];exact aQ _
 |some i=>exact dm _
end
end
section
section
variable {w:aE}{K:aS}{mg mb:af->Option ae}{F:Fm}{s s':S}{g:Gh}{x:List ag}{σ:aw}{A:bj}{cx:Cx}{n:Nat}{G:bR}
theorem nZ{v:V}{x:Int}:V.fH v=U x->v=V.int x:=
 V.casesOn (motive_1:=λv=>V.fH v=U x->v=V.int x) v ay (λj=>ay) (λa=>λh=>aA h▸rfl) (λj=>ay) (λj=>ay) (λj=>ay) (λj=>ay) (λj=>ay) (λj=>ay) (λj j=>ay) (λj j j=>ay) (λj=>ay)
theorem px{v:V}{x:List V}:V.lJ v=U x->v=V.list x:=
 V.casesOn (motive_1:=λv=>V.lJ v=U x->v=V.list x) v ay (λj=>ay) (λj=>ay) (λj=>ay) (λj=>ay) (λj=>ay) (λj=>ay) (λj=>ay) (λa=>λh=>aA h▸rfl) (λj j=>ay) (λj j j=>ay) (λj=>ay)
theorem Yc:(d8 xs).any (λy=>y.eqv (pd v))=xs.any λx=>pw (pd x) (pd v):=
 List.rec (motive:=λxs=>(d8 xs).any (λy=>y.eqv (pd v))=xs.any λx=>pw (pd x) (pd v)) rfl (λx r ih=>congrArg (pw (pd x) (pd v)||·) ih) xs
theorem aF.size{cs:List ag}{vs:Array ae}(k:aF w z cs xs vs.toList):xs.length=vs.size:=k.length.trans fO
theorem gm{h:az}{a:ag}{vs:Array ae}(e:h.get? a=U (bg vs n)):h.IsList a vs:=⟨_,e,rfl,n,rfl⟩
theorem pq(e:h.get? a=U (i6 vs n)):IsTup h a vs:=⟨_,e,rfl,n,rfl⟩
theorem cJ.rF(h:cJ (n+1) A):A.units+5<cLine:=bq (gd (by decide:5<=20) _) h.unit
theorem Mu{neg:Bool}(hA:cJ (n+1) A)(H:Full w F s g x σ){a:V}{xs:List V}{u:ae}{p:ag}{vs:Array ae}{m:Nat}{c:Bool}(ha:bw w g.z g.cs σ.heap a u)
  (hb:σ.heap.get? p=U (bg vs m)\/σ.heap.get? p=U (i6 vs m)) (hk:aF w g.z g.cs xs vs.toList) (e:isIn a xs=U c) {Q:ae->aw->Prop}
  (h:Q (.bool (if neg then !c else c)) σ):ax (ar ao w) A (compareOp (if neg then .NotIn else .In) u (.ref p)) Q aC σ:=by
 unfold isIn at e
 obtain⟨q,e⟩:=ei e
 have e:(d8 xs).any (λy=>y.eqv (pd a))=c:=Yc.trans (aA e)
 refine(ha.reads H.zi 7 (bl q)).elim λbs rb=>(FO (Den.reads H.zi 8) xs _ hk (aU q)).elim λas ra=>?_
 have la:=s8 8 a (bl q)
 have lb:=PV (s8 8) xs (aU q)
 have hu:A.units+1+min (Dx (d8 xs)) (pd a).depth<cLine:=
  bq (eA (j9 ..)) (bq (gd (bf (gd (bf (sE _ _) la.2) 1) (by decide:1+8<=20)) _) hA.unit)
 rcases hb with hb|hb
 ·have R:Reads σ.heap (.ref p) (.list (d8 xs)) _:=.list hb rfl rfl ra
  induction neg with
  |true=>exact SeqAt.notIn_list_reads R rb lb.1 la.1 hu (e.symm▸h)
  |false=>exact SeqAt.in_list_reads R rb lb.1 la.1 hu (e.symm▸h)
 ·have R:Reads σ.heap (.ref p) (.tuple (d8 xs)) _:=.tuple hb rfl rfl ra
  induction neg with
  |true=>exact SeqAt.notIn_tuple_reads R rb lb.1 la.1 hu (e.symm▸h)
  |false=>exact SeqAt.in_tuple_reads R rb lb.1 la.1 hu (e.symm▸h)
theorem YH(e:isKey k ks=U c):dz k ks=J/\(dJ k ks).isSome=c:=by
 unfold isKey at e
 obtain⟨q,e⟩:=ei e
 exact⟨q,aA e⟩
theorem MC(hko:dz k ks=J)(d:bw w z cs h k u):Den w z cs k u:=d.wj (by induction P6 hko<;>rfl)
theorem OD{neg:Bool}(hA:cJ (n+1) A)(H:Full w F s g x σ){a b:V}{u v:ae}{c:Bool}(ha:bw w g.z g.cs σ.heap a u)(hb:bw w g.z g.cs σ.heap b v)(e:H8 a b=U c){Q:ae->aw->Prop}
  (h:∀t,Q (.bool (if neg then !c else c)) {σ with toks:=t}):ax (ar ao w) A (compareOp (if neg then .NotIn else .In) u v) Q aC σ:=by
 cases b with
 |list xs=>
  exact hb.isList H.zi _ λp vs m e0 e1 e2 e3=>e0▸Mu hA H ha (.inl e1) e2 e (h σ.toks)
 |tup xs=>
  exact hb.isTup H.zi _ λp vs m e0 e1 e2 e3=>e0▸Mu hA H ha (.inr e1) e2 e (h σ.toks)
 |dict ks vs=>
  have D:=hb.tm H.zi
  have q:=YH e
  refine D _ λp es m e0 e1 e2 e3 e4 e5=>?_
  subst e0
  exact(tC q.1).isin hA.rF H.zi (λQ_ k_=>k_ p es m rfl e1 e2 e3 e4 e5) (MC q.1 ha) (q.2.symm▸h)
 |_=>exact ay e
theorem Ed(h:kK o=U c):o=U (!c):=by
 induction o with
 |none=>cases h
 |some d=>rw[<-aA h,An]
theorem Vs(ha:bw w z cs h a u):isNone a=U c->DG u .none=J/\(u==.none)=c:=
 bw.casesOn (motive:=λv y j=>isNone v=U c->DG y .none=J/\(y==.none)=c) ha
  (λd=>Den.casesOn (motive_1:=λv y j=>isNone v=U c->DG y .none=J/\(y==.none)=c) d (λe=>⟨rfl,aA e⟩) (λj e=>⟨rfl,aA e⟩) (λj j e=>⟨rfl,aA e⟩) (λj j e=>⟨rfl,aA e⟩)
   (λj e=>⟨rfl,aA e⟩) (λj e=>ay e) (λj e=>⟨rfl,aA e⟩) (λj j j e=>⟨rfl,aA e⟩) (λj j j e=>⟨rfl,aA e⟩) (λj j j j e=>⟨rfl,aA e⟩) (λj j j j e=>⟨rfl,aA e⟩) (λj e=>⟨rfl,aA e⟩))
  (λj j j e=>⟨rfl,aA e⟩) (λj j j j e=>⟨rfl,aA e⟩) (λj j j j e=>⟨rfl,aA e⟩)
theorem NO(e:CC a b=U c):b=.none/\isNone a=U c:=by
 cases b with
 |none=>exact⟨rfl,e⟩
 |_=>exact ay e
theorem N4(ha:bw w z cs h a u)(hb:bw w z cs h b v)(e:CC a b=U c):v=.none/\DG u .none=J/\(u==.none)=c:=
 ⟨((NO e).1▸hb).none,Vs ha (NO e).2⟩
theorem ni{z:Z}{cs:List ag}{h:az}{α:Type}{f:Int->Int->Option α}{a b:V}{u v:ae}{r:α}{P:Prop}(ha:bw w z cs h a u)(hb:bw w z cs h b v)(e:(a.fH.bind λi=>b.fH.bind λj=>f i j)=U r)
  (k:∀i j t t',u=.int i t->v=.int j t'->f i j=U r->P):P:=
 (bN.mp e).elim λi p=>(bN.mp p.2).elim λj q=>(nZ p.1▸ha).int.elim λt h1=>(nZ q.1▸hb).int.elim λt' h2=>k i j t t' h1 h2 q.2
theorem qb{Q:ae->aw->Prop}(e:U d=U c)(h:Q (.bool c) σ):Q (.bool d) σ:=aA e▸h
theorem vq(hA:cJ (n+1) A)(H:Full w F s g x σ){o:gR}{a b:V}{u v:ae}{c:Bool}(ha:bw w g.z g.cs σ.heap a u)(hb:bw w g.z g.cs σ.heap b v)(e:bC o a b=U c){Q:ae->aw->Prop}
  (h:∀t,Q (.bool c) {σ with toks:=t}):ax (ar ao w) A (compareOp o u v) Q aC σ:=by
 have h0:Q (.bool c) σ:=h σ.toks
 induction o with
 |Eq=>exact acj hA H ha hb e h0
 |NotEq=>exact adI hA H ha hb (Ed e) (by rw[An];exact h0)
 |Lt=>exact ni ha hb e λi j t t' h1 h2 h3=>h1▸h2▸lt_int (qb h3 h0)
 |LtE=>exact ni ha hb e λi j t t' h1 h2 h3=>h1▸h2▸le_int (qb h3 h0)
 |Gt=>exact ni ha hb e λi j t t' h1 h2 h3=>h1▸h2▸gt_int (qb h3 h0)
 |GtE=>exact ni ha hb e λi j t t' h1 h2 h3=>h1▸h2▸ge_int (qb h3 h0)
 |Is=>have q:=N4 ha hb e;exact q.1▸wpAny_is_plain q.2.1 (q.2.2.symm▸h0)
 |IsNot=>have q:=N4 ha hb (Ed e);exact q.1▸wpAny_isNot_plain q.2.1 (by rw[q.2.2,An];exact h0)
 |In=>exact OD (neg:=ah) hA H ha hb e h
 |NotIn=>exact OD hA H ha hb (Ed e) (by rw[if_pos rfl,An];exact h)
theorem LS{a b:Int}(h:0<b):a.fdiv b=a/b:=by rw[Int.fdiv_eq_ediv_of_nonneg _ (fy h)]
theorem LJ{a b:Int}(h:0<b):a.fmod b=a%b:=by rw[Int.fmod_eq_emod_of_nonneg _ (fy h)]
theorem ye[Decidable c](e:(if c then U a else aj)=U b):c/\a=b:=by
 split at e
 ·rename_i h;exact⟨h,aA e⟩
 ·cases e
theorem Kz(h:i.natAbs<18446744073709551616): -18446744073709551616<i/\i<18446744073709551616:=by lia
theorem Vj{j:Int}(h:0<j/\j<1073741824):j.natAbs<1073741824:=by lia
theorem pG(H:Full w F s g [] σ)(e:R.val (.int i)=r)(t k:Nat):cO w F g s r (.int i t) {σ with toks:=k}:=e▸ib (H.toks _) (.int _ _)
theorem Y9(H:Full w F s g [] σ){a b:V}{u v:ae}{r:R}(ha:bw w g.z g.cs σ.heap a u)(hb:bw w g.z g.cs σ.heap b v)(e:PX a b=U r):ax (ar ao w) A (binaryOp .Add u v) (cO w F g s r) aC σ:=by
 refine(bN.mp e).elim λxs p=>(bN.mp p.2).elim λys q=>?_
 have q2:=ye q.2
 refine(px p.1▸ha).isList H.zi _ λp vs m e0 e1 e2 e3=>?_
 refine(px q.1▸hb).isList H.zi _ λp' bM m' e0' Rl Qs e3'=>?_
 have hl:(vs.toList++bM.toList).length<=cG:=(e2.append Qs).length▸aX▸q2.1
 have hz:vs.size+bM.size<=sizeLine:=bf (by rw[aX,fO,fO] at hl;exact hl) (by decide)
 rw[e0,e0',<-q2.2]
 refine concat_meets ⟨_,e1,rfl⟩ ⟨_,Rl,rfl⟩ noFill_list_add seq_list_add PySem.F.slot_list_add PySem.F.entry_list_add (PySem.F.args_list_add_2 _ _) (list_addW p p' vs bM m m' _ _ _ _ hz) ⟨e1,Rl,?_⟩
 refine Eg H (e2.append Qs) (bf hl (by decide)) ?_ rfl rfl
 rw[show vs++bM=(vs.toList++bM.toList).toArray by rw[<-Dg,Sy]]
theorem aaK(H:Full w F s g [] σ){o:Operator}{a b:V}{u v:ae}{r:R}(ha:bw w g.z g.cs σ.heap a u)(hb:bw w g.z g.cs σ.heap b v)(e:fg o a b=U r):ax (ar ao w) A (binaryOp o u v) (cO w F g s r) aC σ:=by
 induction o with
 |Add=>exact(Option.or_eq_some_iff.mp e).elim (λe=>ni ha hb e λi j t t' h1 h2 h3=>h1▸h2▸add_int (pG H (aA h3) _ _)) λe=>Y9 H ha hb e.2
 |Sub=>exact ni ha hb e λi j t t' h1 h2 h3=>h1▸h2▸sub_int (pG H (aA h3) _ _)
 |Mult=>exact ni ha hb e λi j t t' h1 h2 h3=>have q:=ye h3;h1▸h2▸mul_int (pG H q.2 _ _) (SM (intBits_le_64 (Kz q.1).1 (Kz q.1).2))
 |FloorDiv=>exact ni ha hb e λi j t t' h1 h2 h3=>have q:=ye h3;h1▸h2▸floordiv_int (mW q.1.1) (by rw[LS q.1.1];exact pG H q.2 _ _) (.inl (Sf (Vj q.1)))
 |Mod=>exact ni ha hb e λi j t t' h1 h2 h3=>have q:=ye h3;h1▸h2▸mod_int (mW q.1) (by rw[LJ q.1];exact pG H q.2 _ _)
 |_=>exact ay e
theorem Ut{cs:List ag}{vs:Array ae}(k:aF w z cs xs vs.toList):vs.isEmpty=xs.isEmpty:=by
 rw[<-Array.isEmpty_toList]
 induction xs with
 |nil=>rw[iF k];rfl
 |cons x r=>exact gB (P:=λl=>l.isEmpty=(x::r).isEmpty) k λj j j j=>rfl
theorem VU(H:Full w F s g x σ){u:ae}(hv:bw w g.z g.cs σ.heap v u)(e:truthy v=U c){Q:Bool->aw->Prop}(h:∀t,Q c {σ with toks:=t}):ax (ar ao w) A (Al u) Q aC σ:=by
 cases v with
 |bool b=>exact hv.bool▸pj (aA e▸h σ.toks)
 |list xs=>
  refine hv.isList H.zi _ λp vs m e0 e1 e2 e3=>?_
  have hl:vs.size<2 ^ 62:=e2.size▸bq e3 (by decide)
  exact e0▸wpAny_truthy_list (gm e1) (by lia) (by rw[Ut e2,aA e];exact h _)
 |_=>exact ay e
inductive HR(w:aE)(z:Z)(cs:List ag)(vs:Array ae)(i:Int)(v:V):Prop
 |front (j:Nat) (u:ae) (h1:i=j) (h2:vs[j]?=U u) (h3:Den w z cs v u) (h4:j<vs.size)
 |back (j:Nat) (u:ae) (h1:i+vs.size=j) (h2:vs[j]?=U u) (h3:Den w z cs v u) (h4:j<vs.size) (h5:i<0)
theorem NJ(k:aF w z cs xs vs.toList)(e:jx xs i=U v):HR w z cs vs i v:=by
 have at_:∀{j:Nat},xs[j]?=U v->∃u,vs[j]?=U u/\Den w z cs v u:=λ{j} e=>(k.get e).imp λu h=>⟨dG▸h.1,h.2⟩
 unfold jx at e
 by_cases q:0<=i
 ·rw[if_pos q] at e
  exact(at_ e).elim λu h=>.front _ u (uJ q).symm h.1 h.2 (sj.mp h.1).1
 ·rw[if_neg q] at e
  obtain⟨q1,e⟩:=ei e
  rw[k.size] at e q1
  exact(at_ e).elim λu h=>.back _ u (uJ q1).symm h.1 h.2 (sj.mp h.1).1 (D0.mp q)
theorem SS(h:j<n):seqIndex? (j:Int) n=U j:=by
 unfold seqIndex?
 rw[if_neg (gA.mpr (fw j))]
 dsimp only
 rw[if_pos (ak (decide_eq_true (fw j)) (decide_eq_true (hO.mpr h)))]
 rfl
theorem seqIndex_back{i:Int}{j n:Nat}(h:j<n)(h1:i+n=j)(h5:i<0):seqIndex? i n=U j:=by
 unfold seqIndex?
 rw[if_pos h5]
 dsimp only
 rw[if_pos (ak (decide_eq_true (h1▸fw j)) (decide_eq_true (h1▸hO.mpr h))),h1]
 rfl
theorem HR.tup{z:Z}{cs:List ag}{vs:Array ae}{i:Int}{v:V}(h:HR w z cs vs i v):∃j u,seqIndex? i vs.size=U j/\vs[j]?=U u/\Den w z cs v u/\-(vs.size:Int)<=i/\i<vs.size:=by
 induction h with
 |front j u h1 h2 h3 h4=>exact⟨j,u,h1▸SS h4,h2,h3,by lia,h1▸hO.mpr h4⟩
 |back j u h1 h2 h3 h4 h5=>exact⟨j,u,seqIndex_back h4 h1 h5,h2,h3,by lia,by lia⟩
theorem Cg(h:a<=bQ):a<2 ^ 62:=bq h (by decide)
theorem Za(H:Full w F s g x σ){u u':ae}{t:gY}(hb:bw w g.z g.cs σ.heap (.list xs) u)(hi:u'=.int i t)(e:jx xs i=U v){Q:ae->aw->Prop}
  (h:∀y t,Den w g.z g.cs v y->Q y {σ with toks:=t}):ax (ar ao w) A (mq u u') Q aC σ:=by
 refine hb.isList H.zi _ λp vs m e0 e1 e2 e3=>?_
 have hs:vs.size<2 ^ 62:=Cg (e2.size▸e3)
 induction NJ e2 e with
 |front j y h1 h2 h3 h4=>exact e0▸hi▸wpAny_getItem_list (gm e1) (h1▸fw j) (by lia) (by rw[h1];exact h2) (h y σ.toks h3)
 |back j y h1 h2 h3 h4 h5=>exact e0▸hi▸wpAny_getItem_list_neg (gm e1) h5 (by lia) (by lia) (by rw[h1];exact h2) (h y σ.toks h3)
theorem ace(H:Full w F s g x σ)(hb:bw w g.z g.cs σ.heap (.tup xs) u)(hi:u'=.int i t)(e:jx xs i=U v)
  (hQ:∀y t,Den w g.z g.cs v y->Q y {σ with toks:=t}):ax (ar ao w) A (mq u u') Q aC σ:=by
 refine hb.isTup H.zi _ λp vs m e0 e1 e2 e3=>?_
 have hs:vs.size<2 ^ 62:=Cg (e2.size▸e3)
 exact(NJ e2 e).tup.elim λj h=>h.elim λy q=>e0▸hi▸getItem_tuple (pq e1) (by have:=q.2.2.2;lia) (by have:=q.2.2.2;lia) q.1 q.2.1 (hQ y σ.toks q.2.2.1)
theorem Nh(hA:cJ (n+1) A)(H:Full w F s g x σ)(hb:bw w g.z g.cs σ.heap b u)(hk:bw w g.z g.cs σ.heap k u')(e:cC b k=U v)
  (h:∀y t,Den w g.z g.cs v y->Q y {σ with toks:=t}):ax (ar ao w) A (mq u u') Q aC σ:=by
 cases b with
 |list xs=>exact(bN.mp e).elim λi q=>(nZ q.1▸hk).int.elim λt hi=>Za H hb hi q.2 h
 |tup xs=>exact(bN.mp e).elim λi q=>(nZ q.1▸hk).int.elim λt hi=>ace H hb hi q.2 h
 |dict ks vs=>
  have q:=ei e
  refine hb.tm H.zi _ λp es m e0 e1 e2 e3 e4 e5=>?_
  subst e0;exact(tC q.1).item hA.rF H.zi (λQ_ k_=>k_ p es m rfl e1 e2 e3 e4 e5) (MC q.1 hk) q.2 h
 |_=>exact ay e
end
end
section
section
variable {w:aE}{K:aS}{mg mb:af->Option ae}{F:Fm}{s s':S}{g:Gh}{x:List ag}{σ:aw}{A:bj}{cx:Cx}{n:Nat}{ih:I}{G:bR}
theorem ly(h:cg w g (.val v) y o):Den w g.z g.cs v y/\o=[]:=
 cg.casesOn (motive:=λr y o j=>R.v? r=U v->Den w g.z g.cs v y/\o=[]) h (λd e=>aA e▸⟨d,rfl⟩) (λj e=>ay e) (λj j j e=>ay e) (λj j j j e=>ay e) rfl
theorem EM(h:cg w g (.val (.int b)) y o):(∃t,y=.int b t)/\o=[]:=⟨(ly h).1.inv,(ly h).2⟩
theorem E8(h:cg w g (.var v) y o):lk v g.vl=U y/\o=[]:=
 cg.casesOn (motive:=λr y o j=>R.x? r=U v->lk v g.vl=U y/\o=[]) h (λj e=>ay e) (λd e=>aA e▸⟨d,rfl⟩) (λj j j e=>ay e) (λj j j j e=>ay e) rfl
theorem cJ.three(hA:cJ (n+1) A):cJ n A:=hA.le (by lia)
theorem Jo(h:qS o=J)(attr:af)(env:dh)(whole:Sem ae):sI o attr env whole=whole:=by
 have E:sI o attr env whole=cond (qS o) whole (sI o attr env whole):=ai.casesOn (motive_1:=λo=>sI o attr env whole=cond (qS o) whole (sI o attr env whole)) o (λj j j=>rfl) (λj j j=>rfl) (λj j j j=>rfl) (λj j j=>rfl) (λj j j j=>rfl) (λj j j j=>rfl) (λj j j=>rfl) (λj j j=>rfl) (λj j j j=>rfl) (λj j j j=>rfl) (λj j j j j=>rfl) (λj j j j=>rfl) (λj j=>rfl) (λj j=>rfl) (λj j=>rfl) (λj j j j=>rfl) (λf l k p=>ai.casesOn (motive_1:=λf=>sI (.Call f l k p) attr env whole=cond (qS (.Call f l k p)) whole (sI (.Call f l k p) attr env whole)) f (λj j j=>rfl) (λj j j=>rfl) (λj j j j=>rfl) (λj j j=>rfl) (λj j j j=>rfl) (λj j j j=>rfl) (λj j j=>rfl) (λj j j=>rfl) (λj j j j=>rfl) (λj j j j=>rfl) (λj j j j j=>rfl) (λj j j j=>rfl) (λj j=>rfl) (λj j=>rfl) (λj j=>rfl) (λj j j j=>rfl) (λj j j j=>rfl) (λj j j j=>rfl) (λj j=>rfl) (λj j j=>rfl) (λj j j=>rfl) (λj j j=>rfl) (λj j=>rfl) (λi q=>by cases l with|nil=>(cases k<;>rfl)|cons a l=>rfl) (λj j=>rfl) (λj j j=>rfl) (λj j j j=>rfl)) (λj j j j=>rfl) (λj j=>rfl) (λj j j=>rfl) (λj j j=>rfl) (λj j j=>rfl) (λj j=>rfl) (λj j=>rfl) (λj j=>rfl) (λj j j=>rfl) (λj j j j=>rfl)
 rw[h] at E
 exact E
theorem VX{a x:af}{t:gY}{e:cm}{es:List cm}(hk:e.key=.str x t):getL a (e::es)=if x=a then U (U e.val) else getL a es:=by
 have hs:e.key.isStr a=(x==a):=by rw[hk];rfl
 have hr:e.refKey=false:=by rw[cm.refKey,hk]
 by_cases q:x=a
 ·rw[if_pos q,getL,List.find?_cons_of_pos (by rw[hs,beq_iff_eq];exact q)]
 ·rw[if_neg q,getL,List.find?_cons_of_neg (by rw[hs,beq_iff_eq];exact q),JN,hr];rfl
theorem Nr:∀{vs:List V} {es:List cm},dA w z cs ns vs es->(lk a (ns.zip vs)=aj->getL a es=U aj)/\∀v,lk a (ns.zip vs)=U v->∃y,getL a es=U (U y)/\Den w z cs v y:=by
 induction ns with
 |nil=>exact λh=>⟨λj=>(qU h).2▸rfl,λj e=>ay e⟩
 |cons x ns ih=>
  intro vs es h
  refine vd (P:=λvs es=>(lk a ((x::ns).zip vs)=aj->getL a es=U aj)/\∀v,lk a ((x::ns).zip vs)=U v->∃y,getL a es=U (U y)/\Den w z cs v y) h λu us e q hk hv j k=>?_
  refine hk.elim λt hk=>?_
  rw[VX hk,List.zip_cons_cons]
  by_cases c:x=a
  ·rw[if_pos c,eI.1 c]
   exact⟨λe=>mM e,λv e=>⟨_,rfl,aA e▸hv⟩⟩
  ·rw[if_neg c,eI.2 c]
   exact ih k
theorem Ot(h:dA w z cs ns vs es)(e:lk a (ns.zip vs)=U v):∃y,getL a es=U (U y)/\Den w z cs v y:=(Nr h).2 v e
theorem Kx(h:dA w z cs ns vs es)(e:lk a (ns.zip vs)=aj):getL a es=U none:=(Nr h).1 e
theorem E4(e:h.get? a=U (kj c d))(hd:h.get? d=U (cB es m)):W.InstAt h a (kj c d) c (U (dictOf es.toList m)):=⟨e,rfl,rfl,hd⟩
theorem Full.wX(H:Full w F s g x σ)(C:cz w K mg mb cx F):K.In σ.heap:=C.base.k.keeps H.hb
end
end
section
section
variable {w:aE}{K:aS}{mg mb:af->Option ae}{F:Fm}{s s':S}{g:Gh}{x:List ag}{σ:aw}{A:bj}{cx:Cx}{n:Nat}{ih:I}{G:bR}
theorem A4{value slice:ai}{o i:ae}{T id:String}{Q:ae->aw->Prop}(hT:σ.TypeIs o T)(hl:typeLookup (.type T) "__getitem__"=pure (U (.builtin id)))(h:ax (ar ao w) A (mq o i) Q aC σ):
  ax (ar ao w) A (subscriptTail value slice o i) Q aC σ:=by
 have E0:∃l,operate [o,i] (mq o i)=operate l (mq o i):=⟨_,rfl⟩
 have hs:∃l,subscripted slice ah o i=operate l (mq o i):=ai.casesOn (motive_1:=λs=>∃l,subscripted s ah o i=operate l (mq o i)) slice (λj j j=>E0) (λj j j=>E0) (λj j j j=>E0) (λj j j=>E0) (λj j j j=>E0) (λj j j j=>E0) (λj j j=>E0) (λj j j=>E0) (λj j j j=>E0) (λj j j j=>E0) (λj j j j j=>E0) (λj j j j=>E0) (λj j=>E0) (λj j=>E0) (λj j=>E0) (λj j j j=>E0) (λj j j j=>E0) (λj j j j=>E0) (λj j=>E0) (λj j j=>E0) (λj j j=>E0) (λj j j=>E0) (λj j=>E0) (λj j=>E0) (λj j=>E0) (λj j j=>E0) (λj j c j=>Option.casesOn (motive:=λc=>∃l,subscripted (.Slice _ _ c _) ah o i=operate l (mq o i)) c ⟨_,rfl⟩ λj=>E0)
 obtain⟨l,hs⟩:=hs
 unfold subscriptTail
 refine au ?_
 rw[getitemInPython_of_ne hT.not_modules]
 refine au (wpAny_specialOf hT hl ?_)
 have fin:ax (ar ao w) A (subscripted slice ah o i) (λr v8=>ax (ar ao w) A (letTemporaryGo value o r>>= λj=>pure r) Q aC v8) aC σ:=by
  rw[hs]
  exact wpAny_operating (jn h (λr v8 B4=>au (wpAny_letTemporaryGo (aI B4))) λj j x=>x)
 first
  |exact aI (au fin)
  |exact au (aI (au fin))
  |exact au fin
theorem W8(h:m+1<=n):n-(m+1)+1=n-m:=by rw[Nat.sub_add_eq];exact Dj (JB h)
theorem YP(n:Nat):∀m,m<=n->(cb m).map (λk=>n-1-k)=(List.range' (n-m) m).reverse:=by
 intro m
 induction m with
 |zero=>intro _;rfl
 |succ m ih=>
  intro h
  rw[JE,bZ,ih (z6 h),List.map_singleton,List.range'_succ,W8 h,uM,Nat.sub_sub,kb 1 m]
theorem LH(xs:Array ae):((cb xs.size).map λk=>xs.size-1-k).filterMap (xs[·]?)=xs.toList.reverse:=by
 rw[YP xs.size xs.size (aQ _),qK,<-List.range_eq_range',List.filterMap_reverse]
 congr 1
 have:(cb xs.size).filterMap (xs[·]?)=xs.toList:=by
  have:=pick_run xs 0 xs.size
  simp only[fx] at this
  have e:cA (λk=>k) (cb xs.size)=cb xs.size:=List.map_id _
  rw[e] at this
  rw[this,xG,xi (by simp)]
 exact this
theorem Mw(s k:Nat):((s:Int)-1+(k:Int)* -1).toNat=s-1-k:=by
 rw[Int.mul_neg_one,show((s:Int)-1+ -(k:Int))=((s:Int)-((1+k:Nat):Int)) from by rw[Ac,<-Int.sub_sub];rfl,Ai,Nat.sub_sub]
theorem Tb(items:Array ae):slicePick items aj aj (U (-1))=items.toList.reverse.toArray:=by
 unfold slicePick
 congr 1
 rw[<-LH items]
 congr 1
 unfold sliceRange sliceBounds
 simp only[Option.getD_some]
 have h1:¬((-1:Int)>0):=by decide
 simp only[h1,if_false]
 have hc:(if(items.size:Int)-1> -1 then((items.size:Int)-1- -1- -1-1)/(- -1) else 0).toNat=items.size:=by
  rw[show(- -1:Int)=1 from rfl,Int.ediv_one]
  by_cases q:(items.size:Int)-1> -1
  ·rw[if_pos q];exact(congrArg Eo (by lia:(items.size:Int)-1- -1- -1-1=items.size)).trans (nS _)
  ·rw[if_neg q];exact(Sk (mV λh=>q (by lia))).symm
 rw[hc]
 apply zW
 intro k hk
 rw[Int.mul_comm];exact Mw _ _
theorem W7(e1:σ.heap.get? p=U (bg vs m))(k:aF w z cs xs vs.toList)(hz:xs.length<=bQ)
  (hs:σ.heap.IsSliceOf sl vl vu vt) (hl:pL vl l) (hu:pL vu u) (ht:pL vt t) (e:Bu xs l u t=U ys)
  (h:∀us:List ae,aF w z cs ys us->us.length<=bQ->Q (.ref σ.heap.objs.size) {σ with heap:=σ.heap.push (bg us.toArray 0)}):ax (ar ao w) A (mq (.ref p) (.ref sl)) Q aC σ:=by
 have hsz:=k.size
 unfold Bu at e
 split at e
 ·cases e
  refine wpAny_getItem_list_slice (gm e1) hs hl hu ht (by simp) ?_ (hsz▸hz)
  rw[slicePick_plain]
  rw[hsz] at h
  exact h _ ((k.drop _).take _) (by rw[qH,mU,fO];exact bf (sE ..) (bf (qP ..) (hsz▸hz)))
 ·obtain⟨⟨rfl,rfl,rfl⟩,e⟩:=ei e
  cases e
  refine wpAny_getItem_list_slice (gm e1) hs hl hu ht (by simp) ?_ (hsz▸hz)
  rw[Tb]
  exact h _ k.reverse (by rw[ph,fO];exact hsz▸hz)
theorem TK{sl:ag}{m:Nat}{t:gY}{Q:Int×Int×Nat->aw->Prop}(hs:σ.heap.IsSliceOf sl .none .none (.int (-1) t))(h:Q ((m:Int)-1,-1,m) σ):
  ax (ar ao w) A (RX (.ref sl) (pure (m:Int))) Q aC σ:=by
 obtain⟨os,uk,RK,wU⟩:=id hs
 unfold RX dD.Slice.sliceFields
 refine au (au (wpAny_field uk wU rfl (au (wpAny_field uk wU rfl (au (wpAny_field uk wU rfl (aI ?_)))))))
 refine au (slicePart_int ?_)
 show ax _ _ (if((-1:Int)==0)=J then _ else _) _ _ _
 rw[if_neg (by decide)]
 refine au (slicePart_none (au (slicePart_none (au (aI ?_)))))
 show ax _ _ (match RY aj aj (-1) (m:Int) with|(lo,hi)=>pure (lo,(-1:Int),I8 lo hi (-1))) _ _ σ
 have ha:RY aj aj (-1) (m:Int)=((m:Int)-1,-1):=rfl
 have hp:I8 ((m:Int)-1) (-1) (-1)=m:=by
  unfold I8
  rw[if_neg (by decide),show(- -1:Int)=1 from rfl,Int.ediv_one]
  split<;>lia
 rw[ha]
 dsimp only
 rw[hp]
 exact aI h
theorem Vf(e1:σ.heap.get? p=U (i6 vs m))(k:aF w z cs xs vs.toList)(hz:xs.length<=bQ)
  (hs:σ.heap.IsSliceOf sl .none .none (.int (-1) t))
  (h:∀us:List ae,aF w z cs xs.reverse us->us.length<=bQ->Q (.ref σ.heap.objs.size) {σ with heap:=σ.heap.push (i6 us.toArray 0)}):ax (ar ao w) A (mq (.ref p) (.ref sl)) Q aC σ:=by
 have hsz:=k.size
 have B9:sizeOk (.seq vs.toList.reverse.toArray):=by
  show vs.toList.reverse.toArray.size<=bQ
  rw[uL,ph,fO]
  exact hsz▸hz
 obtain⟨os,uk,RK,wU⟩:=id hs
 have hTs:σ.TypeIs (.ref sl) "slice":=⟨os,uk,RK⟩
 have ht:IsTup σ.heap p vs:=pq e1
 have h:=h _ k.reverse (by rw[ph,fO];exact hsz▸hz)
 unfold mq
 try with_reducible refine gN ?_
 first|refine au (aI ?_)|skip
 refine au (wpAny_sequenceKey ht.typeIs (by decide) ?_)
 refine au (wpAny_callSpecial?_slot ht.typeIs zX
  (qG zX ht.typeIs entry_tuple_getitem ?_ (args_tuple_getitem _ _)))
 show ax _ _ (dD.Tuple.tupleItemsOf (.ref p)>>= _) _ _ σ
 refine au (tupleItemsOf_ ht ?_)
 refine au (uT hTs ?_)
 rw[if_pos (by decide)]
 refine au (TK hs ?_)
 show ax _ _ (if((vs.size:Int)-1==0&&(-1:Int)==1&&vs.size==vs.size)=J then _ else _) _ _ σ
 have ad9:((cb vs.size).filterMap λ(k:Nat)=>vs[((vs.size:Int)-1+(k:Int)* -1).toNat]?)=vs.toList.reverse:=by
  rw[<-LH vs,List.filterMap_map]
  have key:∀l:List Nat,(∀k∈l,k<vs.size)->l.filterMap (λ(k:Nat)=>vs[((vs.size:Int)-1+(k:Int)* -1).toNat]?)=l.filterMap ((λx=>vs[x]?)∘λk=>vs.size-1-k):=by
   intro l
   induction l with
   |nil=>intro _;rfl
   |cons k r ih=>
    intro hl
    have hk:=hl k (.head _)
    have e:((vs.size:Int)-1+(k:Int)* -1).toNat=vs.size-1-k:=Mw _ _
    rw[SJ,SJ,ih λj hj=>hl j (.tail _ hj),e]
    rfl
  exact key _ λk hk=>lr.mp hk
 rw[if_neg (by simp),ad9]
 first
  |exact au (lh (aI ⟨_,rfl,aI h⟩) B9)
  |exact au (lh (au (aI (aI ⟨_,rfl,aI h⟩))) B9)
  |exact au (au (lh (aI (aI ⟨_,rfl,aI h⟩)) B9))
  |exact au (au (lh (aI ⟨_,rfl,aI h⟩) B9))
end
end
section
section
variable {w:aE}{K:aS}{mg mb:af->Option ae}{F:Fm}{s s':S}{g:Gh}{x:List ag}{σ σ':aw}{A:bj}{cx:Cx}{n:Nat}{ih:I}{G:bR}
theorem xO(H:Full w F s g [] σ)(G:cU σ σ')(ha:σ.heap.get? a=aj)(e:σ'.heap.get? a=U (bg vs m))(k:aF w g.z g.cs xs vs.toList)(hl:vs.size<=bQ):
  cO w F g s (.list xs) (.ref a) σ':=by
 refine λQ_ k_=>k_ ({g with ρ:=g.ρ.put a (bg vs m)}) ([]++[a]) ⟨Z.le_refl _,bz _,rfl,rfl,rfl⟩ (H.put G ha e) ?_
 exact cg.list (Z.dp _ _ _) k (by rw[k.size];exact hl)
structure Moved(L:ag)(m:af->Option ae)(σ σ':aw):Prop where
 heap:∀a o,a≠L->σ.heap.get? a=U o->σ'.heap.get? a=U o
 ns:σ'.heap.Ns L m
 gens:σ'.gens=σ.gens
 os:σ'.os=σ.os
theorem Full.locals(H:Full w F s g x σ):∃m o,σ.heap.Ns F.bh.locals m/\g.ρ F.bh.locals=U o/\∀y v,lk y g.vl=U v->F.bh.kindOf y=U .local->m y=U v:=by
 exact H.loc.ns.elim λo h=>h.elim λm h=>⟨m,o,kl.mpr ⟨o,H.ri _ _ h.1,h.2.1⟩,h.1,h.2.2⟩
theorem Fm.sep(h:F.ns.Nodup)(hL:L∈F.bh.locals::F.bh.cells.map (·.2)):L≠F.tab/\(F.comp=J->L≠F.env.locals):=by
 unfold Fm.ns at h
 have h1:=cM.mp h
 exact⟨h1.2.2 L (bp _ hL) _ (.head _),λq=>(cM.mp h1.1).2.2 L hL _ (by rw[if_pos q];exact .head _)⟩
theorem Fm.EW(h:F.ns.Nodup)(hp:p∈F.bh.cells):p.2≠F.bh.locals:=by
 unfold Fm.ns at h
 exact λq=>(eN.mp (cM.mp (cM.mp h).1).1).1 (q▸qC hp)
theorem Full.rH(H:Full w F s g x σ):F.ns.Nodup:=(cM.mp (cM.mp (cM.mp (cM.mp H.nd).1).1).1).1
theorem Full.rq(H:Full w F s g x σ){L:ag}(hL:L∈F.ns){l:List ag}(hl:∀b∈l,b∈g.ov++g.ot++g.om++x):L∉l:=λh=>by
 have:=H.nd
 rw[aN,aN,aN] at this
 exact(cM.mp this).2.2 L hL L (by have:=hl L h;rw[aN,aN] at this;exact this) rfl
theorem Full.OJ(H:Full w F s g x σ){L:ag}(hL:L∈F.ns):L∉g.ov:=H.rq hL λj h=>bp _ (bp _ (bp _ h))
theorem Full.afP(H:Full w F s g x σ){L:ag}(hL:L∈F.ns):L∉g.ot:=H.rq hL λj h=>bp _ (bp _ (cy _ h))
theorem Full.BE(H:Full w F s g x σ){L:ag}(hL:L∈F.ns):L∉g.om:=H.rq hL λj h=>bp _ (cy _ h)
theorem Full.Ou(H:Full w F s g x σ)(hL:L∈F.bh.locals::F.bh.cells.map (·.2))(P:mB L oL σ σ')(GG:oy (g.ρ.put L oL) F.bh vl)(hv:eH w g.z g.cs (g.ρ.put L oL) s'.vars vl ov)
  (ht:s'.bX=s.bX) (hm:s'.mem=s.mem) (hc:s'.cv=s.cv) (hn:(F.ns++ov++g.ot++g.om++x').Nodup) (hx:∀b∈x',b∈x):Full w F s' {g with ρ:=g.ρ.put L oL,vl:=vl,ov:=ov} x' σ':=
 have hs:=Fm.sep H.rH hL
 (H.O7 L (Fm.pP hL)).elim λo e=>⟨H.toReg.t4 e P,⟨GG,H.tb.mono (Z.le_refl _) (Z.df _ _ hs.1.symm),λq=>(H.cmp q).on λj e=>(Z.df _ _ (hs.2 q).symm).trans e,hv,ht▸H.bX.mono (Z.le_refl _) (bz _) (Z.iH (H.afP (Fm.pP hL))),
  hm▸H.mem.mono (Z.le_refl _) (bz _) (Z.iH (H.BE (Fm.pP hL))),hc▸H.cv,hn,λb hb=>H.yx b (hx b hb)⟩⟩
def aaw(w:aE)(F:Fm)(s:S)(g:Gh)(x:List ag)(σ':aw):Prop:=∀C:Prop,(∀(g':Gh) (h1:g.le g') (h2:g'.z=g.z) (h3:g'.cs=g.cs) (h4:∀b,b≠F.bh.locals->g'.ρ b=g.ρ b) (h5:Full w F s g' x σ'),C)->C
theorem Full.moved(H:Full w F s g x σ)(hm:∀y v,lk y g.vl=U v->F.bh.kindOf y=U .local->m y=U v)(M:Moved F.bh.locals m σ σ'):aaw w F s g x σ':=
 (kl.mp M.ns).elim λo' e' Q_ k_=>k_ ({g with ρ:=g.ρ.put F.bh.locals o'}) ⟨Z.le_refl _,bz _,rfl,rfl,rfl⟩ rfl rfl (λb hb=>Z.df _ _ hb) (H.Ou (.head _) ⟨M.heap,e'.1,M.gens,M.os⟩ ⟨⟨o',m,Z.dp _ _ _,e'.2,hm⟩,λp hp=>(H.loc.cell p hp).imp λoc k=>⟨(Z.df _ _ (Fm.EW H.rH hp)).trans k.1,k.2⟩,H.loc.kinds⟩
   (H.vars.mono (Z.le_refl _) (bz _) (Z.iH (H.OJ (Fm.pP (.head _))))) rfl rfl rfl H.nd λj h=>h)
noncomputable def vK(h:az)(L:ag):List (ag×aP):=(cb h.objs.size).filterMap λa=>if a=L then aj else(h.get? a).map λo=>(a,o)
theorem Kg(e:h.get? a=U o)(hl:a≠L):(a,o)∈vK h L:=by
 unfold vK
 rw[List.mem_filterMap]
 exact⟨a,lr.mpr (gy e),by rw[if_neg hl,e];rfl⟩
theorem DR(h:az)(L:ag):News {} L h (vK h L):=by
 intro p hp
 unfold vK at hp
 rw[List.mem_filterMap] at hp
 obtain⟨a,_,q⟩:=hp
 split at q
 ·cases q
 ·rename_i hl
  cases e:h.get? a with
  |none=>rw[e] at q;cases q
  |some o=>
   rw[e] at q
   cases q
   exact⟨e,hl,rfl⟩
theorem EB(hn:h.Ns L m):Fr {} L h m:=⟨hn,(λb o e=>by simp [az.get?] at e),eO _⟩
theorem LI(hF:Fr {} L h' m)(hN:News {} L h' news)(hs:∀p∈vK σ.heap L,p∈news):Moved L m σ {σ with heap:=h',toks:=t}:=
 ⟨λa o hl e=>(hN (a,o) (hs _ (Kg e hl))).1,hF.ns,rfl,rfl⟩
inductive oq(w:aE)(g:Gh):List R->List ae->Prop
 |nil:oq w g [] []
 |cons {r:R} {rs:List R} {y:ae} {ys:List ae} (h:cg w g r y []) (k:oq w g rs ys):oq w g (r::rs) (y::ys)
end
end
section
theorem Tq:typeLookup (.type "list") "keys"=pure none:=by rw[typeLookup_type,builtinLookup_eq_fast];kernel_rfl
theorem SQ:typeLookup (.type "list") "__getattr__"=pure none:=by rw[typeLookup_type,builtinLookup_eq_fast];kernel_rfl
theorem Ol:isSubtype (.type "AttributeError") (.type "AttributeError")=pure true:=by rw[isSubtype_type];kernel_rfl
theorem Uq:((Manifest.find? "AttributeError").elim ah λt=>t.mro.contains "StopIteration"||t.mro.contains "SystemExit")=false:=by decide+kernel
section
variable {prog:Program}{w:aE}{A:bj}{E:ae->aw->Prop}{h:az}{g:Array GenState}{d:Drawn}{t:Nat}{os:OsState}{a:ag}{us:Array ae}{m:Nat}
theorem VB{tk:gY}{Q:Fin->aw->Prop}(hh:A.handled=aj)(hx:h.get? a=U ⟨.type "list",aj,.seq us m,#[]⟩)
  (hq:∀h' r4 e,(∀b o,h.get? b=U o->h'.get? b=U o)->(∃ob,h'.get? e=U ob/\ob.cls=.type "AttributeError")->E (.ref e) ⟨h',g,d,r4,os⟩):
  ax (ar prog w) A (dD.«object.__getattribute__» ⟨[.ref a,.str "keys" tk],[]⟩) Q E ⟨h,g,d,t,os⟩:=by
 have hT:(⟨h,g,d,t,os⟩:aw).TypeIs (.ref a) "list":=⟨_,hx,rfl⟩
 have f4:=Tq
 have f5:=Ol
 repeat (any_goals (first|assumption|wp_step))
 unfold raiseAttrError
 refine au ?_
 refine wpAny_mkStr' ?_ (by show(_:Nat)<=_;exact Sv (by decide+kernel))
 refine au ?_
 unfold newExc newTuple
 refine au (lh ?_)
 refine au (kc (a:=qO) (by simp only[firstArgMember,Uq];rfl) ?_)
 refine lh ?_
 generalize hH:h.push _=h1
 have lZ:∀b o,h.get? b=U o->h1.get? b=U o:=λb o e=>hH▸dX _ e
 generalize hV:(#[sR h.objs.size,qO,qO,qO,ae.bool ah,qO]++ownMembersOf (sP "AttributeError") _)=av
 have hav:av=#[.ref h.objs.size,.none,.none,.none,.bool ah,.none,unsetMember,unsetMember]:=by rw[<-hV];rfl
 subst hav
 dsimp only
 have Ct:(h1.push {cls:=sP "AttributeError",dict:=aj,data:=Data.fields #[.ref h.objs.size,.none,.none,.none,.bool ah,.none,unsetMember,unsetMember]}).get? h1.objs.size=U {cls:=sP "AttributeError",dict:=aj,data:=Data.fields #[.ref h.objs.size,.none,.none,.none,.bool ah,.none,unsetMember,unsetMember]}:=eM _ rfl
 have eD:h.get? h1.objs.size=none:=zV (by rw[<-hH,Ae];lia)
 generalize hH2:h1.push _=h2 at Ct ⊢
 have jy:∀b o,h.get? b=U o->h2.get? b=U o:=λb o e=>hH2▸dX _ (lZ b o e)
 generalize hE:h1.objs.size=e at Ct eD ⊢
 have hT3:(⟨h2,g,d,t+1+1,os⟩:aw).TypeIs (sR e) "AttributeError":=⟨_,Ct,rfl⟩
 repeat (any_goals (first|assumption|wp_step))
 unfold raiseNew
 refine au (wpAny_handled ?_)
 rw[hh]
 have fin:E (.ref e) ⟨h2.update e (uR λvs=>vs.extract 0 6++#[ae.str (uW "keys") (t+1),sR a]),g,d,t+1+1,os⟩:=by
  refine hq _ _ e (λb o q=>?_) ⟨_,qA _ Ct rfl,rfl⟩
  exact(uF _ _ (λq2:e=b=>by rw[<-q2,eD] at q;cases q)).trans (jy b o q)
 first
  |exact wpAny_throw fin
  |exact au (aI (wpAny_throw fin))
theorem VR{tk:gY}{R:jq->aw->Prop}(hh:A.handled=aj)(hx:h.get? a=U ⟨.type "list",aj,.seq us m,#[]⟩)
  (hq:∀h' r4 e,(∀b o,h.get? b=U o->h'.get? b=U o)->(∃ob,h'.get? e=U ob/\ob.cls=.type "AttributeError")->R (.error (.ref e)) ⟨h',g,d,r4,os⟩):
  ic (ar prog w) A (.call (.builtin "list.__getattribute__") ⟨[.ref a,.str "keys" tk],[]⟩) R ⟨h,g,d,t,os⟩:=
 codeAny_call_builtin C9.plain F.entry_list_ga (C9.check _ _ _ _ _ _ _ _ (show(⟨h,g,d,t,os⟩:aw).TypeIs (.ref a) "list" from⟨_,hx,rfl⟩) (F.args_list_getattribute_2 _ _)
  (VB hh hx hq))
theorem U7{Q:Option ae->aw->Prop}(hh:A.handled=aj)(hx:h.get? a=U ⟨.type "list",aj,.seq us m,#[]⟩)
  (hq:∀h' r4,(∀b o,h.get? b=U o->h'.get? b=U o)->Q aj ⟨h',g,d,r4,os⟩):ax (ar prog w) A (getAttr? (.ref a) "keys") Q E ⟨h,g,d,t,os⟩:=by
 have hT:∀tk,(⟨h,g,d,tk,os⟩:aw).TypeIs (.ref a) "list":=λtk=>⟨_,hx,rfl⟩
 have f2:=C9.lookup
 have f3:=C9.bind (.ref a)
 have f4:=SQ
 have f5:=Ol
 have hT1:=hT (t+1)
 unfold getAttr? getAttrBy?
 repeat (any_goals (first|assumption|wp_step))
 refine VR hh hx λh' r4 e hk he=>?_
 obtain⟨ob,he1,CT⟩:=he
 have hTe:(⟨h',g,d,r4,os⟩:aw).TypeIs (.ref e) "AttributeError":=⟨_,he1,CT⟩
 have fin:=hq h' r4 hk
 repeat (any_goals (first|assumption|wp_step))
end
section
variable {w:aE}{z:Z}{cs:List ag}{σ σ':aw}{A:bj}{n:Nat}
theorem JD:entryFor table "dict.update.loop"=U dD.«dict.update.loop»:=entryFor_of_tree ⋯
theorem Aa:plainId "dict.update.loop"=true:=by decide+kernel
noncomputable abbrev BN(p:V×V):V:=.tup [p.1,p.2]
structure ad4(w:aE)(z:Z)(cs:List ag)(h0:az)(l I d:ag)(us:Array ae)(ps:List (V×V))(i:Nat)(ks vs:List V)(σ:aw):Prop where
 hp:aF w z cs (ps.map BN) (us.toList.drop i)
 hk:∀b o,h0.get? b=U o->σ.heap.get? b=U o
 hI:σ.heap.IsListIter I l i
 hd:iK w σ.heap.get? z cs ks vs (.ref d)
 hz:ks.length+ps.length<=bQ
theorem Z5{h:az}(hz:∀a o,z a=U o->h.get? a=U o){a b:V}{u:ae}{P:Prop}(d:Den w z cs (.tup [a,b]) u)(k:∀ti pZ tn ku vu,u=.ref ti->h.get? ti=U (i6 pZ tn)->pZ.toList=[ku,vu]->Den w z cs a ku->Den w z cs b vu->P):P:=by
 refine(d.inv:TupAt w z z cs [a,b] u) _ λti pZ tn e0 e1 e2 e3=>?_
 have e4:∀l,pZ.toList=l->P:=λl q=>gB (P:=λl=>pZ.toList=l->P) (q▸e2) (λku r h1 k1=>gB (P:=λr=>pZ.toList=ku::r->P) k1 λvu r h2 k2 q=>k ti pZ tn ku vu e0 (hz _ _ e1) (iF k2▸q) h1 h2) q
 exact e4 _ rfl
theorem iK.to{get get':Z}{ks vs:List V}{d:ag}(D:iK w get z cs ks vs (.ref d))(h:∀o,get d=U o->get' d=U o):iK w get' z cs ks vs (.ref d):=by
 refine D _ λa es n e0 e1 e2 e3 e4 e5=>?_
 cases e0;exact λQ_ k_=>k_ _ es n rfl (h _ e1) e2 e3 e4 e5
theorem aaf{us:Array ae}{u:ae}{r:List ae}(h:us.toList.drop i=u::r):us[i]?=U u/\us.toList.drop (i+1)=r:=by
 have h1:(us.toList.drop i)[0]?=U u:=by rw[h];rfl
 rw[Ju,dG] at h1
 exact⟨h1,by rw[<-List.drop_drop,h];rfl⟩
theorem VD{h0:az}(hh:A.handled=aj)(hA:A.units+6<cLine)(hz:∀a o,z a=U o->h0.get? a=U o){l I d:ag}{us:Array ae}{m:Nat}(hl:h0.get? l=U (bg us m))(Il:I≠d)(o8:h0.get? I=aj)(uh:h0.get? d=aj)
  {cH bM:List V} {R:jq->aw->Prop} (ps:List (V×V)):∀{i:Nat} {ks vs:List V} {σ:aw},ad4 w z cs h0 l I d us ps i ks vs σ->nX ps ks vs=U (cH,bM)->
   (∀h' tk,(∀b o,h0.get? b=U o->h'.get? b=U o)->iK w h'.get? z cs cH bM (.ref d)->R (.ok (.ret .none)) {σ with heap:=h',toks:=tk})->
   ic (ar ao w) A (.builtin "dict.update.loop" ⟨[.ref d,.ref I,gQ i,.none],[]⟩) R σ:=by
 induction ps with
 |nil=>
  intro i ks vs σ D hd hR
  refine codeAny_builtin JD ?_
  rw[Ji Aa _]
  show ax _ A.in1 (lD (.ref I)>>= _) _ _ σ
  have hn:us[i]?=none:=by
   have:=iF D.hp
   rw[List.drop_eq_nil_iff,fO] at this
   exact Sh this
  refine au (wpAny_pyNext_list_end hh D.hI (gm (D.hk _ _ hl)) hn λh' hx=>?_)
  show ax _ A.in1 (dD.Dict.addKeywords d []>>= λj=>ret qO) _ _ _
  have e:=mZ (aA hd)
  exact au (aI (aI (hR h' σ.toks (λb o k=>hx b o (λq=>by rw[q,o8] at k;cases k) (D.hk _ _ k)) (e.1▸e.2▸D.hd.to λo k=>hx d o Il.symm k))))
 |cons p ps ih=>
  intro i ks vs σ D hd hR
  have hd:=ei hd
  refine gB (P:=λr=>us.toList.drop i=r->_) D.hp (λu r h1 k1 e=>?_) rfl
  have hx:=aaf e
  refine Z5 hz h1 λti pZ tn ku vu eu ht ID p6 hvb=>?_
  refine codeAny_builtin JD ?_
  rw[Ji Aa _]
  show ax _ A.in1 (lD (.ref I)>>= _) _ _ σ
  refine au (wpAny_pyNext_list_item D.hI (gm (D.hk _ _ hl)) hx.1 λh1 HU t5=>?_)
  have lZ:∀b o,h0.get? b=U o->h1.get? b=U o:=λb o e=>t5.extBut b o (λq=>by rw[q,o8] at e;cases e) (D.hk _ _ e)
  have D1:=D.hd.to λo e=>t5.extBut d o Il.symm e
  refine au (gN (au (wpAny_tryCatch ?_)))
  unfold dD.Dict.pairItems
  rw[eu]
  refine au (uT ⟨_,lZ _ _ ht,rfl⟩ ?_)
  show ax _ A.in1 (seqItems? (.ref ti)>>= _) _ _ _
  refine au (wpAny_seqItems (lZ _ _ ht) rfl (aI ?_))
  show ax _ A.in1 (match pZ.toList with|[k,v]=>_|l=>_) _ _ _
  rw[ID]
  refine gN ?_
  refine jn ((tC hd.1).put (it:=ah) (bq (eA (j9 ..)) hA) (λa o e=>lZ _ _ (hz _ _ e)) D1 rfl p6 hvb
   λh2 t zv k2 dj hd2 hE2 I1=>?_) (λj j e=>aI e) λj j e=>e.elim
  have jC:=EF (k:=p.1) (v:=p.2) (ks:=ks) (vs:=vs) rfl
  have mL:(nj p.1 p.2 ks vs (dJ p.1 ks)).1.length+ps.length<=sizeLine:=bf (uI jC _) (bf (eA (R6 ..)) D.hz)
  exact⟨plainId_quiet Aa _,ih ⟨hx.2.symm▸k1,λb o e=>dj b o (λq=>by rw[q,uh] at e;cases e) (lZ _ _ e),HU.imp λoi e=>⟨dj _ _ Il e.1,e.2⟩,λQ_ k_=>k_ d zv k2 rfl hd2 hE2 I1 D.hd.sys.1 (bf (fe _ _) mL),mL⟩ hd.2 λh' tk c1 c2=>hR h' tk c1 c2⟩
end
section
variable {w:aE}{K:aS}{mg mb:af->Option ae}{F:Fm}{s s':S}{g:Gh}{x:List ag}{σ σ':aw}{A:bj}{n:Nat}
theorem Base.low{h:az}(Ba:Base w K F.hb mg mb)(hb:∀a o,F.hb.get? a=U o->h.get? a=U o){a:ag}(ha:h.objs.size<=a):(a==kf)=false:=by
 obtain⟨o,e,_⟩:=kl.mp Ba.g
 have:=gy (hb _ _ e)
 refine beq_eq_false_iff_ne.mpr λq=>?_
 rw[q] at ha
 exact absurd (d9 this ha) (by decide)
theorem Ug(H:Full w F s g [] σ)(G:cU σ σ')(ha:σ.heap.get? a=aj)(hs:(a==kf)=ah)(e:σ'.heap.get? a=U (cB es m))(k:cn w g.z g.cs ks vs es.toList)(hn:ks.Nodup)(hl:ks.length<=bQ):
  cO w F g s (.dict ks vs) (.ref a) σ':=
 λQ_ k_=>k_ ({g with ρ:=g.ρ.put a (cB es m)}) ([]++[a]) ⟨Z.le_refl _,bz _,rfl,rfl,rfl⟩ (H.put G ha e) (cg.dict (Z.dp _ _ _) k ⟨hn,hs⟩ hl)
theorem x9{v:V}{x:List V}:V.tJ v=U x->v=V.tup x:=
 V.casesOn (motive_1:=λv=>V.tJ v=U x->v=V.tup x) v ay (λj=>ay) (λj=>ay) (λj=>ay) (λj=>ay) (λj=>ay) (λj=>ay) (λa=>λh=>aA h▸rfl) (λj=>ay) (λj j=>ay) (λj j j=>ay) (λj=>ay)
theorem Bv(h:yY l=U p):l=[p.1,p.2]:=by
 rcases l with _|⟨a,_|⟨b,_|⟨c,r⟩⟩⟩
 ·exact ay h
 ·exact ay h
 ·exact aA h▸rfl
 ·exact ay h
theorem Lq(h:v.asPair=U p):v=BN p:=(bN.mp h).elim λl q=>(x9 q.1).trans (congrArg V.tup (Bv q.2))
theorem Lo:∀{ps:List (V×V)},Bm xs=U ps->xs=ps.map BN:=by
 induction xs with
 |nil=>exact λh=>aA h▸rfl
 |cons v r ih=>exact λh=>(bN.mp h).elim λp q=>(dw.mp q.2).elim λl k=>by rw[<-k.2,ff,<-ih k.1,<-Lq q.1]
theorem SP(Ba:Base w K F.hb mg mb)(hA:cJ (n+1) A)(H:Full w F s g [] σ)(hl:σ.heap.get? l=U (bg us m))(hd:aF w g.z g.cs xs us.toList)(hp:Bm xs=U ps)
  (wU:nX ps [] []=U (ks,vs)) (hz:xs.length<=bQ):ax (ar ao w) A (call (.type "dict") [.ref l]) (cO w F g s (.dict ks vs)) aC σ:=by
 have RG:(σ.heap.objs.size==kf)=false:=Ba.low H.hb (aQ _)
 refine callType_codes (Q₁:=λobj d4=>obj=.ref σ.heap.objs.size/\d4={σ with heap:=σ.heap.push {cls:=.type "dict",data:=.dict #[]}}) PySem.F.kt_called_dict (PySem.F.kt_typeCall_dict_1 _) PySem.F.entry_dict_init (kt_code_dict_new _ ⟨rfl,rfl⟩) ?_
 rintro obj d4 ⟨rfl,rfl⟩
 have hD:(σ.heap.push {cls:=.type "dict",data:=.dict #[]}).get? σ.heap.objs.size=U (cB #[] 0):=eM _ rfl
 have qe:(σ.heap.push {cls:=.type "dict",data:=.dict #[]}).get? l=U (bg us m):=dX _ hl
 have lZ:∀b o,σ.heap.get? b=U o->(σ.heap.push {cls:=.type "dict",data:=.dict #[]}).get? b=U o:=λb o e=>dX _ e
 generalize σ.heap.push {cls:=.type "dict",data:=.dict #[]}=h1 at hD qe lZ ⊢
 have Rv:(({σ with heap:=h1}:aw)).TypeIs (.ref σ.heap.objs.size) "dict":=⟨_,hD,rfl⟩
 refine⟨Rv,PySem.F.args_dict_init_2 _ _,?_⟩
 unfold dD.«dict.__init__»
 refine au ?_
 unfold dD.Dict.selfAndRest
 refine au (wpAny_notOrdered_dict Rv ?_)
 show ax _ _ (pure (σ.heap.objs.size,[sR l])) _ _ _
 refine aI ?_
 show ax _ _ (R7 "dict.__init__" σ.heap.objs.size (.ref l) [] .none) _ _ _
 unfold R7
 refine au (uT ⟨_,qe,rfl⟩ ?_)
 rw[if_pos (by decide)]
 refine au (U7 hA.handled qe λh2 tk2 jy=>?_)
 simp only[Option.isNone_none,if_true]
 refine au (wpAny_rule (au (zZ (gm (jy _ _ qe)) ?_)))
 dsimp only
 have IZ:∀b o,h2.get? b=U o->(h2.push {cls:=.type "list_iterator",data:=.fields #[.ref l,.int 0 0]}).get? b=U o:=λb o e=>dX _ e
 have hI:(h2.push {cls:=.type "list_iterator",data:=.fields #[.ref l,.int 0 0]}).IsListIter h2.objs.size l 0:=⟨_,eM _ rfl,rfl,rfl⟩
 have Qg:σ.heap.objs.size<h2.objs.size:=gy (jy _ _ hD)
 generalize h2.push {cls:=.type "list_iterator",data:=.fields #[.ref l,.int 0 0]}=h3 at IZ hI ⊢
 refine aI ⟨plainId_quiet Aa _,?_⟩
 have rM:ps.length=xs.length:=(congrArg qL (Lo hp)).trans (aO _) |>.symm
 have Qv:σ.heap.get? σ.heap.objs.size=none:=kg
 have xd:aF w g.z g.cs (ps.map BN) (us.toList.drop 0):=Lo hp▸hd
 exact VD (A:=A.in1) hA.handled (bq (j9 ..▸gd (by decide:1+6<=20) _) hA.unit) H.zi hl (mh Qg) (zV (ee Qg)) Qv ps
  ⟨xd,λb o e=>IZ _ _ (jy _ _ (lZ _ _ e)),hI,λQ_ k_=>k_ _ _ _ rfl (IZ _ _ (jy _ _ hD)) .nil nU RG (eO _),by rw[rM];exact(fx _).symm▸hz⟩ wU λh' tk c1 c2=>⟨rfl,by
   refine c2 _ λa es n e0 e1 e2 e3 e4 e5=>?_
   cases e0;exact Ug H (σ':={σ with heap:=h',toks:=tk}) ⟨c1,rfl,rfl⟩ Qv RG e1 e2 e3 e5⟩
end
end
section
section
variable {w:aE}{K:aS}{mg mb:af->Option ae}{F:Fm}{s s':S}{g:Gh}{x:List ag}{σ σ':aw}{A:bj}{cx:Cx}{n:Nat}{G:bR}
inductive nA(w:aE)(z:Z)(cs:List ag)(h:az):List V->List ae->Prop
 |nil:nA w z cs h [] []
 |cons {v:V} {vs:List V} {y:ae} {ys:List ae} (k:bw w z cs h v y) (r:nA w z cs h vs ys):nA w z cs h (v::vs) (y::ys)
theorem vc(h:oq w g [] ys):ys=[]:=by cases h;rfl
theorem sO{P:List ae->Prop}{r:R}{rs:List R}{ys:List ae}(h:oq w g (r::rs) ys)(k:∀y q,cg w g r y []->oq w g rs q->P (y::q)):P ys:=by
 cases h with
 |cons a b=>exact k _ _ a b
theorem DZ{cs:List ag}{h:az}{P:List ae->Prop}{ys:List ae}(d:nA w z cs h (v::vs) ys)(k:∀y q,bw w z cs h v y->nA w z cs h vs q->P (y::q)):P ys:=by
 cases d with
 |cons a b=>exact k _ _ a b
theorem KL(d:nA w z cs h [] ys):ys=[]:=by cases d;rfl
theorem Lr(H:Full w F s g x σ):∀{vs:List V} {ys:List ae},vU s rs=U vs->oq w g rs ys->nA w g.z g.cs σ.heap vs ys:=by
 induction rs with
 |nil=>intro vs ys e h;rw[vc h,<-aA e];exact .nil
 |cons r rs ih=>
  intro vs ys e h
  refine sO h λy q a b=>(bN.mp e).elim λv p=>(dw.mp p.2).elim λus k=>?_
  exact k.2▸.cons (gp H a p.1) (ih k.1 b)
theorem Ki:∀{l:List Int},vW xs=U l->xs=l.map V.int:=by
 induction xs with
 |nil=>exact λh=>aA h▸rfl
 |cons v r ih=>exact λh=>(bN.mp h).elim λi q=>(dw.mp q.2).elim λl k=>by rw[<-k.2,ff,<-ih k.1,<-nZ q.1]
theorem D6:∀{vs:List ae},aF w z cs (l.map V.int) vs->dO vs l:=by
 induction l with
 |nil=>intro vs h;rw[iF h];exact .nil
 |cons i r ih=>exact λh=>gB (P:=λvs=>dO vs (i::r)) h λy q a b=>a.inv.elim λt e=>e▸.cons _ _ (ih b)
theorem El(h:dO vs l):aF w z cs (l.map V.int) vs:=by
 induction h with
 |nil=>exact .nil
 |cons _ _ _ ih=>exact .cons (.int _ _) ih
theorem insI_perm(i:Int)(l:List Int):(insI i l).Perm (i::l):=by
 induction l with
 |nil=>exact .refl _
 |cons j r ih=>
  unfold insI
  split
  ·exact .refl _
  ·exact(ih.cons j).trans (.swap i j r)
theorem sortI_perm(l:List Int):(sortI l).Perm l:=by
 induction l with
 |nil=>exact .refl _
 |cons i r ih=>exact(insI_perm i _).trans (ih.cons i)
theorem TN(i:Int)(h:l.Pairwise (·<=·)):(insI i l).Pairwise (·<=·):=by
 induction l with
 |nil=>exact su _ _
 |cons j r ih=>
  have h1:=lg.mp h
  unfold insI
  split
  ·rename_i q
   exact lg.mpr ⟨λy hy=>(cf.mp hy).elim (λe=>e▸fy q) λhy=>gO (fy q) (h1.1 y hy),h⟩
  ·rename_i q
   exact lg.mpr ⟨λy hy=>(cf.mp ((insI_perm i r).mem_iff.mp hy)).elim (λe=>e▸gA.mp q) (h1.1 y),ih h1.2⟩
theorem DH(l:List Int):(sortI l).Pairwise (·<=·):=by
 induction l with
 |nil=>exact .nil
 |cons i r ih=>exact TN i ih
theorem Nt{a b:List Int}(p:a.Perm b)(ha:a.Pairwise (·<=·))(hb:b.Pairwise (·<=·)):a=b:=p.eq_of_pairwise (λj j j j h k=>JH h k) ha hb
theorem cU.fresh(G:cU σ σ')(h:σ'.heap.objs.size<=a):σ.heap.get? a=none:=by
 cases e:σ.heap.get? a with
 |none=>rfl
 |some o=>exact absurd (gy (G.heap _ _ e)) (iD.mpr h)
theorem y5.mono{R R':jq->aw->Prop}{fin:AF}(h:y5 w A R fin σ)(k:∀r s',R r s'->R' r s'):y5 w A R' fin σ:=by
 induction fin with
 |done f=>exact k _ _ h
 |again c=>exact⟨h.1,ka h.2 k⟩
def Lz(σ:aw)(P:List ae->Prop)(r:jq)(s':aw):Prop:=∀C:Prop,(∀(xs:Array ae) (c:Nat) (e:r=.ok (.ret (.ref σ.heap.objs.size))) (G:cU σ s') (h:s'.heap.get? σ.heap.objs.size=U (bg xs c)) (p:P xs.toList),C)->C
def xZ(σ:aw)(l:List Int)(xs:List ae)(s1:aw):Prop:=∀C:Prop,(∀(l':List Int) (hp:l'.Perm l) (hI:dO xs l') (G:cU σ s1),C)->C
theorem Kr(h:ax (ar ao w) A.in1 (dD.List.listExtendWith (.ref σ.heap.objs.size) y (.ref σ.heap.objs.size)) (y5 w A (Lz σ λxs=>∃l',l'.Perm l/\dO xs l')) (λe s'=>Lz σ (λxs=>∃l',l'.Perm l/\dO xs l') (.error e) s')
  {σ with heap:=σ.heap.push {cls:=.type "list",data:=.seq ([]:List ae).toArray}}):ax (ar ao w) A (collect y) (xZ σ l) aC σ:=by
 refine au<|wpAny_runValue<|rf F.entry_proto_collect F.plain_proto_collect<|au<|lh<|aI ⟨plainId_quiet F.plain_list_iadd _,rf F.entry_list_iadd F.plain_list_iadd<|jn h (λfin s' hf=>hf.mono λr s'' k=>?_) λe s' k=>?_⟩
 ·exact k _ λxs c e G h1 p=>p.elim λl' p=>e▸au (wpAny_load h1 (aI (λQ_ k_=>k_ l' p.1 p.2 G)))
 ·exact k _ λxs c e=>nomatch e
theorem J5(hT:T="list"\/T="tuple")(e:σ.heap.get? p=U ⟨.type T,aj,.seq vs m,#[]⟩)(hI:dO vs.toList l)(hz:vs.size<=bQ):
  ax (ar ao w) A (collect (.ref p)) (xZ σ l) aC σ:=
 wpAny_collect_seq p hT e rfl rfl λh' hk Q_ k_=>k_ l (.refl _) hI ⟨hk,rfl,rfl⟩
theorem VM{ks:List (Int×ae)}:∀{xs:List ae},xs.length=ks.length->(∀(j:Nat) (v:ae),xs[j]?=U v->∃(k:Int) (x:ae),ks[j]?=U (k,x)/\(iG ao w).is k v=J)->dO xs (ks.map (·.1)):=by
 induction ks with
 |nil=>intro xs hl _;rw[pg.mp hl];exact .nil
 |cons k ks ih=>
  intro xs hl hj
  induction xs with
  |nil=>exact nomatch hl
  |cons x r=>
   refine(hj 0 x rfl).elim λk0 h=>h.elim λx0 h=>?_
   have e:k=(k0,x0):=aA h.1
   refine(ae.isInt_shape h.2).elim λt ht=>?_
   rw[ht,e]
   exact .cons _ _ (ih (Ak hl) λj v e=>hj (j+1) v e)
theorem Tx(hh:A.handled=aj){d:ag}(hd:(d==kf)=ah){kvs:List (Int×ae)}(h:σ.heap.DictOf (iG ao w) d kvs)(hz:kvs.length<=bQ):
  ax (ar ao w) A (collect (.ref d)) (xZ σ (kvs.map (·.1))) aC σ:=
 h.dictAt.elim λep hm=>by
  have KD:=kdl_dict (knd:=iG ao w) (kvs:=kvs) (ep:=ep) hd
  have cX:=KD.there _ hm
  exact Kr (kdl_extend
   KD hh (KD.keep _ _ hm λb y o e=>dX _ e) _ (mh cX.1) (mh cX.2) (.ref σ.heap.objs.size) 0 (eM _ rfl)
   (λh' tk acc' c' hk zE oR Q_ k_=>k_ acc' c' rfl ⟨λb o e=>hk b o (hJ (gy e)) (dX _ e),rfl,rfl⟩ zE ⟨_,.refl _,VM (by rw[fO];exact oR.1) λj v e=>oR.2 j v (by rw[<-dG];exact e)⟩) hz)
def SortedTo(σ:aw)(l:List Int)(a:ag)(σ':aw):Prop:=∀C:Prop,(∀(out:Array ae) (e:Nat) (h1:cU σ σ') (h2:σ.heap.get? a=aj) (h3:σ'.heap.get? a=U (bg out e)) (h4:dO out.toList (sortI l)),C)->C
theorem Ap(hc:ax (ar ao w) A.in1 (collect y) (xZ σ l) aC σ)(dy:l.length<64)(h:∀(σ':aw) (a:ag),SortedTo σ l a σ'->Q (.ref a) σ'):
  ax (ar ao w) A (call (.builtin "sorted") [y]) Q aC σ:=by
 refine Calls.call_function_entry kind_sorted plain_sorted entry_sorted (args_sorted1 _)<|au<|kc rfl<|au<|aW hc λxs s1 hx=>?_
 refine hx _ λl' hp hI G=>?_
 have ahs:xs.length<64:=by rw[hI.length,hp.length_eq];exact dy
 have wQ:(s1.heap.push (i7 "list" xs.toArray 0)).get? s1.heap.objs.size=U (i7 "list" xs.toArray 0):=eM _ rfl
 have old:∀(out:Array ae) b o,s1.heap.get? b=U o->(sortedHeap (s1.heap.push (i7 "list" xs.toArray 0)) s1.heap.objs.size xs out).get? b=U o:=λout b o q=>
  have cX:=gy q
  (sortedHeap_old (hJ cX) (by rw[size_push'];exact xu cX)).trans ((az.get?_push_ne _ _ _ (hJ cX)).trans q)
 refine au<|wpAny_newList<|au<|gN<|qG slot_list_sort ⟨_,wQ,rfl⟩ entry_list_sort (list_sort_tree wQ hI ahs λout C1 a1 a2 a3=>⟨_,rfl,?_⟩) (args_list_sort _)
 exact(sortedHeap_at wQ).elim λe he=>aI ⟨_,rfl,h _ _ (λQ_ k_=>k_ out e ⟨λb o q=>old out b o (G.heap b o q),G.gens,G.os⟩ (G.fresh (aQ _)) he (Nt ((a2.trans hp).trans (sortI_perm l).symm) a3 (DH l)▸a1))⟩
theorem bw.ty(k:bw w z cs h (.ty i) y):y=.type i:=(k.wj rfl).inv
theorem yw{cs:List ag}{h:az}{ys:List ae}{α:Type}{f:V->Option α}{r:α}{P:List ae->Prop}(d:nA w z cs h as ys)(e:(wi as).bind f=U r)(k:∀v y,bw w z cs h v y->f v=U r->P [y]):P ys:=by
 rcases as with _|⟨v,_|⟨u,q⟩⟩
 ·exact ay e
 ·exact DZ d λy q a b=>KL b▸k v y a e
 ·exact ay e
theorem Fi{cs:List ag}{h:az}{ys:List ae}{α:Type}{f:V×V->Option α}{r:α}{P:List ae->Prop}(d:nA w z cs h as ys)(e:(Cu as).bind f=U r)(k:∀v u y t,bw w z cs h v y->bw w z cs h u t->f (v,u)=U r->P [y,t]):P ys:=by
 rcases as with _|⟨v,_|⟨u,_|⟨v3,q⟩⟩⟩
 ·exact ay e
 ·exact ay e
 ·exact DZ d λy q a b=>DZ (P:=λq=>P (y::q)) b λt q b c=>KL c▸k v u y t a b e
 ·exact ay e
theorem ab7(H:Full w F s g [] σ)(h:bw w g.z g.cs σ.heap v y)(e:v.len=U r):ax (ar ao w) A (call (.builtin "len") [y]) (cO w F g s r) aC σ:=by
 cases v with
 |list xs=>
  exact h.isList H.zi _ λp vs m e0 e1 e2 e3=>e0▸len_list (gm e1) (by have:=Cg (e2.size▸e3);omega) (by rw[<-e2.size];exact pG H (aA e) _ _)
 |tup xs=>
  exact h.isTup H.zi _ λp vs m e0 e1 e2 e3=>e0▸len_tuple (pq e1) (by have:=Cg (e2.size▸e3);omega) (by rw[<-e2.size];exact pG H (aA e) _ _)
 |_=>exact ay e
theorem abH(H:Full w F s g [] σ)(h:bw w g.z g.cs σ.heap v y)(e:v.Qq=U b):ax (ar ao w) A (call (.builtin "isinstance") [y,.type "bool"]) (cO w F g s (.val (.bool b))) aC σ:=by
 have fin:∀t,cO w F g s (.val (.bool b)) (.bool b) {σ with toks:=t}:=λt=>ib (H.toks _) (.bool _)
 cases v with
 |bool c=>exact h.bool▸IsiPair.bool_bool ((aA e:J=b)▸fin σ.toks)
 |none=>exact h.none▸IsiPair.NoneType_bool ((aA e:ah=b)▸fin _)
 |int i=>exact h.int.elim λt q=>q▸IsiPair.int_bool ((aA e:ah=b)▸fin _)
 |str i=>exact h.str.elim λt q=>q▸IsiPair.str_bool ((aA e:ah=b)▸fin _)
 |tup xs=>
  exact h.isTup H.zi _ λp vs m e0 e1 e2 e3=>e0▸IsiPair.tuple_bool e1 rfl ((aA e:ah=b)▸fin _)
 |list xs=>
  exact h.isList H.zi _ λp vs m e0 e1 e2 e3=>e0▸IsiPair.list_bool e1 rfl ((aA e:ah=b)▸fin _)
 |dict ks vs=>
  exact h.tm H.zi _ λp es m e0 e1 e2 e3 e4 e5=>e0▸IsiPair.dict_bool e1 rfl ((aA e:ah=b)▸fin _)
 |_=>exact ay e
theorem aas{v:V}:v.Hf=J->v=.ty "bool":=
 V.casesOn (motive_1:=λv=>v.Hf=J->v=.ty "bool") v bo (λj=>bo) (λj=>bo) (λj=>bo) (λj=>bo) (λj=>bo) (λa=>λh=>congrArg V.ty (of_decide_eq_true h)) (λj=>bo) (λj=>bo) (λj j=>bo) (λj j j=>bo) (λj=>bo)
theorem W9(hA:cJ (n+1) A)(H:Full w F s g [] σ)(h:bw w g.z g.cs σ.heap v y)(e:O1 v=U r):ax (ar ao w) A (call (.builtin "sorted") [y]) (cO w F g s r) aC σ:=by
 refine(bN.mp e).elim λxs q=>(bN.mp q.2).elim λl q2=>?_
 have q3:=ye q2.2
 have HV:=Ki q2.1
 have dy:∀{n:Nat},n=l.length->n<=sizeLine:=λhn=>bf (ee (hn▸q3.1)) (by decide)
 have fin:∀(σ':aw) (a:ag),SortedTo σ l a σ'->cO w F g s r (.ref a) σ':=fun σ' a h=>by
  exact h _ λout e G ha ho hI=>q3.2▸xO H G ha ho (El hI) (dy (by rw[<-fO,hI.length,(sortI_perm l).length_eq]))
 cases v with
 |list ys=>
  exact h.isList H.zi _ λp vs m e0 e1 e2 e3=>e0▸Ap (J5 (.inl rfl) e1 (D6 (HV▸aA q.1▸e2)) (e2.size▸e3)) q3.1 fin
 |tup ys=>
  exact h.isTup H.zi _ λp vs m e0 e1 e2 e3=>e0▸Ap (J5 (.inr rfl) e1 (D6 (HV▸aA q.1▸e2)) (e2.size▸e3)) q3.1 fin
 |dict ks ws=>
  have Cy:ks=l.map V.int:=(aA q.1).trans HV
  subst Cy
  have D:=h.tm H.zi
  refine D _ λp es m e0 e1 e2 e3 e4 e5=>?_
  subst e0
  exact vb encInt (λQ_ k_=>k_ p es m rfl e1 e2 e3 e4 e5) λkvs hd f2 f3=>Ap (f2▸Tx (A:=A.in1) hA.handled e4 hd (dy (by rw[<-f2,aO]))) q3.1 fin
 |_=>exact ay q.1
theorem Ul(hA:cJ (n+1) A)(H:Full w F s g [] σ){id:String}{ys:List ae}{r:R}(hd:nA w g.z g.cs σ.heap as ys)(e:AY id as=U r):ax (ar ao w) A (call (.builtin id) ys) (cO w F g s r) aC σ:=by
 unfold AY at e
 by_cases c:id="len"
 ·rw[if_pos c] at e;exact c▸yw (P:=λys=>ax (ar ao w) A (call (.builtin "len") ys) (cO w F g s r) aC σ) hd e λv y h e=>ab7 H h e
 rw[if_neg c] at e
 by_cases c:id="isinstance"
 ·rw[if_pos c] at e
  exact c▸Fi (P:=λys=>ax (ar ao w) A (call (.builtin "isinstance") ys) (cO w F g s r) aC σ) hd e λv u y t h k e=>(dw.mp (ei e).2).elim λb q=>((show u=V.ty "bool" from aas (ei e).1)▸k).ty▸q.2▸abH H h q.1
 rw[if_neg c] at e
 by_cases c:id="min"
 ·rw[if_pos c] at e
  exact c▸Fi (P:=λys=>ax (ar ao w) A (call (.builtin "min") ys) (cO w F g s r) aC σ) hd e λv u y t h k e=>ni h k e λi j t1 t2 h1 h2 h3=>h1▸h2▸H.locals.elim λm L=>L.elim λo L=>
   min_two_N hA.handled (EB L.1) (DR _ _) λh' tk hF hN=>by
    exact H.moved L.2.2 (LI hF hN (λp hp=>hp) (t:=tk)) _ λg' a1 a2 a3 _ a4=>(pG a4 (aA h3) _ _).le a1
 rw[if_neg c] at e
 by_cases c:id="max"
 ·rw[if_pos c] at e
  exact c▸Fi (P:=λys=>ax (ar ao w) A (call (.builtin "max") ys) (cO w F g s r) aC σ) hd e λv u y t h k e=>ni h k e λi j t1 t2 h1 h2 h3=>h1▸h2▸H.locals.elim λm L=>L.elim λo L=>
   max_two_N hA.handled (EB L.1) (DR _ _) λh' tk hF hN=>by
    exact H.moved L.2.2 (LI hF hN (λp hp=>hp) (t:=tk)) _ λg' a1 a2 a3 _ a4=>(pG a4 (aA h3) _ _).le a1
 rw[if_neg c] at e
 have q:=ei e
 exact q.1▸yw (P:=λys=>ax (ar ao w) A (call (.builtin "sorted") ys) (cO w F g s r) aC σ) hd q.2 λv y h e=>W9 hA H h e
theorem XU(H:Full w F s g [] σ)(h:bw w g.z g.cs σ.heap v y)(e:v.items=U r):ax (ar ao w) A (call (.type "list") [y]) (cO w F g s r) aC σ:=by
 cases v with
 |list xs=>
  exact h.isList H.zi _ λp vs m e0 e1 e2 e3=>e0▸aA e▸call_list_seq (hsz:=e2.size▸e3) p (.inl rfl) e1 rfl rfl λh' c' hk hD=>xO H (σ':={σ with heap:=h'}) ⟨hk,rfl,rfl⟩ kg hD e2 (e2.size▸e3)
 |tup xs=>
  exact h.isTup H.zi _ λp vs m e0 e1 e2 e3=>e0▸aA e▸call_list_seq (hsz:=e2.size▸e3) p (.inr rfl) e1 rfl rfl λh' c' hk hD=>xO H (σ':={σ with heap:=h'}) ⟨hk,rfl,rfl⟩ kg hD e2 (e2.size▸e3)
 |_=>exact ay e
theorem adA(H:Full w F s g [] σ)(h:bw w g.z g.cs σ.heap v y)(e:v.toI=U r):ax (ar ao w) A (call (.type "int") [y]) (cO w F g s r) aC σ:=by
 cases v with
 |int i=>exact h.int.elim λt q=>q▸call_int_int (aA e▸ib H (.int _ _))
 |_=>exact ay e
theorem Yd(Ba:Base w K F.hb mg mb)(hA:cJ (n+1) A)(H:Full w F s g [] σ)(h:bw w g.z g.cs σ.heap v y)(e:O8 v=U r):ax (ar ao w) A (call (.type "dict") [y]) (cO w F g s r) aC σ:=
 (bN.mp e).elim λxs q=>(bN.mp q.2).elim λps q2=>(dw.mp q2.2).elim λp q3=>by
  exact(px q.1▸h).isList H.zi _ λa vs m e0 e1 e2 e3=>e0▸q3.2▸SP Ba hA H e1 e2 q2.1 q3.1 e3
theorem WZ(Ba:Base w K F.hb mg mb)(hA:cJ (n+1) A)(H:Full w F s g [] σ){id:String}{ys:List ae}{r:R}(hd:nA w g.z g.cs σ.heap as ys)(e:BO id as=U r):ax (ar ao w) A (call (.type id) ys) (cO w F g s r) aC σ:=by
 unfold BO at e
 by_cases c:id="list"
 ·rw[if_pos c] at e;exact c▸yw (P:=λys=>ax (ar ao w) A (call (.type "list") ys) (cO w F g s r) aC σ) hd e λv y h e=>XU H h e
 rw[if_neg c] at e
 by_cases c:id="int"
 ·rw[if_pos c] at e;exact c▸yw (P:=λys=>ax (ar ao w) A (call (.type "int") ys) (cO w F g s r) aC σ) hd e λv y h e=>adA H h e
 rw[if_neg c] at e
 have q:=ei e
 exact q.1▸yw (P:=λys=>ax (ar ao w) A (call (.type "dict") ys) (cO w F g s r) aC σ) hd q.2 λv y h e=>Yd Ba hA H h e
end
end
section
section
variable {w:aE}{K:aS}{mg mb:af->Option ae}{F:Fm}{s s':S}{g:Gh}{x:List ag}{σ σ':aw}{A:bj}{cx:Cx}{n:Nat}{ih:I}{G:bR}
theorem ZG{n a o1 o2 o3 b c:List ag}{p:ag}(h:(n++a++b++(o1++o2++o3)++c).Nodup)(hp:p∈o2):p∉n/\p∉o1/\p∉o3/\p∉a/\p∉b/\p∉c:=by
 have e:n++a++b++(o1++o2++o3)++c=(n++a++b++o1)++(o2++(o3++c)):=by simp only[aN]
 rw[e] at h
 have h1:=cM.mp h
 have h2:=cM.mp h1.2.1
 have f:∀{l},p∈l->l ⊆ n++a++b++o1->False:=λq k=>h1.2.2 p (k q) p (bp _ hp) rfl
 have r:∀{l},p∈l->l ⊆ o3++c->False:=λq k=>h2.2.2 p hp p (k q) rfl
 exact⟨λq=>f q λj k=>bp _ (bp _ (bp _ k)),λq=>f q λj k=>cy _ k,λq=>r q λj k=>bp _ k,
  λq=>f q λj k=>bp _ (bp _ (cy _ k)),λq=>f q λj k=>bp _ (cy _ k),λq=>r q λj k=>cy _ k⟩
theorem dr.own(h:dr w g.z g.cs g.ρ sl (.ref a) o)(HY:∀v,sl≠.val v):o=[a]/\∃ob,g.ρ a=U ob:=by
 cases h with
 |val h=>exact absurd rfl (HY _)
 |list h k l=>exact⟨rfl,_,h⟩
 |dict h k n l=>exact⟨rfl,_,h⟩
theorem Full.MW(H:Full w F s g x σ)(q:lk y s.vars=U sl)(hy:lk y g.vl=U (.ref a))(HY:∀v,sl≠.val v)
  (hs:∀b ob,b≠a->σ.heap.get? b=U ob->σ'.heap.get? b=U ob) (he:σ'.heap.get? a=U o') (hg:σ'.gens=σ.gens) (ho:σ'.os=σ.os) (hk:dr w g.z g.cs (g.ρ.put a o') fv (.ref a) [a]):
  Full w F (s.set y fv) {g with ρ:=g.ρ.put a o'} x σ':=by
 refine H.vars.get q _ λu o1 o2 o3 e1 e2 e3 e4=>?_
 have eu:u=.ref a:=aA (e1.symm.trans hy)
 subst eu
 have h2:=e2.own HY
 have hA:=LV (h2.1▸e3▸H.nd)
 have hx:a∉x:=λq=>(cM.mp (e3▸H.nd)).2.2 a (bp _ (bp _ (cy _ (bp _ (cy _ (h2.1▸.head _)))))) a q rfl
 have hv:=e4 g.z g.cs (g.ρ.put a o') fv [a] (Z.le_refl _) (bz _) hk (Z.iH hA.h1) (Z.iH hA.h3)
 have CW:o1++[a]++o3=g.ov:=(e3.trans (by rw[h2.1])).symm
 exact h2.2.elim λo ha=>H.t4 ha hs he hg ho hA.hn (CW▸hv) (H.bX.mono (Z.le_refl _) (bz _) (Z.iH hA.ht)) (H.mem.mono (Z.le_refl _) (bz _) (Z.iH hA.hm)) rfl H.nd H.yx
theorem Full.EN(H:Full w F s g x σ){m m':M}{a p:ag}{o':aP}(q:s.mem[i]?=U m)(hy:g.cs[i]?=U a)(hm:∀os,de w g.z g.cs g.ρ m a os->p∈os/\de w g.z g.cs (g.ρ.put p o') m' a os)
  (hs:∀b ob,b≠p->σ.heap.get? b=U ob->σ'.heap.get? b=U ob) (he:σ'.heap.get? p=U o') (hg:σ'.gens=σ.gens) (ho:σ'.os=σ.os):
  Full w F {s with mem:=s.mem.set i m'} {g with ρ:=g.ρ.put p o'} x σ':=by
 refine H.mem.get q _ λu o1 o2 o3 e1 e2 e3 e4=>?_
 have eu:u=a:=aA (e1.symm.trans hy)
 subst eu
 have hk:=hm o2 e2
 have hA:=ZG (e3▸H.nd) hk.1
 have hv:=e4 g.z g.cs (g.ρ.put p o') m' o2 (Z.le_refl _) (bz _) hk.2 (Z.iH hA.2.1) (Z.iH hA.2.2.1)
 exact(e2.eY p hk.1).elim λo ha=>H.t4 ha hs he hg ho hA.1 (H.vars.mono (Z.le_refl _) (bz _) (Z.iH hA.2.2.2.1)) (H.bX.mono (Z.le_refl _) (bz _) (Z.iH hA.2.2.2.2.1)) (e3▸hv) rfl H.nd H.yx
theorem Vm(hp:qS o=J)(hl:(apos.endLine==pos.line)=J)(hn:args.length<30)
  (d6:(i8 pos (gC args env)).any (·.1)=ah)
  (h:ax (ar ao w) A (eval o env) (λov s1=>ax (ar ao w) A (getMethod ov name (do return (<-importBound o env).getD J)) (λfr s2=>ax (ar ao w) A (sS pos fr.1 fr.2 (i8 pos (gC args env)) []) Q aC s2) aC s1) aC σ):
  ax (ar ao w) A (eval (.Call (.Attribute o name apos) args [] pos) env) Q aC σ:=by
 rw[arm_eval_Call,Jo hp]
 refine au (aW h λov s1 h1=>au (wpAny_standAt ?_))
 have afG:methodCallForm (args.length+([]:List vp).length) (i8 pos (gC args env)) (backToKw pos (keywordEach [] env))=true:=by
  unfold methodCallForm
  have h1:(i8 pos (gC args env)).all (!·.1)=true:=by
   rw[List.all_eq_not_any_not]
   simp only[An]
   rw[d6];rfl
  have h2:(backToKw pos (keywordEach [] env)).all (·.1.isSome)=true:=rfl
  rw[h1,h2]
  show(J&&J&&aJ (args.length+0+0<30))=J
  simpa using hn
 have v5:methodCallPos J o env apos pos=pure pos:=by unfold methodCallPos;simp [hl]
 unfold methodCall
 rw[afG]
 refine au (gN (aW h1 λfr s2 h2=>?_))
 obtain⟨f,first⟩:=fr
 exact au (kc v5 h2)
theorem Vk{p:ag}{vs:Array ae}{name:af}{id:String}{pl:Sem Bool}(e:σ.heap.get? p=U (bg vs m))(slot:Slot "list" name id)(Hu:typeOf (.builtin id)=pure (.type "method_descriptor")){Q:ae×List ae->aw->Prop}(h:Q (.builtin id,[.ref p]) σ):
  ax (ar ao w) A (getMethod (.ref p) name pl) Q aC σ:=
 getMethod_builtin ⟨_,e,rfl⟩ F.plainAttrs_list slot Hu (λa q=>by cases q;exact⟨_,e,rfl⟩) h
theorem Vz{p:ag}{vs:Array cm}{name:af}{id:String}{pl:Sem Bool}(e:σ.heap.get? p=U (cB vs m))(slot:Slot "dict" name id)(Hu:typeOf (.builtin id)=pure (.type "method_descriptor")){Q:ae×List ae->aw->Prop}(h:Q (.builtin id,[.ref p]) σ):
  ax (ar ao w) A (getMethod (.ref p) name pl) Q aC σ:=
 getMethod_builtin ⟨_,e,rfl⟩ F.plainAttrs_dict slot Hu (λa q=>by cases q;exact⟨_,e,rfl⟩) h
theorem aF.eraseIdx:∀{x:List ae} (i:Nat),aF w z cs v x->aF w z cs (v.eraseIdx i) (x.eraseIdx i):=by
 induction v with
 |nil=>intro x i h;rw[iF h];exact .nil
 |cons a r ih=>
  intro x i h
  refine gB (P:=λx=>aF w z cs ((a::r).eraseIdx i) (x.eraseIdx i)) h λy q b c=>?_
  induction i with
  |zero=>exact c
  |succ i=>exact .cons b (ih i c)
end
end
section
section
variable {w:aE}{K:aS}{mg mb:af->Option ae}{F:Fm}{s s':S}{g:Gh}{x:List ag}{σ σ':aw}{A:bj}{cx:Cx}{n:Nat}{G:bR}
noncomputable def jJ(F:Fm)(l:List ag)(a:ag):Bool:=!decide (a∈F.tab::l)
noncomputable abbrev nu(F:Fm)(ρ:Z)(l:List ag):Fm:=F.er (jJ F l) ρ
theorem AD(h:a∈F.tab::l):jJ F l a=false:=by unfold jJ;rw[decide_eq_true h];rfl
theorem Ku(h:a∉F.tab::l):jJ F l a=true:=by unfold jJ;rw[decide_eq_false h];rfl
theorem Full.afO(H:Full w F s g x σ):g.om.Nodup:=(cM.mp (cM.mp H.nd).1).2.1
theorem Full.Ob(H:Full w F s g x σ):(F.tab::g.om).Nodup:=eN.mpr ⟨H.BE Fm.yt,H.afO⟩
theorem Full.lend(H:Full w F s g x σ)(hm:dT w g.z cs (iI (jJ F l) g.ρ) m cs l)(wL:(F.tab::l).Nodup):dN w (nu F g.ρ l) m g.z (iI (jJ F l) g.ρ) cs l σ:=
 ⟨H.toReg.er _,H.tb.mono (Z.le_refl _) (xY (AD (.head _))),hm,wL⟩
theorem Full.half(H:Full w F s g x σ):dN w (nu F g.ρ g.om) s.mem g.z (iI (jJ F g.om) g.ρ) g.cs g.om σ:=
 H.lend (H.mem.mono (Z.le_refl _) (bz _) λb hb=>xY (AD (.tail _ hb))) H.Ob
theorem Full.apart(H:Full w F s g x σ):dN w (nu F g.ρ []) [] g.z (iI (jJ F []) g.ρ) [] [] σ:=
 H.lend .nil (eN.mpr ⟨uN,nU⟩)
def Back(w:aE)(F:Fm)(s':S)(g:Gh)(z':Z)(aV:List ag)(σ':aw):Prop:=∀C:Prop,(∀(g':Gh) (h1:g.le g') (h2:g'.z=z') (h3:g'.cs=aV) (h4:Full w F s' g' [] σ'),C)->C
theorem Full.Ek(H:Full w F s g x σ)(hb:b∈F.bh.locals::F.bh.cells.map (·.2)++(if F.comp then[F.env.locals] else[])):b∈F.ns/\b≠F.tab:=by
 have h:=H.rH
 unfold Fm.ns at h ⊢
 exact⟨bp _ hb,(cM.mp h).2.2 b hb _ (.head _)⟩
theorem Full.Mx(H:Full w F s g x σ)(hb:b∈F.ns++g.ov++g.ot++g.om++x)(h1:b∉F.tab::l):ig (jJ F l) g.ρ ρ' b=g.ρ b:=
 (H.eY b hb).elim λo e=>(D8 (Ku h1) e).trans e.symm
theorem Full.A2(H:Full w F s g x σ)(hl:∀b∈l,b∈g.om)(hb:b∈F.bh.locals::F.bh.cells.map (·.2)++(if F.comp then[F.env.locals] else[])):ig (jJ F l) g.ρ ρ' b=g.ρ b:=
 H.Mx (BD (H.Ek hb).1) λq=>(cf.mp q).elim (H.Ek hb).2 λq=>H.BE (H.Ek hb).1 (hl b q)
theorem Full.yj(H:Full w F s g x σ){l k:List ag}(hl:∀b∈l,b∈g.om)(hk:∀b∈k,b∈g.ov++g.ot++g.om++x)(h2:∀b∈k,b∉g.om\/l=[]):∀b∈k,ig (jJ F l) g.ρ ρ' b=g.ρ b:=λb hb=>by
 refine H.Mx ?_ λq=>(cf.mp q).elim (λq=>?_) λq=>?_
 ·have:=hk b hb
  simp only[aN] at this ⊢
  exact cy _ this
 ·exact H.rq Fm.yt hk (q▸hb)
 ·exact(h2 b hb).elim (λh=>h (hl b q)) λh=>by rw[h] at q;cases q
theorem Full.Oo(H:Full w F s g x σ)(h:b∈g.ov\/b∈g.ot\/b∈x):b∉g.om:=λhm=>by
 have h1:=cM.mp H.nd
 have h2:=cM.mp h1.1
 rcases h with h|h|h
 ·exact h2.2.2 b (bp _ (cy _ h)) b hm rfl
 ·exact h2.2.2 b (cy _ h) b hm rfl
 ·exact h1.2.2 b (cy _ hm) b h rfl
theorem FL{a b c d:List ag}:∀y∈a,y∈a++b++c++d:=λj h=>bp _ (bp _ (bp _ h))
theorem Fq{a b c d:List ag}:∀y∈b,y∈a++b++c++d:=λj h=>bp _ (bp _ (cy _ h))
theorem Oj{a b c d:List ag}:∀y∈c,y∈a++b++c++d:=λj h=>bp _ (cy _ h)
theorem Full.back(H:Full w F s g [] σ){m':List M}{aV fo:List ag}(hz:Z.le g.z z')(hc:pre g.cs aV)(B:dN w (nu F g.ρ g.om) m' z' ρ' aV fo σ'):Back w F {s with mem:=m'} g z' aV σ':=by
 have hl:∀b∈g.om,b∈g.om:=λj h=>h
 have new:∀b∈fo,ig (jJ F g.om) g.ρ ρ' b=ρ' b:=λb hb=>(B.mem.eY b hb).elim λo e=>H.toReg.KU B.toReg e
 refine λQ_ k_=>k_ ({g with z:=z',cs:=aV,ρ:=ig (jJ F g.om) g.ρ ρ',om:=fo}) ⟨hz,hc,rfl,rfl,rfl⟩ rfl rfl ⟨H.toReg.ig B.toReg,⟨H.loc.on λb hb=>H.A2 hl (bp _ hb),B.tb.mono (Z.le_refl _) (DU (AD (.head _))),
  λq=>(H.cmp q).on λj e=>(H.A2 hl (cy _ (by rw[if_pos q];exact .head _))).trans e,H.vars.mono hz hc (H.yj hl FL λb hb=>.inl (H.Oo (.inl hb))),H.bX.mono hz hc (H.yj hl Fq λb hb=>.inl (H.Oo (.inr (.inl hb)))),
  B.mem.mono (Z.le_refl _) (bz _) new,H.cv.mono hz hc,?_,λb hb=>dq hb⟩⟩
 have h1:=cM.mp (cM.mp H.nd).1
 show(F.ns++g.ov++g.ot++fo++[]).Nodup
 rw[bx]
 refine cM.mpr ⟨h1.1,(eN.mp B.nd).2,λa ha b hb e=>?_⟩
 subst e
 have ht:a≠F.tab:=λq=>(eN.mp B.nd).1 (q▸hb)
 have hm:a∉F.tab::g.om:=λq=>(cf.mp q).elim ht λq=>h1.2.2 a ha a q rfl
 exact(B.mem.eY a hb).elim λo e=>(H.eY a (bp _ (bp _ ha))).elim λo2 e2=>absurd ((H.toReg.apart B.toReg e (Ku hm)).symm.trans e2) ay
theorem Full.Kj(H:Full w F s g [] σ){m':List M}{aV fo:List ag}(hz:Z.le g.z z')(B:dN w (nu F g.ρ []) m' z' ρ' aV fo σ'):Back w F s g z' g.cs σ':=
 have hl:∀b∈[],b∈g.om:=λj h=>dq h
 (λQ_ k_=>k_ ({g with z:=z',ρ:=ig (jJ F []) g.ρ ρ'}) ⟨hz,bz _,rfl,rfl,rfl⟩ rfl rfl ⟨H.toReg.ig B.toReg,⟨H.loc.on λb hb=>H.A2 hl (bp _ hb),B.tb.mono (Z.le_refl _) (DU (AD (.head _))),
  λq=>(H.cmp q).on λj e=>(H.A2 hl (cy _ (by rw[if_pos q];exact .head _))).trans e,H.vars.mono hz (bz _) (H.yj hl FL λb hb=>.inr rfl),H.bX.mono hz (bz _) (H.yj hl Fq λb hb=>.inr rfl),
  H.mem.mono hz (bz _) (H.yj hl Oj λb hb=>.inr rfl),H.cv.mono hz (bz _),H.nd,λb hb=>dq hb⟩⟩)
section
variable {z z':Z}{cs:List ag}
theorem VT:∀{vs:List V} {es:List cm},cn w z cs ks vs es->aF w z cs vs (es.map (·.val)):=by
 induction ks with
 |nil=>intro vs es h;rw[(n2 h).1,(n2 h).2];exact .nil
 |cons k r ih=>exact λh=>sQ (P:=λvs es=>aF w z cs vs (es.map (·.val))) h λj j j j j b j d=>.cons b (ih d)
theorem Xj(hz:Z.le z z'):∀{vs ys:List V} {es:List cm},cn w z cs ks vs es->aF w z' cs ys (es.map (·.val))->cn w z' cs ks ys es:=by
 induction ks with
 |nil=>intro vs ys es h k;rw[(n2 h).2] at k ⊢;rw[AB k];exact .nil
 |cons k r ih=>exact λ{vs ys es} h=>sQ (P:=λvs es=>aF w z' cs ys (es.map (·.val))->cn w z' cs (k::r) ys es) h λu us e q a j c d k2=>u7 (P:=λys=>cn w z' cs (k::r) ys (e::q)) k2 λj j b2 d2=>.cons (a.mono hz (bz _)) b2 c (ih d d2)
theorem Vr:∀{vs:List V} {es:List cm},dA w z cs ks vs es->aF w z cs vs (es.map (·.val)):=by
 induction ks with
 |nil=>intro vs es h;rw[(qU h).1,(qU h).2];exact .nil
 |cons k r ih=>exact λh=>vd (P:=λvs es=>aF w z cs vs (es.map (·.val))) h λj j j j j b j d=>.cons b (ih d)
theorem WW:∀{vs ys:List V} {es:List cm},dA w z cs ks vs es->aF w z' cs ys (es.map (·.val))->dA w z' cs ks ys es:=by
 induction ks with
 |nil=>intro vs ys es h k;rw[(qU h).2] at k ⊢;rw[AB k];exact .nil
 |cons k r ih=>exact λ{vs ys es} h=>vd (P:=λvs es=>aF w z' cs ys (es.map (·.val))->dA w z' cs (k::r) ys es) h λu us e q a j c d k2=>u7 (P:=λys=>dA w z' cs (k::r) ys (e::q)) k2 λj j b2 d2=>.cons a b2 c (ih d d2)
end
end
end
section
section
variable {w:aE}{K:aS}{mg mb:af->Option ae}{F:Fm}{s s':S}{g:Gh}{x:List ag}{σ σ':aw}{A:bj}{cx:Cx}{n:Nat}{G:bR}{B:Fm}{z z' ρ:Z}{cs om:List ag}
theorem Uc(R:Reg F z ρ σ)(p:ag->Bool):Z.le z (er p ρ z)/\Reg F (er p ρ z) (iI p ρ) σ:=
 have le:Z.le z (er p ρ z):=λa o e=>by
  cases q:ρ a with
  |none=>exact(sU q).trans e
  |some o'=>exact ay ((R.rz _ _ q).1.symm.trans e)
 ⟨le,{R with
  zi:=λb ob k=>xM k (λj e=>R.ri _ _ e) (R.zi b ob)
  ri:=λb ob k=>R.ri b ob (mX k).2
  rz:=λb ob k=>⟨(xV (mX k).1).trans (R.rz b ob (mX k).2).1,(R.rz b ob (mX k).2).2⟩
  zk:=λb ob k=>xM k (λj e=>.inl (R.rz b ob e).2) (R.zk b ob)
  zb:=Z.le_trans R.zb le}⟩
def afw(w:aE)(B:Fm)(m:List M)(z ρ:Z)(cs:List ag)(σ:aw)(i:Nat)(c:M):Prop:=∀C:Prop,(∀(a:ag) (o fo:List ag) (p:ag->Bool) (e1:cs[i]?=U a) (e2:de w z cs ρ c a o) (e3:∀b∈o,p b=J) (e4:Z.le z (er p ρ z)) (e5:∀v,Den w (er p ρ z) cs v (.ref a)->v.free=J->dN w B (m.set i (.gone v)) (er p ρ z) (iI p ρ) cs fo σ),C)->C
theorem adu(h:(t::(a++b++c)).Nodup):(∀y∈b,y≠t/\y∉a/\y∉c)/\(t::(a++[]++c)).Nodup:=by
 have e:t::(a++b++c)=(t::a)++(b++c):=by rw[aN];rfl
 have e2:t::(a++[]++c)=(t::a)++c:=by rw[bx];rfl
 rw[e] at h
 rw[e2]
 have h:=cM.mp h
 have k:=cM.mp h.2.1
 exact⟨λy hy=>⟨λq=>h.2.2 t (.head _) y (bp _ hy) q.symm,λq=>h.2.2 y (.tail _ q) y (bp _ hy) rfl,λq=>k.2.2 y hy y q rfl⟩,
  cM.mpr ⟨h.1,k.2.1,λy hy u hu=>h.2.2 y hy u (cy _ hu)⟩⟩
theorem VW(H:dN w B m z ρ cs om σ)(q:m[i]?=U c):afw w B m z ρ cs σ i c:=by
 refine H.mem.get q _ λa o1 o2 o3 e1 e2 e3 e4=>?_
 have N:=adu (e3▸H.nd)
 have R:=Uc H.toReg (λb=>aJ (b∈o2))
 have off:∀{b:ag},b∉o2->iI (λb=>aJ (b∈o2)) ρ b=ρ b:=λh=>xY (decide_eq_false h)
 exact λQ_ k_=>k_ a o2 _ _ e1 e2 (λb hb=>decide_eq_true hb) R.1 (λv d f=>⟨R.2,H.tb.mono R.1 (off λq=>(N.1 _ q).1 rfl),e4 _ _ _ (.gone v) [] R.1 (bz _) (.gone d f) (λb hb=>off λq=>(N.1 _ q).2.1 hb) (λb hb=>off λq=>(N.1 _ q).2.2 hb),N.2⟩)
def BA(w:aE)(B:Fm)(m':List M)(z:Z)(cs:List ag)(σ:aw)(v':V)(y:ae):Prop:=∀C:Prop,(∀(z' ρ':Z) (fo:List ag) (h1:Z.le z z') (h2:dN w B m' z' ρ' cs fo σ) (h3:Den w z' cs v' y) (h4:v'.free=J),C)->C
def FE(w:aE)(B:Fm)(m':List M)(z:Z)(cs:List ag)(σ:aw)(bM:List V)(ys:List ae):Prop:=∀C:Prop,(∀(z' ρ':Z) (fo:List ag) (h1:Z.le z z') (h2:dN w B m' z' ρ' cs fo σ) (h3:aF w z' cs bM ys) (h4:V.bI bM=J),C)->C
def yE(w:aE)(f:V->List M->Option (V×List M)):Prop:=∀v m v' m',f v m=U (v',m')->∀(B:Fm) (z ρ:Z) (cs om:List ag) (σ:aw) (y:ae),dN w B m z ρ cs om σ->Den w z cs v y->BA w B m' z cs σ v' y
theorem X7(hf:yE w f)(vs:List V):∀(m:List M) (bM:List V) (m':List M),tL f vs m=U (bM,m')->∀(z ρ:Z) (om:List ag) (ys:List ae),dN w B m z ρ cs om σ->aF w z cs vs ys->FE w B m' z cs σ bM ys:=by
 induction vs with
 |nil=>
  intro m bM m' h z ρ om ys H d
  exact ik (P:=λbM m'=>FE w B m' z cs σ bM ys) h (by rw[iF d];exact λQ_ k_=>k_ z ρ om (Z.le_refl _) H .nil rfl)
 |cons v r ih=>
  intro m bM m' h z ρ om ys H d
  refine(bN.mp h).elim λp q=>(dw.mp q.2).elim λp2 q2=>?_
  refine ik (P:=λbM m'=>FE w B m' z cs σ bM ys) (congrArg U q2.2) (gB d λy us d ds=>?_)
  refine hf v m p.1 p.2 q.1 B z ρ cs om σ _ H d _ λz1 fb zq a1 a2 a3 a4=>?_
  exact ih p.2 p2.1 p2.2 q2.1 z1 fb zq us a2 (ds.mono a1 (bz _)) _ λz2 Qr HN b1 b2 b3 b4 Q_ k_=>k_ z2 Qr HN (Z.le_trans a1 b1) b2 (.cons (a3.mono b1 (bz _)) b3) (ak a4 b4)
def PC(w:aE)(z:Z)(cs:List ag)(σ:aw)(m:M)(xs:List V)(a:ag):Prop:=∀C:Prop,(∀(ys:List ae) (h:aF w z cs xs ys) (k:∀(z1 fb:Z) (m1:M) (o1:List ag) (uE:List V) (p:ag->Bool),de w z1 cs fb m1 a o1->m1.tag=m.tag->Z.le z z1->(∀b o,fb b=U o->σ.heap.get? b=U o)->aF w z1 cs uE ys->V.bI uE=J->(∀b∈o1,p b=J)->Z.le z1 (er p fb z1)->Den w (er p fb z1) cs (m.with uE) (.ref a)/\(m.with uE).free=J),C)->C
def vS(ρ:Z)(a:ag)(o:List ag):Nat->Prop
 |0=>∃vs n,ρ a=U (bg vs n)/\a∈o
 |1=>∃es n,ρ a=U (cB es n)/\a∈o
 |2=>∃c d es n,(ρ a=U (kj c d)/\a∈o)/\ρ d=U (cB es n)/\d∈o
 |_=>True
theorem de.own(e:de w z cs ρ m a o):vS ρ a o m.tag:=
 de.casesOn (motive:=λm a o j=>vS ρ a o m.tag) e (λh j j=>⟨_,_,h,.head _⟩) (λh j j j=>⟨_,_,h,.head _⟩) (λh hd j j=>⟨_,_,_,_,⟨h,.head _⟩,hd,.tail _ (.head _)⟩) λj j=>trivial
theorem de.GB(e:de w z cs ρ m a o)(h:m.tag=t):vS ρ a o t:=h▸e.own
section
variable {fb:Z}{a:ag}{o1:List ag}{p:ag->Bool}
theorem AO(hr:∀b o,ρ b=U o->σ.heap.get? b=U o)(kQ:∀b o,fb b=U o->σ.heap.get? b=U o)(h1:fb a=U o2)(h:ρ a=U o):o2=o:=aA ((kQ _ _ h1).symm.trans (hr _ _ h))
theorem XJ(k:vS fb a o1 0)(hp:∀b∈o1,p b=J)(hr:∀b o,ρ b=U o->σ.heap.get? b=U o)(kQ:∀b o,fb b=U o->σ.heap.get? b=U o)(h:ρ a=U (bg vs n))(z1:Z):er p fb z1 a=U (bg vs n):=
 k.elim λj k=>k.elim λj k=>pE (hp _ k.2) (k.1.trans (congrArg U (AO hr kQ k.1 h)))
theorem Wt(k:vS fb a o1 1)(hp:∀b∈o1,p b=J)(hr:∀b o,ρ b=U o->σ.heap.get? b=U o)(kQ:∀b o,fb b=U o->σ.heap.get? b=U o)(h:ρ a=U (cB vs n))(z1:Z):er p fb z1 a=U (cB vs n):=
 k.elim λj k=>k.elim λj k=>pE (hp _ k.2) (k.1.trans (congrArg U (AO hr kQ k.1 h)))
theorem Xh(k:vS fb a o1 2)(hp:∀b∈o1,p b=J)(hr:∀b o,ρ b=U o->σ.heap.get? b=U o)(kQ:∀b o,fb b=U o->σ.heap.get? b=U o)(h:ρ a=U (kj c d))(hd:ρ d=U (cB vs n))(z1:Z):er p fb z1 a=U (kj c d)/\er p fb z1 d=U (cB vs n):=
 k.elim λc1 k=>k.elim λd1 k=>k.elim λj k=>k.elim λj k=>by
  have e:=AO hr kQ k.1.1 h
  have ed:d1=d:=uQ (aA (congrArg (λo:aP=>o.dict.map sR) e))
  subst ed
  exact⟨pE (hp _ k.1.2) (k.1.1.trans (congrArg U e)),pE (hp _ k.2.2) (k.2.1.trans (congrArg U (AO hr kQ k.2.1 hd)))⟩
end
theorem de.kids(e:de w z cs ρ m a o)(hr:∀b o,ρ b=U o->σ.heap.get? b=U o):m.kids=U xs->PC w z cs σ m xs a:=
 de.casesOn (motive:=λm a o j=>m.kids=U xs->PC w z cs σ m xs a) e
  (λh k l q=>aA q▸(λQ_ k_=>k_ _ k (λz1 fb m1 o1 uE p e1 t hz kQ d f hp hl=>⟨.list (XJ (e1.GB t) hp hr kQ h z1) (d.mono hl (bz _)) (d.length.trans k.length.symm▸l),f⟩)))
  (λh k n l q=>aA (ei q).2▸(λQ_ k_=>k_ _ (VT k) (λz1 fb m1 o1 uE p e1 t hz kQ d f hp hl=>⟨.dict (Wt (e1.GB t) hp hr kQ h z1) (Xj (Z.le_trans hz hl) k (d.mono hl (bz _))) n l,ak (ei q).1 f⟩)))
  (λh hd k n q=>aA q▸(λQ_ k_=>k_ _ (Vr k) (λz1 fb m1 o1 uE p e1 t hz kQ d f hp hl=>have W:=Xh (e1.GB t) hp hr kQ h hd z1;⟨.inst W.1 W.2 (WW k (d.mono hl (bz _))) n,f⟩)))
  λj j q=>ay q
theorem ya{v:V}{x:Nat}:V.ow v=U x->v=V.cell x:=
 V.casesOn (motive_1:=λv=>V.ow v=U x->v=V.cell x) v ay (λj=>ay) (λj=>ay) (λj=>ay) (λj=>ay) (λj=>ay) (λj=>ay) (λj=>ay) (λj=>ay) (λj j=>ay) (λj j j=>ay) (λa=>λh=>aA h▸rfl)
theorem LZ{v:M}{x:V}:M.ou v=U x->v=M.gone x:=
 M.casesOn (motive:=λv=>M.ou v=U x->v=M.gone x) v (λj=>ay) (λj j=>ay) (λj j j=>ay) (λa=>λh=>aA h▸rfl)
theorem de.Pl(h:de w z cs ρ (.gone v) a o):Den w z cs v (.ref a)/\v.free=true:=by
 have:∀m,de w z cs ρ m a o->M.ou m=U v->Den w z cs v (.ref a)/\v.free=true:=λm h=>de.casesOn (motive:=λm a o j=>M.ou m=U v->Den w z cs v (.ref a)/\v.free=J) h (λj j j e=>ay e) (λj j j j e=>ay e) (λj j j j e=>ay e) λd f e=>aA e▸⟨d,f⟩
 exact this _ h rfl
theorem X3(hf:yE w f):yE w (FX f):=λv m v' m' h B z ρ cs om σ y H d=>by
 unfold FX at h
 by_cases hv:v.free=J
 ·rw[if_pos hv] at h
  exact ik (P:=λv' m'=>BA w B m' z cs σ v' y) h (λQ_ k_=>k_ z ρ om (Z.le_refl _) H d hv)
 ·rw[if_neg hv] at h
  refine(bN.mp h).elim λi q=>(bN.mp q.2).elim λc qc=>?_
  have d:=d.inv
  rw[ya q.1] at d
  refine d.elim λa ha=>?_
  rw[ha.2]
  have qk:=qc.2
  refine H.mem.get qc.1 _ λa0 o1 o2 o3 e1 e2 e3 e4=>?_
  have ea:a0=a:=aA (e1.symm.trans ha.1)
  subst ea
  cases eg:c.ou with
  |some u=>
   rw[eg] at qk
   have e2:=de.Pl (LZ eg▸e2)
   exact ik (P:=λv' m'=>BA w B m' z cs σ v' (.ref a0)) qk (λQ_ k_=>k_ z ρ om (Z.le_refl _) H e2.1 e2.2)
  |none=>
   rw[eg] at qk
   refine(bN.mp qk).elim λxs qx=>(bN.mp qx.2).elim λp qp=>(bN.mp qp.2).elim λc1 q1=>?_
   have qt:=ei q1.2
   refine ik (P:=λv' m'=>BA w B m' z cs σ v' (.ref a0)) qt.2 ?_
   refine e2.kids H.ri qx.1 _ λys k1 k2=>?_
   refine X7 hf xs m p.1 p.2 qp.1 z ρ om ys H k1 _ λz1 fb zq b1 b2 b3 b4=>?_
   refine VW b2 q1.1 _ λa1 o HN p2 f1 f2 f3 f4 f5=>?_
   have ea:a1=a0:=aA (f1.symm.trans e1)
   subst ea
   have D:=k2 z1 fb c1 o p.1 p2 f2 qt.1 b1 b2.ri b3 b4 f3 f4
   exact λQ_ k_=>k_ _ _ _ (Z.le_trans b1 f4) (f5 _ D.1 D.2) D.1 D.2
theorem MA(k:Nat):yE w (deep k):=Nat.rec (motive:=λk=>yE w (deep k)) (λj j j j h=>ay h) (λj ih=>X3 ih) k
def yG(w:aE)(F:Fm)(s':S)(g:Gh)(σ:aw)(v':V)(y:ae):Prop:=∀C:Prop,(∀(g':Gh) (h1:g.le g') (h2:Full w F s' g' [] σ) (h3:Den w g'.z g'.cs v' y),C)->C
theorem Wl(H:Full w F s g [] σ)(hd:Den w g.z g.cs v y)(h:deep k v s.mem=U (v',m)):yG w F {s with mem:=m} g σ v' y:=by
 refine MA k _ _ _ _ h _ _ _ _ _ _ _ H.half hd _ λz' ρ' fo a1 a2 a3 _=>?_
 exact H.back a1 (bz _) a2 _ λg' b1 b2 b3 b4 Q_ k_=>k_ g' b1 b4 (by rw[b2,b3];exact a3)
theorem WM(H:Full w F s g [] σ)(hd:Den w g.z g.cs v y)(h:vV v s=U (v',s')):yG w F s' g σ v' y:=by
 unfold vV at h
 cases ec:v.ow with
 |none=>rw[ec] at h;exact ik (P:=λv' s'=>yG w F s' g σ v' y) h (λQ_ k_=>k_ g g.le_refl H hd)
 |some i=>
  rw[ec] at h
  refine(bN.mp h).elim λc q=>?_
  have q2:=q.2
  by_cases ht:c.tag=0
  ·rw[if_pos ht] at q2
   exact(dw.mp q2).elim λp k=>ik (P:=λv' s'=>yG w F s' g σ v' y) (congrArg U k.2) (Wl H hd k.1)
  ·rw[if_neg ht] at q2
   refine ik (P:=λv' s'=>yG w F s' g σ v' y) q2 ?_
   cases eg:c.ou with
   |none=>exact λQ_ k_=>k_ g g.le_refl H hd
   |some u=>
    have d:=hd.inv
    rw[ya ec] at d
    refine d.elim λa ha=>?_
    refine H.mem.get q.1 _ λa0 o1 o2 o3 e1 e2 e3 e4=>?_
    rw[ha.2,<-aA (e1.symm.trans ha.1)]
    exact λQ_ k_=>k_ g g.le_refl H ((de.Pl (LZ eg▸e2)).1)
end
end
section
section
variable {w:aE}{F:Fm}{σ σ':aw}
theorem YC(R:Reg B z ρ σ)(h1:o1.isFreed=ah)(h2:o2.isFreed=ah)(hh:σ'.heap=(σ.heap.push o1).push o2)(hg:σ'.gens=σ.gens)(ho:σ'.os=σ.os):
  Reg B z ((ρ.put σ.heap.objs.size o1).put (σ.heap.objs.size+1) o2) σ':=
 have P:=rt (σ:=σ) (σ':={σ with heap:=σ.heap.push o1}) o1 h1 rfl rfl rfl
 have P2:=rt (σ:={σ with heap:=σ.heap.push o1}) o2 h2 hg ho hh
 have e:(σ.heap.push o1).objs.size=σ.heap.objs.size+1:=xC _
 e▸(R.own P.1 kg P.2).own P2.1 kg P2.2
theorem dN.made(H:dN w B m z ρ cs om σ)(c:Nat)(hh:σ'.heap=(σ.heap.push emptyDict).push (kj c σ.heap.objs.size))(hg:σ'.gens=σ.gens)(ho:σ'.os=σ.os):
  ∃ρ' fo,dN w B (m++[.inst c [] []]) z ρ' (cs++[σ.heap.objs.size+1]) fo σ':=by
 have eY:∀b∈B.tab::om,∃o,ρ b=U o:=λb hb=>(cf.mp hb).elim (λq=>q▸H.tb.FD) (H.mem.eY b)
 have lt:∀b∈B.tab::om,b<σ.heap.objs.size:=λb hb=>(eY b hb).elim λo e=>gy (H.ri _ _ e)
 have hq:∀b∈B.tab::om,((ρ.put σ.heap.objs.size emptyDict).put (σ.heap.objs.size+1) (kj c σ.heap.objs.size)) b=ρ b:=λb hb=>
  (Z.df _ _ (hJ (xu (lt b hb)))).trans (Z.df _ _ (hJ (lt b hb)))
 refine⟨_,om++[σ.heap.objs.size+1,σ.heap.objs.size],YC H.toReg rfl rfl hh hg ho,H.tb.mono (Z.le_refl _) (hq _ (.head _)),?_,?_⟩
 ·exact dT.snoc (H.mem.mono (Z.le_refl _) (u4 _ _) λb hb=>hq b (.tail _ hb)) (.inst (Z.dp _ _ _) ((Z.df _ _ (hJ (nT _))).trans (Z.dp _ _ _)) .nil nU)
 ·refine cM.mpr ⟨H.nd,eN.mpr ⟨λq=>Dv _ (cK.mp q),eN.mpr ⟨uN,nU⟩⟩,λa ha b hb e=>?_⟩
  have h:=lt a ha
  rw[e] at h
  rcases cf.mp hb with q|q
  ·rw[q] at h;exact sL _ (xw h)
  ·rw[cK.mp q] at h;exact sL _ h
theorem DI(h:pre (l++[a]) l'):l'[l.length]?=U a:=h _ _ (by rw[mQ (aQ _),qK];rfl)
theorem Uk(h:pre (l++[a]) l'):pre l l':=kh (u4 l [a]) h
theorem K9{xa:ag}{cs:List ag}{m':List M}{R:jq->aw->Prop}{r:jq}(h:OF w B z cs .none m' r σ')
  (k:∀z' ρ' aV fo,Z.le z z'->pre cs aV->dN w B m' z' ρ' aV fo σ'->R (.ok (.ret (.ref xa))) σ'):InitBack xa R r σ':=by
 refine h _ λy e1_ z' ρ' aV fo h1 h2 h3 h4=>?_
 subst e1_
 exact⟨h4.inv,k z' ρ' aV fo h1 h2 h3⟩
end
end
def mC(xs:Array Nat):Prop:=xs.toList.Pairwise (·<·)
structure Cut(l:List Nat)(j p:Nat):Prop where
 le:p<=l.length
 lo:∀y∈l.take p,y<j
 hi:∀y∈l.drop p,j<=y
theorem yh{α:Type}{l:List α}{x:α}(e:l[m]?=U x):l.drop m=x::l.drop (m+1):=by
 rw[I9 (g7.mp e).1,(g7.mp e).2]
theorem Nj{l:List Nat}(h:l.Pairwise (·<·))(e:l[m]?=U x):(∀y∈l.take m,y<x)/\∀y∈l.drop (m+1),x<y:=by
 rw[<-jm m l,yh e] at h
 have h:=qB.mp h
 exact⟨λy hy=>h.2.2 y hy x (.head _),(lg.mp h.2.1).1⟩
theorem L7{l:List Nat}(e:l[m]?=U x)(h:y∈l.take (m+1)):y∈l.take m\/y=x:=by
 rw[Dp,e] at h
 exact(gx.mp h).imp id cK.mp
theorem YI{xs:Array Nat}(hr:mC xs)(fuel:Nat):∀(lo hi:Nat),hi<=lo+fuel->lo<=hi->hi<=xs.toList.length->(∀y∈xs.toList.take lo,y<j)->(∀y∈xs.toList.drop hi,j<=y)->Cut xs.toList j (Dl xs j fuel lo hi):=by
 induction fuel with
 |zero=>exact λlo hi h1 h2 h3 h4 h5=>⟨bf h2 h3,h4,me h1 h2▸h5⟩
 |succ fuel ih=>
  intro lo hi h1 h2 h3 h4 h5
  rw[show Dl xs j (fuel+1) lo hi=(if lo<hi then(if xs.getD ((lo+hi)/2) j<j then Dl xs j fuel ((lo+hi)/2+1) hi else Dl xs j fuel lo ((lo+hi)/2)) else lo) from rfl]
  by_cases cX:lo<hi
  ·rw[if_pos cX]
   have m1:lo<=(lo+hi)/2:=(Sw (by decide)).mpr (by rw[J8];exact gd h2 _)
   have m2:(lo+hi)/2<hi:=(Nat.div_lt_iff_lt_mul (by decide)).mpr (by rw[J8];exact Jm cX _)
   generalize (lo+hi)/2=m at*
   have e:xs.toList[m]?=U (xs.getD m j):=by
    rw[Array.getD_eq_getD_getElem?,<-dG]
    rw[gi (d9 m2 h3)];rfl
   have R:=Nj hr e
   by_cases hm:xs.getD m j<j
   ·rw[if_pos hm]
    exact ih _ _ (bf h1 (by rw[kb fuel 1,<-j9];exact uI (gM m1) _)) m2 h3 (λy hy=>(L7 e hy).elim (λq=>ct (R.1 y q) hm) λq=>q▸hm) h5
   ·rw[if_neg hm]
    exact ih _ _ (pk (d9 m2 h1)) m1 (bf (ee m2) h3) h4 λy hy=>by
     rw[yh e] at hy
     exact(cf.mp hy).elim (λq=>q▸mV hm) λq=>bf (mV hm) (ee (R.2 y q))
  ·rw[if_neg cX]
   exact⟨bf h2 h3,h4,me (mV cX) h2▸h5⟩
theorem AX(hr:mC xs)(j:Nat):Cut xs.toList j (j8 xs j):=
 YI hr _ _ _ (xF _ _) (eO _) (aQ _) (λy hy=>dq hy) λy hy=>by
  rw[show xs.size=xs.toList.length from rfl,List.drop_length] at hy;cases hy
theorem N8{l:List Nat}(h:Cut l j p)(k:Cut l j q):¬p<q:=λc=>by
 have e:=gi (d9 c k.le)
 generalize l[p]'(d9 c k.le)=x at e
 have h1:=h.hi x (by rw[yh e];exact .head _)
 have h2:=k.lo x (List.mem_of_getElem? ((Jb c).trans e))
 exact sL _ (d9 h2 h1)
theorem FR(h:Cut l j p)(k:Cut l j q):p=q:=me (mV (N8 k h)) (mV (N8 h k))
theorem below_at{xs:Array Nat}(hr:mC xs)(e:xs.toList[i]?=U x):j8 xs x=i/\j8 xs (x+1)=i+1:=by
 have R:=Nj hr e
 have hi:=(g7.mp e).1
 refine⟨FR (AX hr x) ⟨ee hi,R.1,λy hy=>?_⟩,FR (AX hr _) ⟨hi,λy hy=>(L7 e hy).elim (λq=>xu (R.1 y q)) λq=>q▸nT _,R.2⟩⟩
 rw[yh e] at hy
 exact(cf.mp hy).elim (λq=>q▸aQ _) λq=>ee (R.2 y q)
theorem U1(hr:mC xs):j8 xs 0=0:=FR (AX hr 0) ⟨eO _,λy hy=>(dq hy),λy j=>eO y⟩
theorem SR(hr:mC xs)(hj:j∉xs.toList):mC (bE.insertAt xs (j8 xs j) j):=by
 have C:=AX hr j
 have ur:=hr
 unfold mC at ur ⊢
 rw[bE.toList_insertAt]
 rw[<-jm (j8 xs j) xs.toList] at ur
 have h:=qB.mp ur
 have lt:∀y∈xs.toList.drop (j8 xs j),j<y:=λy hy=>Nat.lt_of_le_of_ne (C.hi y hy) λq=>hj (q▸uH hy)
 exact qB.mpr ⟨h.1,lg.mpr ⟨lt,h.2.1⟩,λa ha b hb=>(cf.mp hb).elim (λq=>q▸C.lo a ha) (h.2.2 a ha b)⟩
structure fQ(bt:Bool)(t:bE):Prop where
 rise:mC t.place
 Ru:t.dummies=#[]
 led:t.led=!bt
theorem UW{t:bE}(h:mC t.place)(e:t.slot j=.empty):j∉t.place.toList:=λhj=>by
 obtain⟨i,hi⟩:=zU hj
 have hb:=(below_at h hi).1
 have e:(if t.place[j8 t.place j]?==U j then SK (j8 t.place j) else if DK t.dummies j then .dummy else .empty)=.empty:=e
 rw[hb,<-dG,hi,beq_self_eq_true] at e
 exact nomatch e
theorem ZJ{t:bE}(hd:t.dummies=#[]):t.slot j≠.dummy:=λe=>by
 have e:(if t.place[j8 t.place j]?==U j then SK (j8 t.place j) else if DK t.dummies j then .dummy else .empty)=.dummy:=e
 rw[hd,if_neg (show ¬DK #[] j=J from bo)] at e
 by_cases c:(t.place[j8 t.place j]?==U j)=J
 ·rw[if_pos c] at e;exact nomatch e
 ·rw[if_neg c] at e;exact nomatch e
theorem S5{t:bE}(p:bE.Probe):(t.advance p).dummy=p.dummy:=by
 unfold bE.advance
 by_cases c:p.more>0
 ·rw[if_pos c]
 ·rw[if_neg c]
set_option smartUnfolding false in
theorem Xe{t:bE}(hd:t.dummies=#[])(f:Nat->Int)(h:Int){d:Option Nat}(fuel:Nat):∀p:bE.Probe,p.dummy=aj->Dk t f h fuel p=U (.empty j d)->d=aj/\t.slot j=.empty:=by
 induction fuel with
 |zero=>exact λp x e=>ay e
 |succ fuel ih=>
  intro p hp e
  have e:bE.Slot.rec (motive:=λx=>Option bE.Met) (U (.empty p.j p.dummy)) (Dk t f h fuel (t.advance {p with dummy:=U p.j}))
   (λi=>if f i==h then U (.candidate p.j i (t.advance p)) else Dk t f h fuel (t.advance p)) (t.slot p.j)=U (.empty j d):=e
  cases q:t.slot p.j with
  |empty=>rw[q] at e;exact⟨(Se (aA e)).2▸hp,(Se (aA e)).1▸q⟩
  |dummy=>exact absurd q (ZJ hd)
  |live i=>
   rw[q] at e
   have e:(if f i==h then U (.candidate p.j i (t.advance p)) else Dk t f h fuel (t.advance p))=U (bE.Met.empty j d):=e
   by_cases c:(f i==h)=J
   ·rw[if_pos c] at e;exact nomatch e
   ·rw[if_neg c] at e;exact ih _ ((S5 p).trans hp) e
theorem Ui{t:bE}(G:fQ bt t)(e:t.freeSlot h=U (j,b)):j∉t.place.toList:=by
 unfold bE.freeSlot at e
 split at e
 ·rename_i j' d q
  have P:=Xe G.Ru _ _ _ _ rfl q
  rw[P.1] at e
  exact UW G.rise ((mZ (aA e)).1▸P.2)
 ·cases e
theorem TR(n:Nat):mC (Array.range n):=by
 unfold mC;rw[Array.toList_range];exact Dd
theorem fQ.standIn(G:fQ bt t)(n:Nat):fQ bt (t.standIn n):=⟨TR n,rfl,G.led⟩
theorem XZ[Decidable c](h:fQ bt t)(k:fQ bt t'):fQ bt (if c then t else t'):=by
 by_cases q:c
 ·rw[if_pos q];exact h
 ·rw[if_neg q];exact k
theorem fQ.orStandIn(G:fQ bt t)(n:Nat):fQ bt (t.orStandIn n):=XZ G (G.standIn n)
theorem fQ.put(G:fQ bt t)(hj:j∉t.place.toList):fQ bt (t.put j).1:=
 ⟨SR G.rise hj,by show(if DK t.dummies j then _ else t.dummies)=_;rw[G.Ru];rfl,G.led⟩
theorem Uo(G:fQ bt t)(es:Array (Int×ae))(h:Int)(x:ae):fQ bt (layNew t es h x).2.1:=by
 unfold layNew
 cases q:t.freeSlot h with
 |none=>exact G.standIn _
 |some p=>exact(G.put (Ui G q)).orStandIn _
theorem Tv(f:Nat->Option Nat)(n:Nat):mC (((cb n).filterMap λj=>(f j).map (j,·)).map (·.1)).toArray:=by
 refine z4.mpr (List.Pairwise.filterMap _ (λa b hab c hc d hd=>?_) Dd)
 refine(dw.mp hc).elim λx k=>(dw.mp hd).elim λx k2=>?_
 rw[<-k.2,<-k2.2];exact hab
theorem Vx{bt:Bool}{mask finger moves:Nat}{led plain:Bool}{hs:Array Int}{p:bE×Array Nat}(hl:led=!bt)(e:bE.laid mask finger moves led plain hs=U p):fQ bt p.1:=by
 refine(bN.mp e).elim λowner q=>?_
 rw[<-aA q.2]
 exact⟨Tv (λj=>owner.getD j aj) (mask+1),rfl,hl⟩
theorem SY(G:fQ bt t)(es:Array (Int×ae))(n:Nat):fQ bt (relayAll t es n).2.1:=by
 unfold relayAll
 cases q:t.relaid (es.map (·.1)) n with
 |none=>exact G.standIn _
 |some p=>
  dsimp only
  split
  ·exact Vx G.led q
  ·exact G.standIn _
theorem UM(bt:Bool)(a b:Nat):fQ bt (bE.fresh a b (!bt)):=⟨.nil,rfl,rfl⟩
section
section
variable {w:aE}{A:bj}{E:ae->aw->Prop}{s:aw}{bt:Bool}
structure lO(w:aE)(bt:Bool)(es:Array (Int×ae))(t:bE)(ns:List Int):Prop where
 el:ElemsOf (iG ao w) es.toList
 wW:∃ms,dO (es.toList.map (·.2)) ms/\ms.Perm ns
 room:es.size<va
 fits:t.fits es.size=J
 good:fQ bt t
def il(w:aE)(bt:Bool)(h:az)(a:ag)(ns:List Int):Prop:=∀C:Prop,(∀(o:aP) (es:Array (Int×ae)) (ep:Nat) (t:bE) (ho:h.get? a=U o) (hex:o.ExactSet) (hd:o.data=.set es ep t) (H:lO w bt es t ns),C)->C
theorem il.keep(k:il w bt h a ns)(e:∀o,h.get? a=U o->h'.get? a=U o):il w bt h' a ns:=by
 exact k _ λo es ep t ho hex hd H Q_ k_=>k_ o es ep t (e _ ho) hex hd H
theorem il.typeIs(h:il w bt s.heap a ns):s.TypeIs (.ref a) "set":=by
 exact h _ λo es ep t ho hex hd H=>⟨o,ho,hex.1⟩
theorem DJ{P:List Int->Prop}{v:ae}{l:List ae}(h:dO (v::l) ms)(k:∀n t r,v=.int n t->dO l r->P (n::r)):P ms:=by
 cases h with
 |cons n t h=>exact k _ _ _ rfl h
theorem Te(k:Int){l:List (Int×ae)}:∀{ms:List Int},dO (l.map (·.2)) ms->(l.findIdx? λe=>(iG ao w).is k e.2)=ms.findIdx? (λx=>aJ (x=k)):=by
 induction l with
 |nil=>intro ms h;cases h;rfl
 |cons e l ih=>
  intro ms h
  refine DJ (P:=λms=>((e::l).findIdx? λe=>(iG ao w).is k e.2)=ms.findIdx? (λx=>aJ (x=k))) h λn t r hv h=>?_
  have hv:e.2=.int n t:=hv
  rw[qD,qD,ih h,hv,KeyKind.is_eq_decide (intKind_is _ _ n t) k,decide_eq_decide.mpr ⟨Eq.symm,Eq.symm⟩]
theorem D7(p:l'.Perm l)(h:dO l ms):∃Rm,dO l' Rm/\Rm.Perm ms:=
 ⟨_,intsAre_map _ λv hv=>h.all v (p.mem_iff.mp hv),h.nums▸p.map _⟩
theorem ints_snoc:∀{ns:List Int},dO vs ns->dO (vs++[.int n t]) (ns++[n]):=by
 induction vs with
 |nil=>intro ns h;cases h;exact .cons n t .nil
 |cons v r ih=>exact λ{ns} h=>DJ (P:=λns=>dO (v::r++[.int n t]) (ns++[n])) h λn' t' q hv h=>hv▸.cons n' t' (ih h)
theorem lO.perm(H:lO w bt es t ns)(p:eL.toList.Perm es.toList)(hf:t'.fits eL.size=J)(G:fQ bt t'):lO w bt eL t' ns:=
 ⟨H.el.perm p,H.wW.elim λj h=>(D7 (p.map (·.2)) h.1).imp λj k=>⟨k.1,k.2.trans h.2⟩,by rw[<-fO,p.length_eq,fO];exact H.room,hf,G⟩
theorem lO.snoc{es eL:Array (Int×ae)}{t t':bE}(H:lO w bt es t ns){tk:gY}(p:eL.toList.Perm (es.push ((iG ao w).hash k,.int k tk)).toList)(hr:es.size+1<va)(hf:t'.fits eL.size=J)(G:fQ bt t'):lO w bt eL t' (ns++[k]):=by
 have p2:=p
 rw[xr] at p2
 refine⟨(H.el.push (intKind_is _ _ _ _) rfl).perm p2,H.wW.elim λms h=>(D7 (p2.map (·.2)) ?_).imp λj q=>⟨q.1,q.2.trans (h.2.append_right _)⟩,?_,hf,G⟩
 ·rw[bZ];exact ints_snoc h.1
 ·rw[<-fO,p.length_eq,fO,xC];exact hr
theorem lO.store{h:az}{a:ag}{o:aP}{es:Array (Int×ae)}{t:bE}(ho:h.get? a=U o)(hd:o.data=.set es ep t)(eL:Array (Int×ae))(t':bE):
  (h.update a (aP.putSet eL t')).get? a=U {o with data:=.set eL (ep+1) t'}:=by
 have:=qA (aP.putSet eL t') ho (by rw[putSet_of eL t' hd];rfl)
 rw[putSet_of eL t' hd] at this;exact this
theorem Km{a:ag}{o:aP}{es:Array (Int×ae)}{t:bE}(ho:s.heap.get? a=U o)(hex:o.ExactSet)(hd:o.data=.set es ep t)
  {kP:Array (Int×ae)} {t2:bE} (H:lO w bt kP t2 ns) {R:Option Bool->aw->Prop} {g:Sem Unit} (hg:∀(d4:aw) (Q':Unit->aw->Prop),Q' () d4->ax (ar ao w) A g Q' E d4)
  (h:∀h',mf a s.heap h'->il w bt h' a ns->R (U J) {s with heap:=h'}):
  ax (ar ao w) A (storeSet a kP t2>>= λj=>if c=J then g>>= λj=>storeSet a (relayAll t2 kP (Ad kP.size)).1 (relayAll t2 kP (Ad kP.size)).2.1>>= λj=>pure (U J) else pure (U J)) R E s:=by
 have h1:=lO.store ho hd kP t2
 have S1:=nQ s.heap a (aP.putSet kP t2)
 refine au (wpAny_storeSet_of ho hd (wpAny_ite_split (λj=>?_) λj=>?_) (fits_of_scanBound H.room))
 ·have H2:=H.perm (relayAll_perm t2 kP (Ad kP.size)) (relayAll_fits t2 kP (Ad kP.size)) (SY H.good kP (Ad kP.size))
  exact au (hg _ _ (au (wpAny_storeSet_of h1 rfl (aI (h _ (S1.trans (nQ _ a _)) (λQ_ k_=>k_ _ _ _ _ (lO.store h1 rfl _ _) hex rfl H2))) (fits_of_scanBound H2.room))))
 ·exact aI (h _ S1 (λQ_ k_=>k_ _ _ _ _ h1 hex rfl H))
theorem Y2{a:ag}{o:aP}{es:Array (Int×ae)}{t:bE}{tk:gY}{Q:ScanMet->aw->Prop}(ho:s.heap.get? a=U o)(hd:o.data=.set es ep t)(H:lO w bt es t ns)
  (h1:k∈ns->∀j,Q (.found j) s) (h2:k∉ns->Q .absent s):ax (ar ao w) A (setScan a (.int k tk) ((iG ao w).hash k) J es) Q E s:=by
 refine wpAny_setScan_of (intKind_is _ _ _ _) ho hd H.fits H.el ?_
 refine H.wW.elim λms hm=>?_
 rw[Te k hm.1]
 cases hr:ms.findIdx? (λx=>aJ (x=k)) with
 |some j=>
  obtain⟨hj,hpj,_⟩:=RP.mp hr
  exact h1 (hm.2.mem_iff.mp (of_decide_eq_true hpj▸JC hj)) _
 |none=>exact h2 λhk=>of_decide_eq_false (R2.mp hr k (hm.2.mem_iff.mpr hk)) rfl
theorem TC{a:ag}{o:aP}{es:Array (Int×ae)}{t:bE}(ho:s.heap.get? a=U o)(hex:o.ExactSet)(hd:o.data=.set es ep t)(H:lO w bt es t ns)(hr:es.size+1<va){tk:gY}{R:Option Bool->aw->Prop}
  (h:∀b h',mf a s.heap h'->il w bt h' a (if k∈ns then ns else ns++[k])->R (U b) {s with heap:=h'}):
  ax (ar ao w) A (setAddByScan a (.int k tk) ((iG ao w).hash k) es t) R E s:=by
 refine au (wpAny_rule (au (Y2 ho hd H (λhk j=>?_) λhk=>?_)))
 ·exact aI (h ah s.heap (mf.refl a s.heap) (by rw[if_pos hk];exact λQ_ k_=>k_ o es ep t ho hex hd H))
 ·have rE:∀h',mf a s.heap h'->il w bt h' a (ns++[k])->R (U J) {s with heap:=h'}:=λh' e1 e2=>h J h' e1 (by rw[if_neg hk];exact e2)
  have G:=Uo H.good es ((iG ao w).hash k) (.int k tk)
  have H1:=H.snoc (layNew_perm t es ((iG ao w).hash k) (.int k tk)) hr (layNew_fits t es ((iG ao w).hash k) (.int k tk)) G
  have gw:∀(b:Bool) (d4:aw) (Q':Unit->aw->Prop),Q' () d4->ax (ar ao w) A (match b with|true=>rule "set.scan.the-table-gave-way"|false=>pure ()) Q' E d4:=λb d4 Q' q=>by
   induction b
   ·exact aI q
   ·exact wpAny_rule q
  refine au (gw _ _ _ (wpAny_ite_split (λx=>au ?_) λx=>au ?_))
  ·rw[hashByValue_scannable 8 rfl]
   exact aI (Km ho hex hd H1 (gw _) rE)
  ·exact aI (Km ho hex hd H1 (gw _) rE)
theorem V1{a:ag}{tk:gY}{Q:Bool->aw->Prop}(hS:il w bt s.heap a ns)(Gu:ns.length+1<va)
  (h:∀b h',mf a s.heap h'->il w bt h' a (if k∈ns then ns else ns++[k])->Q b {s with heap:=h'}):
  ax (ar ao w) A (setAddHashed a (.int k tk) ((iG ao w).hash k)) Q E s:=by
 refine hS _ λo es ep t ho hex hd H=>?_
 have hlen:es.size=ns.length:=H.wW.elim λms hm=>by
  rw[<-hm.2.length_eq,<-hm.1.length,aO,fO]
 exact gN (au (nR ho hd H.fits (yr (byScan_of rfl H.room H.el) (au (TC ho hex hd H (hlen▸Gu) λb h' e1 e2=>aI (h b h' e1 e2))))))
end
end
section
set_option maxHeartbeats 3200000
noncomputable def lP(ns:List Int)(k:Int):List Int:=if k∈ns then ns else ns++[k]
theorem Yk(ns:List Int)(k:Int):(lP ns k).length<=ns.length+1:=by
 unfold lP
 by_cases h:k∈ns
 ·rw[if_pos h];exact dm _
 ·rw[if_neg h,aX];exact aQ _
noncomputable abbrev kG(w:aE):Bool:=w.params.followText "set-order"
section
variable {w:aE}{A:bj}{E:ae->aw->Prop}{s:aw}{bt:Bool}
theorem Heap.IsListIter.at{h h':az}{I l:ag}(k:h.IsListIter I l i)(e:h'.get? I=h.get? I):h'.IsListIter I l i:=k.imp λj k=>⟨e.trans k.1,k.2⟩
theorem tF{h:az}{I b:ag}{o:aP}(hI:h.get? I=aj)(e:h.get? b=U o):b≠I:=λq=>by rw[q,hI] at e;cases e
theorem XC{h0:az}(hh:A.handled=aj){l I a:ag}{us:Array ae}(hl:h0.get? l=U (bg us m))(wM:I≠a)(o8:h0.get? I=aj)(ha0:h0.get? a=aj){R:jq->aw->Prop}(rest:List Int):
  ∀(i:Nat) (ns:List Int) (σ:aw),dO (us.toList.drop i) rest->(∀b o,h0.get? b=U o->σ.heap.get? b=U o)->σ.heap.IsListIter I l i->il w bt σ.heap a ns->ns.length+rest.length+1<va->
   (∀h' tk,(∀b o,h0.get? b=U o->h'.get? b=U o)->il w bt h' a (rest.foldl lP ns)->R (.ok (.ret .none)) {σ with heap:=h',toks:=tk})->
   ic (ar ao w) A (.builtin "set.update.loop" ⟨[.ref a,.ref I],[]⟩) R σ:=by
 induction rest with
 |nil=>
  intro i ns σ hd hk hI hS hb hR
  have hx:us[i]?=none:=by rw[<-dG,<-Nat.add_zero i,<-Ju,pg.mp hd.length];rfl
  exact rf RO I2 (au (wpAny_pyNext_list_end hh hI (gm (hk _ _ hl)) hx λh' hx=>
   aI (hR h' σ.toks (λb o e=>hx b o (tF o8 e) (hk _ _ e)) (hS.keep λo e=>hx a o wM.symm e))))
 |cons k rest ih=>
  intro i ns σ hd hk hI hS hb hR
  cases hu:us[i]? with
  |none=>
   rw[<-dG] at hu
   rw[De (zP.mp hu)] at hd
   exact nomatch hd
  |some u=>
   rw[yh ((dG ..).trans hu)] at hd
   refine DJ (P:=λks=>ks=k::rest->ic (ar ao w) A (.builtin "set.update.loop" ⟨[.ref a,.ref I],[]⟩) R σ) hd (λn t r hv hd2 e=>?_) rfl
   have e:=nV e
   rw[e.2] at hd2
   subst hv
   have e1:=e.1
   subst e1
   have QN:ns.length+rest.length+1+1<scanBound:=hb
   refine rf RO I2 (au (wpAny_pyNext_list_item hI (gm (hk _ _ hl)) hu λh1 HU t5=>au (gN (gN (au ((iG ao w).pyHash (intKind_is _ _ _ _)
    (V1 (hS.keep λo e=>t5.extBut a o wM.symm e) (bq (gM (fe _ _)) (xw QN)) λb h' uw CR=>aI ⟨plainId_quiet I2 _,?_⟩)))))))
   exact ih (i+1) (lP ns n) _ hd2 (λb o e=>(uw.2 b (tF ha0 e)).trans (t5.extBut b o (tF o8 e) (hk _ _ e))) (Heap.IsListIter.at HU (uw.2 _ wM)) CR
    (bq (gM (uI (Yk ns n) _)) (by rw[qE];exact QN)) λh'' tk c1 c2=>hR h'' tk c1 c2
theorem S6(a:ae)
  (h:Q₁ (.ref s.heap.objs.size) {s with heap:=s.heap.push {cls:=.type "set",dict:=aj,data:=.set #[] 0 (.fresh 0 0 (!(kG w)))}}):
  ic (ar ao w) A (.call (.builtin "set.__new__") ⟨[.type "set",a],[]⟩) (wants Q₁ E) s:=by
 refine codeAny_of_tree (au (kc (PySem.F.newCall_set_1 a) (aI ⟨plainId_quiet Sr _,rf PySem.F.entry_set_new Sr ?_⟩)))
 refine au (au (kc rfl (fz bo (au (kc sub_set_self (fz bo (aI ?_)))))))
 exact au (au (au (wpAny_askSetting (aI (au (wpAny_alloc (aI (aI h))))))))
end
end
section
set_option maxHeartbeats 3200000
section
variable {w:aE}{A:bj}{E:ae->aw->Prop}{s:aw}{bt:Bool}
theorem DX(h:wants P E r s)(k:∀v,P v s->P' v s):wants P' E r s:=by
 induction r with
 |error e=>exact h
 |ok f=>induction f with
  |ret v=>exact k v h
  |_=>exact h.elim
theorem UK(ft:TypeCalled T newId acL)(hct:checkTypeCall T ⟨args,[]⟩=pure ())(hnew:ic (ar ao w) A.in1 (.call (.builtin newId) ⟨.type T::args,[]⟩) (wants Q₁ E) s)
  (aeT:∀obj d4,Q₁ obj d4->d4.TypeIs obj T/\ic (ar ao w) A.in1 (.call (.builtin acL) ⟨obj::args,[]⟩) (wants (λr kF=>r=.none/\Q obj kF) E) d4):ax (ar ao w) A (call (.type T) args) Q E s:=by
 refine ft.mro.elim λc hm=>hm.elim λtl hmro=>?_
 refine wpAny_call (codeAny_of_tree (aI ⟨Code.quiet_builtin _ (by decide+kernel),codeAny_builtin PySem.F.entry_type_call ?_⟩))
 rw[bj.under_plain (weight_type_call_type T args []) rfl]
 refine fz (xt.mp ft.notType) (fz (xt.mp ft.canCreate) (au (kc hct (au (kc hmro (fz bo (au (kc ft.made (au (aI ?_))))))))))
 refine au (gN (wpAny_call (ka hnew λr d4 hr=>DX hr λobj q=>?_)))
 have N:=aeT _ _ q
 refine au (xy N.1 ft.sub (fz bo (au (gN (wpAny_callSpecial?_slot N.1 ft.init (wpAny_call (ka N.2 λr d4 hr=>DX hr λu q=>?_)))))))
 rw[q.1]
 exact fz (by decide) (aI q.2)
noncomputable abbrev n7(w:aE):Obj:={cls:=.type "set",dict:=aj,data:=.set #[] 0 (.fresh 0 0 (!(kG w)))}
theorem Uh(h:az):il w (kG w) (h.push (n7 w)) h.objs.size []:=
 λQ_ k_=>k_ _ (#[]) 0 _ (eM _ rfl) ⟨rfl,rfl,rfl⟩ rfl ⟨λe he=>(dq he),⟨[],.nil,.refl _⟩,by decide,by rfl,UM _ _ _⟩
def MP(w:aE)(s:aw)(ns:List Int)(s':aw):Prop:=∀C:Prop,(∀(h':az) (tk:Nat) (e:s'={s with heap:=h',toks:=tk}) (h1:il w (kG w) h' s.heap.objs.size (ns.foldl lP [])) (h2:∀b o,s.heap.get? b=U o->h'.get? b=U o),C)->C
theorem ad5(hT:s.TypeIs v T)(eD:¬(sP T==.type "builtin_function_or_method")=J)(h:∀n,Q n s):ax (ar ao w) A (typeNameOfCut k v) Q E s:=
 au (au (uT hT (fz eD (aI (aI (h _))))))
theorem XB(hh:A.handled=aj)(hl:s.heap.get? l=U (bg us m))(hi:dO us.toList ns)(hb:ns.length+1<va):
  ic (ar ao w) A (.builtin "set.__init__" ⟨[.ref s.heap.objs.size,.ref l],[]⟩) (wants (λr kF=>r=.none/\MP w s ns kF) E) {s with heap:=s.heap.push (n7 w)}:=by
 have hS:(s.heap.push (n7 w)).get? s.heap.objs.size=U (n7 w):=eM _ rfl
 have qd:(s.heap.push (n7 w)).get? l=U (bg us m):=dX _ hl
 have hT:DF {s with heap:=s.heap.push (n7 w)} (.ref s.heap.objs.size) "set":=⟨_,hS,rfl⟩
 have HD:DF {s with heap:=s.heap.push (n7 w)} (.ref l) "list":=⟨_,qd,rfl⟩
 have hsz:s.heap.objs.size<(s.heap.push (n7 w)).objs.size:=by rw[Ae];exact nT _
 refine rf PySem.F.entry_set_init Jt.init.plain ?_
 refine au (kc rfl (au (ad5 hT (by decide) λn=>au (kc rfl (au (aI (au (au (nR hS rfl rfl (aI (fz xp ?_)))))))))))
 refine au (au (au (xy HD PySem.F.sub_list_set (xy HD PySem.F.sub_list_frozenset (fz xp (au (uT HD (fz (show ¬(sP "list"==sP "dict")=J by decide) (au (zZ ⟨_,qd,rfl,m,rfl⟩ (au (wpAny_runValue ?_))))))))))))
 refine XC (by exact hh) hl (mh hsz) (zV (ee hsz)) kg ns 0 [] _ hi
  (by exact λb o e=>dX _ (dX _ e)) ⟨_,eM _ rfl,rfl,rfl⟩ (by exact(Uh s.heap).keep λo e=>dX _ e) (by rw[j7,fx];exact hb) λh' tk c1 c2=>?_
 exact aI (aI ⟨rfl,λQ_ k_=>k_ h' tk rfl c2 c1⟩)
theorem S8
  (hh:A.handled=aj) (hl:s.heap.get? l=U (bg us m)) (hi:dO us.toList ns) (hb:ns.length+1<va)
  (h:∀s',MP w s ns s'->Q (.ref s.heap.objs.size) s'):ax (ar ao w) A (call (.type "set") [.ref l]) Q E s:=
 UK (Q₁:=λobj d4=>obj=.ref s.heap.objs.size/\d4={s with heap:=s.heap.push (n7 w)}) Jt (PySem.F.typeCall_set_1 (.ref l)) (S6 (.ref l) ⟨rfl,rfl⟩) λobj d4 q=>by
  rw[q.1,q.2]
  have hT:DF {s with heap:=s.heap.push (n7 w)} (.ref s.heap.objs.size) "set":=⟨_,eM _ rfl,rfl⟩
  exact⟨hT,codeAny_of_tree (au (check_set_init_1 hT (aI ⟨plainId_quiet Jt.init.plain _,ka (XB hh hl hi hb) λr d4 hr=>DX hr λu k=>⟨k.1,h _ k.2⟩⟩)))⟩
end
end
section
set_option maxHeartbeats 3200000
theorem DY{α:Type}{x:α}{l:List α}:∀{j:Nat},l[j]?=U x->(x::l.eraseIdx j).Perm l:=by
 induction l with
 |nil=>exact λh=>ay h
 |cons y r ih=>
  intro j h
  induction j with
  |zero=>rw[aA h];exact .refl _
  |succ j=>exact(JJ _ _ _).trans ((ih h).cons y)
theorem KC{α:Type}{x:α}{l:List α}(h:l[j]?=U x)(hl:l.length=n+1):(l.eraseIdx j).length=n:=Ak ((DY h).length_eq.trans hl)
theorem acC{α:Type}{l:List α}(h:l.length=n+1)(k:Nat):∃x,l[k%l.length]?=U x:=⟨_,gi (Nat.mod_lt _ (h▸uX n))⟩
theorem ZU{α:Type}(next:Nat->Nat)(fuel:Nat):∀(k:Nat) (left:List α) (out:Array α),left.length=fuel->(JU next fuel k left out).toList.Perm (out.toList++left):=by
 induction fuel with
 |zero=>intro k left out h;rw[pg.mp h,bx];exact .refl _
 |succ fuel ih=>
  intro k left out h
  refine(acC h (next k)).elim λx hx=>?_
  rw[show JU next (fuel+1) k left out=(match left[next k%left.length]? with|some x=>JU next fuel (k+1) (left.eraseIdx (next k%left.length)) (out.push x)|none=>out) from rfl,hx]
  refine(ih (k+1) _ (out.push x) (KC hx h)).trans ?_
  rw[xr,aN]
  exact(DY hx).append_left _
theorem SW(next:Nat->Nat)(xs:Array α):(pickOrder next xs).toList.Perm xs.toList:=ZU next xs.size 0 xs.toList #[] rfl
theorem VZ(l:List α)(d:α)(f:α->β):(cb l.length).map (λk=>f (l.getD k d))=l.map f:=by
 refine List.ext_getElem? λi=>?_
 rw[gj,gj]
 by_cases h:i<l.length
 ·rw[Dh h,Option.map_some,j6,gi h];rfl
 ·rw[kZ (mV h),kZ (by rw[g8];exact mV h)];rfl
section
variable {w:aE}{A:bj}{E:ae->aw->Prop}{s:aw}{bt:Bool}
theorem Tc(hn:n≠0)(h:∀i d,i<n->Q i {s with drawn:=d}):ax (ar ao w) A (choose src n) Q E s:=fun Γ p hΓ=>by
 unfold choose
 rw[Sem.wp_choose]
 exact⟨hn,h _ _ (Nat.mod_lt _ (Nat.pos_of_ne_zero hn))⟩
theorem Th{α:Type}(n:Nat):∀(xs:List α) {s:aw} {Q:List α->aw->Prop},xs.length=n->(∀ys d,ys.Perm xs->Q ys {s with drawn:=d})->ax (ar ao w) A (drawOrder n xs) Q E s:=by
 induction n with
 |zero=>intro xs s Q hl h;rw[pg.mp hl] at h ⊢;exact aI (h [] s.drawn (.refl _))
 |succ n ih=>
  intro xs s Q hl h
  induction xs with
  |nil=>exact nomatch hl
  |cons x r=>
   refine au (Tc nofun λi d hi=>?_)
   have hx:=gi hi
   generalize x::r=l at*
   rw[hx]
   exact au (ih (l.eraseIdx i) (KC hx hl) λys d2 hp=>aI (h _ d2 ((hp.cons _).trans (DY hx))))
inductive mz(w:aE)(h:az)(a I:ag)(es:Array (Int×ae))(ep:Nat)(t:bE)(L:List ae)(i:Nat):ae->Prop
 |text (l7:kG w=J) (hL:L=(pickOrder (w.params.setOrder a ep) es).toList.map (·.2)):mz w h a I es ep t L i (.int 0 0)
 |place {slot:Nat} (l7:kG w=ah) (hp:(!t.plain&&aJ (es.size>1))=ah) (hL:L=es.toList.map (·.2)) (hs:j8 t.place slot=i):mz w h a I es ep t L i (.int slot 0)
 |drawn {T:ag} {oT:aP} {order:List Nat} {ne:Nat} (Ir:T≠I) (Qo:T≠a) (hT:h.get? T=U oT) (hc:oT.cls=.type "tuple") (Ij:oT.data=.seq (order.map λk=>gQ (k:Nat)).toArray ne) (cX:∀k∈order,k<es.size)
   (hL:L=order.map λk=>(es.toList.getD k (0,.none)).2):mz w h a I es ep t L i (.ref T)
def m9(w:aE)(h:az)(a I:ag)(L:List ae)(i:Nat):Prop:=∀C:Prop,(∀(o:aP) (es:Array (Int×ae)) (ep:Nat) (t:bE) (oi:aP) (x:ae) (ho:h.get? a=U o) (hd:o.data=.set es ep t) (hf:t.fits es.size=J) (G:fQ (kG w) t) (iW:h.get? I=U oi) (rO:oi.cls=.type "set_iterator") (hL:L.length=es.size) (iB:oi.data=.fields #[x,.int i 0,.ref a,.int es.size 0,.int ep 0]) (k:mz w h a I es ep t L i x),C)->C
theorem m9.typeIs(h:m9 w s.heap a I L i):s.TypeIs (.ref I) "set_iterator":=by
 exact h _ λo es ep t oi x ho hd hf G iW rO _ _ _=>⟨oi,iW,rO⟩
theorem xq:Slot "set_iterator" "__next__" "set_iterator.__next__":=
 .of (owner:="set_iterator") (n:="__next__") (by rw[typeLookup_type,builtinLookup_eq_fast];kernel_rfl) (by decide+kernel) (by decide+kernel) (by decide+kernel)
  (by first|exact .inl (by decide+kernel)|exact .inr (by decide+kernel)) (by rw[isSubtype_type];kernel_rfl)
theorem Js:entryFor table "set_iterator.__next__"=U dD.«set_iterator.__next__»:=entryFor_of_tree ⋯
theorem Jz(a:ae):argsOk "set_iterator.__next__" ⟨[a],[]⟩:=by unfold argsOk;kernel_rfl
theorem SU:entryFor table "set.__iter__"=U dD.«frozenset.__iter__»:=
 entryFor_alias (id':="frozenset.__iter__") (by rw[fastTable_eq_tree];kernel_rfl) rfl (by decide+kernel) (by rw[fastTable_eq_tree];kernel_rfl)
theorem AE(h:Q (kG w) s):ax (ar ao w) A setsByText Q E s:=au (wpAny_askSetting (aI h))
noncomputable abbrev aad(a:ag)(es:Array (Int×ae))(ep:Nat)(x:ae):Obj:={cls:=.type "set_iterator",data:=.fields #[x,.int 0 0,.ref a,.int es.size 0,.int ep 0]}
def TS(w:aE)(s:aw)(a I:ag)(ns:List Int)(s':aw):Prop:=∀C:Prop,(∀(h':az) (tk:Nat) (d:_) (L:List ae) (l:List Int) (e:s'={s with heap:=h',toks:=tk,drawn:=d}) (h1:m9 w h' a I L 0) (h2:dO L l) (h3:l.Perm ns) (h4:s.heap.get? I=aj) (h5:∀b o,s.heap.get? b=U o->h'.get? b=U o),C)->C
theorem Xu(hS:il w (kG w) s.heap a ns)(h:∀I s',TS w s a I ns s'->Q (.ref I) s'):
  ax (ar ao w) A (pyIter (.ref a)) Q E s:=by
 refine hS _ λo es ep t ho hex hd H=>?_
 have hT:s.TypeIs (.ref a) "set":=⟨o,ho,hex.1⟩
 refine wpAny_pyIter_slot hT Sp (qG Sp hT SU ?_ (PySem.F.args_set_iter_1 _))
 have hsz:es.size=ns.length:=H.wW.elim λms hm=>by rw[<-hm.2.length_eq,<-hm.1.length,aO,fO]
 have fin:∀{h1:az} {d:_} {x:ae} {L:List ae},(∀b o,s.heap.get? b=U o->h1.get? b=U o)->mz w (h1.push (aad a es ep x)) a h1.objs.size es ep t L 0 x->L.Perm (es.toList.map (·.2))->
   ax (ar ao w) A.in1 (setEpoch a>>= λe=>newFields "set_iterator" [x,gQ 0,.ref a,gQ es.size,gQ e]>>= λr=>ret r)
    (λfin s'=>∃v,fin=.done (.ret v)/\∃T' r,s'.TypeIs v T'/\typeLookup (.type T') (uW "__next__")=pure (U r)/\Q v s') E {s with heap:=h1,drawn:=d}:=λ{h1 d x L} hk k hp=>by
  refine au (au (nR (hk _ _ ho) hd H.fits (aI (au (lh (aI ⟨_,rfl,"set_iterator",_,⟨_,eM _ rfl,rfl⟩,xq.lookup,?_⟩))))))
  refine H.wW.elim λms hm=>(D7 hp hm.1).elim λl hl=>h _ _ (λQ_ k_=>k_ _ _ _ L l rfl (λQ_ k_=>k_ o es ep t _ x (dX _ (hk _ _ ho)) hd H.fits H.good (eM _ rfl) rfl (by rw[hp.length_eq,aO,fO]) rfl k) hl.1 (hl.2.trans hm.2) ?_ (λb o e=>dX _ (hk _ _ e)))
  cases q:s.heap.get? h1.objs.size with
  |none=>rfl
  |some o'=>exact absurd (gy (hk _ _ q)) (sL _)
 refine au (au (kc rfl (aI ?_)))
 refine au (au (au (nR ho hd H.fits (aI (aI ?_)))))
 refine au (au (nR ho hd H.fits (au (AE (aI ?_)))))
 refine wpAny_ite_split (λhc=>au (Th es.size (cb es.size) g8 λys d xc=>au (lh ?_ ?_))) λhc=>au (aI ?_)
 ·have hl:ys.length=es.size:=xc.length_eq.trans g8
  exact fin (λb o e=>dX _ e) (.drawn (hJ (by rw[Ae];exact nT _)) (mh (gy ho)) (dX _ (eM _ rfl)) rfl rfl (λk hk=>lr.mp (xc.mem_iff.mp hk)) rfl) (VZ es.toList (0,.none) (·.2)▸xc.map _)
 ·show(ys.map λi=>gQ (i:Nat)).toArray.size<=bQ
  rw[uL,aO,xc.length_eq,g8];exact fits_of_scanBound H.room
 ·have wG:¬(!kG w&&(!t.plain&&aJ (es.size>1)))=true:=hc
  cases l7:kG w with
  |true=>exact fin (λb o e=>e) (.text l7 rfl) ((SW (w.params.setOrder a ep) es).map _)
  |false=>
   rw[l7] at wG
   exact fin (λb o e=>e) (.place l7 (xt.mpr wG) rfl (U1 H.good.rise)) (.refl _)
end
end
section
set_option maxHeartbeats 3200000
section
variable {w:aE}{A:bj}{E:ae->aw->Prop}{s:aw}{bt:Bool}{a I:ag}{L:List ae}{i:Nat}{es:Array (Int×ae)}{ep:Nat}{t:bE}
theorem Wb(h:t.fits n=J):t.place.size=n:=beq_iff_eq.mp (bl h)
theorem AN{n:Int}:¬(n !=n)=true:=by rw[bne_self_eq_false];exact bo
theorem LB{n:Nat}:¬(n !=n)=true:=by rw[bne_self_eq_false];exact bo
theorem Wr{o:aP}(ho:s.heap.get? a=U o)(hd:o.data=.set es ep t)(hf:t.fits es.size=J)(G:fQ (kG w) t){n:Int}{h:az}(k:mz w h a I es ep t L i (.int n 0)){Q:Option (ae×Nat)->aw->Prop}
  (h1:∀v nx,L[i]?=U v->(∀h',mz w h' a I es ep t L (i+1) (.int (nx:Nat) 0))->Q (U (v,nx)) s) (h2:L[i]?=aj->Q aj s):ax (ar ao w) A (setNext a n.toNat i ep) Q E s:=by
 cases k with
 |text l7 hL=>
  have hg:L[i]?=((pickOrder (w.params.setOrder a ep) es)[i]?).map (·.2):=by rw[hL,gj,dG]
  refine au<|nR ho hd hf<|au<|AE<|yr l7<|fz LB<|au<|au<|nR ho hd hf<|au<|AE<|yr l7<|au<|wpAny_askSetting<|aI<|aI ?_
  show Q (((pickOrder (w.params.setOrder a ep) es)[i]?).map λe=>(e.2,Eo 0)) s
  cases q:(pickOrder (w.params.setOrder a ep) es)[i]? with
  |some e=>rw[q] at hg;exact h1 _ 0 hg λh'=>.text l7 hL
  |none=>rw[q] at hg;exact h2 hg
 |@place slot l7 hp hL hs=>
  have hps:=Wb hf
  have hg:L[i]?=(es[i]?).map (·.2):=by rw[hL,gj,dG]
  refine au<|nR ho hd hf<|au<|AE<|fz (by rw[l7];exact bo)<|fz (show ¬(!t.plain&&aJ (es.size>1))=J by rw[hp];exact bo)<|au<|fz (show ¬(!t.led&&!es.isEmpty)=J by rw[G.led,l7];exact bo)<|aI<|aI ?_
  show Q (match es[j8 t.place slot]?,t.place[j8 t.place slot]? with|some (_,x),U j=>U (x,j+1)|_,_=>aj) s
  rw[hs]
  cases q:es[i]? with
  |some e=>
   have hi:i<t.place.size:=hps▸(sj.mp q).1
   have q2:=xg hi
   rw[q] at hg
   rw[q2]
   exact h1 _ _ hg λh'=>.place l7 hp hL (below_at G.rise ((dG ..).trans q2)).2
  |none=>
   rw[q] at hg
   exact h2 hg
theorem Tg{o:aP}(ho:s.heap.get? a=U o)(hd:o.data=.set es ep t)(hf:t.fits es.size=J){k:Nat}{e:Int×ae}(hk:es[k]?=U e){Q:ae->aw->Prop}(h:Q e.2 s):ax (ar ao w) A (setNextDrawn a k ep) Q E s:=by
 refine au<|nR ho hd hf<|fz LB ?_
 rw[hk];exact aI h
theorem mz.afy{h:az}{P:ae->Prop}{x:ae}(k:mz w h a I es ep t L i x)(h1:∀n,mz w h a I es ep t L i (.int n 0)->P (.int n 0))(h2:∀T,mz w h a I es ep t L i (.ref T)->P (.ref T)):P x:=by
 induction k with
 |text a b=>exact h1 _ (.text a b)
 |place a b c d=>exact h1 _ (.place a b c d)
 |drawn a b c d e f g=>exact h2 _ (.drawn a b c d e f g)
noncomputable abbrev itF(x:ae)(i:Int)(a:ag)(n ep:Nat):Array Value:=#[x,.int i 0,.ref a,.int n 0,.int ep 0]
theorem xS{h:az}{I:ag}{oi:aP}{vs:Array ae}(iW:h.get? I=U oi)(iB:oi.data=.fields vs)(f:Array ae->Array ae):(h.update I (uR f)).get? I=U (oi.mapFields f)/\(oi.mapFields f).data=.fields (f vs):=
 ⟨qA _ iW (aP.isFreed_of_fields (aP.data_mapFields iB _)),aP.data_mapFields iB _⟩
def Ew(w:aE)(A:bj)(E:ae->aw->Prop)(I:ag)(s:aw)(P:AF->aw->Prop):Prop:=∀h',mf I s.heap h'->ax (ar ao w) A (newExc (.type "StopIteration") []>>= λe=>raiseNew e) P E {s with heap:=h'}
theorem JS{P:AF->aw->Prop}(hI:m9 w s.heap a I L i)(item:∀v h',L[i]?=U v->m9 w h' a I L (i+1)->mf I s.heap h'->P (.done (.ret v)) {s with heap:=h'})
  (stop:L[i]?=aj->Ew w A E I s P):ax (ar ao w) A (dD.«set_iterator.__next__» ⟨[.ref I],[]⟩) P E s:=by
 refine hI _ λo es ep t oi x ho hd hf G iW rO hL iB k=>?_
 have wM:a≠I:=λq=>by
  rw[q,iW] at ho
  rw[<-aA ho,iB] at hd
  exact nomatch hd
 refine k.afy (P:=λx=>mz w s.heap a I es ep t L i x->oi.data=.fields (itF x i a es.size ep)->ax (ar ao w) A (dD.«set_iterator.__next__» ⟨[.ref I],[]⟩) P E s) (λn j k iB=>?_) (λT j k iB=>?_) k iB
 ·refine au<|kc rfl<|au<|wpAny_fieldsOf iW iB<|au<|au<|nR ho hd hf<|aI<|fz AN<|au<|Wr ho hd hf G k (λv nx hv k2=>?_) λhv=>?_
  ·have F1:=xS iW iB (·.setIfInBounds 0 (gQ nx))
   have F2:=xS F1.1 F1.2 (·.setIfInBounds 1 (gQ ((i:Int)+1)))
   have S2:=(nQ s.heap I (uR (·.setIfInBounds 0 (gQ nx)))).trans (nQ _ I (uR (·.setIfInBounds 1 (gQ ((i:Int)+1)))))
   exact au<|sG iW iB (show 0<5 by decide)<|au<|sG F1.1 F1.2 (show 1<5 by decide)<|aI<|item v _ hv (λQ_ k_=>k_ o es ep t _ (.int (nx:Nat) 0) ((S2.2 a wM).trans ho) hd hf G F2.1 ((Dr ..).trans ((Dr ..).trans rO)) hL F2.2 (k2 _)) S2
  ·exact au<|sG iW iB (show 2<5 by decide)<|stop hv _ (nQ ..)
 ·cases k with
  |@drawn _ oT order ne Ir Qo hT hc Ij cX QU=>
   refine au<|kc rfl<|au<|wpAny_fieldsOf iW iB<|au<|au<|nR ho hd hf<|aI<|fz AN<|au<|wpAny_seqItems hT Ij ?_
   have hg:L[i]?=(order[i]?).map λk=>(es.toList.getD k (0,.none)).2:=by rw[QU,gj]
   have hp:(order.map λk=>gQ (k:Nat)).toArray[(i:Int).toNat]?=(order[i]?).map λk=>gQ (k:Nat):=by rw[Ss,gj];rfl
   dsimp only
   rw[hp]
   cases q:order[i]? with
   |some k=>
    rw[q] at hg
    have hk:=cX k (List.mem_of_getElem? q)
    have S1:=nQ s.heap I (uR (·.setIfInBounds 1 (gQ ((i:Int)+1))))
    have F1:=xS iW iB (·.setIfInBounds 1 (gQ ((i:Int)+1)))
    have e1:es[k]?=U (es.toList.getD k (0,.none)):=by rw[<-dG,j6,gi hk];rfl
    refine au<|Tg ho hd hf e1<|au<|sG iW iB (show 1<5 by decide)<|aI<|item _ _ hg (λQ_ k_=>k_ o es ep t _ (.ref T) ((S1.2 a wM).trans ho) hd hf G F1.1 ((Dr ..).trans rO) hL F1.2 (.drawn Ir Qo ((S1.2 T Ir).trans hT) hc Ij cX QU)) S1
   |none=>
    rw[q] at hg
    have F1:=xS iW iB (·.setIfInBounds 0 (gQ 0))
    exact au<|sG iW iB (show 0<5 by decide)<|au<|sG F1.1 F1.2 (show 2<5 by decide)<|stop hg _ ((nQ ..).trans (nQ ..))
theorem TF(hI:m9 w s.heap a I L i)(hv:L[i]?=U v)(hQ:∀h',m9 w h' a I L (i+1)->mf I s.heap h'->Q (U v) {s with heap:=h'}):ax (ar ao w) A (lD (.ref I)) Q E s:=
 au<|wpAny_attempt<|wpAny_callSpecial?_slot hI.typeIs xq<|qG xq hI.typeIs Js
  (JS hI (λv' h' e1 e2 e3=>⟨v',rfl,aI (aA (hv.symm.trans e1)▸hQ h' e2 e3)⟩) λe=>mM (hv.symm.trans e)) (Jz _)
theorem adO(e:s.heap.get? a=U o)(h:o.cls=.type T):s.TypeIs (.ref a) T:=⟨o,e,h⟩
theorem Lj(hh:A.handled=aj)(hQ:∀h' x,uZ I s.heap h'/\DF {s with heap:=h'} x "StopIteration"->E x {s with heap:=h'}):Ew w A.in1 E I s P:=λh' hs=>by
 refine au<|au<|lh (au<|kc rfl<|lh<|au<|wpAny_handled ?_) (show 0<=bQ from eO _)
 rw[show A.in1.handled=aj from hh]
 exact au<|aI<|wpAny_throw<|hQ _ (.ref _) ⟨((hs.extBut).push _).push _,adO (eM _ rfl) rfl⟩
theorem Tz(hh:A.handled=aj)(hI:m9 w s.heap a I L i)(hv:L[i]?=aj)(hQ:∀h',uZ I s.heap h'->Q aj {s with heap:=h'}):ax (ar ao w) A (lD (.ref I)) Q E s:=
 au<|wpAny_attempt<|wpAny_callSpecial?_slot hI.typeIs xq<|qG xq hI.typeIs Js
  (JS hI (λv' h' e1 e2 e3=>ay (hv.symm.trans e1)) λj=>Lj hh λh' x e=>au<|xy e.2 isSubtype_stop<|aI<|hQ _ e.1) (Jz _)
theorem XN(hT:s.TypeIs (.ref r) "set")(h:Q ah s):ax (ar ao w) A (RW (.ref r)) Q E s:=by
 unfold RW
 refine au (wpAny_specialOf hT PySem.F.slot_set_len.lookup ?_)
 generalize QS:("set.__len__":String)=id0
 wp_delta
 rw[show splitId id0=U ("set","__len__") from by subst QS;decide+kernel]
 subst QS
 exact au<|xy (b:=J) hT (by rw[isSubtype_type];kernel_rfl)<|fz bo<|yr (by decide+kernel)<|au<|uT hT<|aI h
theorem Ag{h h':az}{S:ag}{acc:Array ae}(k:m9 w h a I L i)(hS:h.get? S=U (bg acc c))(e:∀b o,b≠S->h.get? b=U o->h'.get? b=U o):S≠I/\m9 w h' a I L i:=by
 have ne:∀{b:ag} {o:aP},h.get? b=U o->o.cls≠.type "list"->b≠S:=λh1 h2 q=>h2 (by rw[q,hS] at h1;rw[<-aA h1])
 refine k _ λo es ep t oi x ho hd hf G iW rO hL iB k=>?_
 have h1:a≠S:=λq=>by
  rw[q,hS] at ho
  rw[<-aA ho] at hd
  exact nomatch hd
 have h2:=ne iW (by rw[rO];decide)
 refine⟨h2.symm,λQ_ k_=>k_ o es ep t oi x (e _ _ h1 ho) hd hf G (e _ _ h2 iW) rO hL iB ?_⟩
 induction k with
 |text a b=>exact .text a b
 |place a b c d=>exact .place a b c d
 |drawn a b c d e' f g=>exact .drawn a b (e _ _ (ne c (by rw[d];decide)) c) d e' f g
theorem setLoop{h0:az}(hh:A.handled=aj){S:ag}{res:ae}(o8:h0.get? I=aj)(hS0:h0.get? S=aj)(hL:L.length<=bQ){R:jq->aw->Prop}
  (hR:∀(σ:aw) h' c',(∀b o,h0.get? b=U o->h'.get? b=U o)->h'.get? S=U (bg L.toArray c')->R (.ok (.ret res)) {σ with heap:=h',gens:=s.gens,os:=s.os}) (k:Nat):
  ∀(i:Nat) (h:az) (acc:Array ae) (c:Nat),i+k=L.length->(∀b o,h0.get? b=U o->h.get? b=U o)->m9 w h a I L i->h.get? S=U (bg acc c)->acc.toList=L.take i->
   ic (ar ao w) A (.builtin "list.extend.loop" ⟨[.ref S,.ref I,res],[]⟩) R {s with heap:=h}:=by
 induction k with
 |zero=>
  intro i h acc c hk ub hI hS oR
  have H9:=(Ag hI hS λb o j e=>e).1
  have hi:L.length=i:=hk.symm
  refine rf RZ C7<|au<|Tz hh hI (kZ (eA hi)) λh' hx=>aI (hR _ h' c (λb o e=>hx b o (tF o8 e) (ub _ _ e)) ?_)
  rw[hx S _ H9 hS,<-List.take_length (l:=L),hi,<-oR]
 |succ k ih=>
  intro i h acc c hk ub hI hS oR
  have H9:=(Ag hI hS λb o j e=>e).1
  have cX:i<L.length:=hk▸Dc (uX k)
  have hx:=gi cX
  generalize L[i]'cX=v at hx
  have hsz:acc.size=i:=by rw[<-fO,oR,qH,xE (ee cX)]
  refine rf RZ C7<|au<|TF hI hx λh' hI' hs=>?_
  have zE:h'.get? S=U (bg acc c):=(hs.2 S H9).trans hS
  have hle:i<=sizeLine:=bf (ee cX) hL
  have CW:∀b o,b≠S->h'.get? b=U o->(h'.update S (mi (·.push v))).get? b=U o:=λb o hb e=>(uF _ _ (mu hb)).trans e
  refine au<|wpAny_updateSeq zE rfl (aI ⟨plainId_quiet C7 _,?_⟩) (hsz▸hle) (by rw[xC,hsz];exact gM hle)
  exact ih (i+1) _ (acc.push v) _ (by rw[qE];exact hk) (λb o e=>CW b o (tF hS0 e) (hs.extBut b o (tF o8 e) (ub _ _ e))) (Ag hI' zE CW).2 (qA (mi (·.push v)) zE rfl)
   (by rw[xr,oR,Dp,hx];rfl)
theorem TY(hh:A.handled=aj)(hS:il w (kG w) s.heap a ns)(hl:ns.length<=bQ):ax (ar ao w) A (collect (.ref a)) (xZ s ns) aC s:=by
 have Q1:s.heap.get? s.heap.objs.size=none:=kg
 have eD:¬(R4 (.ref s.heap.objs.size) (.ref a)||(sP "set")==.type "list"||(sP "set")==.type "tuple")=true:=by
  refine hS _ λo es ep t ho hex hd H=>?_
  rw[show R4 (.ref s.heap.objs.size) (.ref a)=ah from beq_eq_false_iff_ne.mpr λq=>mh (gy ho) q]
  decide
 refine Kr ?_
 have hL0:(s.heap.push {cls:=.type "list",data:=.seq ([]:List ae).toArray}).get? s.heap.objs.size=U (bg #[] 0):=eM _ rfl
 have ub:∀b o,s.heap.get? b=U o->(s.heap.push {cls:=.type "list",data:=.seq ([]:List ae).toArray}).get? b=U o:=λb o e=>dX _ e
 generalize s.heap.push {cls:=.type "list",data:=.seq ([]:List ae).toArray}=h1 at*
 have Ig:il w (kG w) h1 a ns:=hS.keep (ub a)
 refine au<|uT (il.typeIs Ig)<|fz eD<|au<|Xu Ig λI s' hs=>?_
 refine hs _ λh2 tk d L l e hI hi hp hIn hk=>?_
 subst e
 have Iz:=hk _ _ hL0
 have o8:s.heap.get? I=none:=by
  cases q:s.heap.get? I with
  |none=>rfl
  |some o=>exact ay (hIn.symm.trans (ub _ _ q))
 have CR:=qA (mi (·.push qO)) Iz rfl
 have ho:∀b o,b≠s.heap.objs.size->h2.get? b=U o->((h2.update s.heap.objs.size (mi (·.push qO))).update s.heap.objs.size (mi (·.pop))).get? b=U o:=λb o hb e=>(uF _ _ (mu hb)).trans ((uF _ _ (mu hb)).trans e)
 refine au<|gN<|XN (il.typeIs (Ig.keep λo e=>hk a o e))<|yr (by decide+kernel)<|au<|wpAny_rule<|au<|au<|wpAny_updateSeq Iz rfl<|wpAny_updateSeq CR rfl<|aI ⟨plainId_quiet C7 _,?_⟩
 exact setLoop hh o8 Q1 (by rw[hi.length,hp.length_eq];exact hl) (fun σ h' c' f1 f2 Q_ k_=>k_ L.toArray c' rfl ⟨f1,rfl,rfl⟩ f2 ⟨l,hp,by rw[Jp];exact hi⟩) L.length 0 _ #[] _ (fx _)
  (λb o e=>ho b o (tF Q1 e) (hk _ _ (ub _ _ e))) (Ag hI Iz ho).2 (qA (mi (·.pop)) CR rfl) rfl
end
end
section
section
variable {w:aE}{K:aS}{mg mb:af->Option ae}{F:Fm}{s s':S}{g:Gh}{x:List ag}{σ σ':aw}{A:bj}{cx:Cx}{n:Nat}{ih:I}{G:bR}
theorem uU(hs:args.any (·.1)=ah)(h:ax (ar ao w) A (spliced args) (λvs s'=>Q ⟨vs,[]⟩ s') aC σ):ax (ar ao w) A (evalArgs f J args []) Q aC σ:=by
 induction args with
 |nil=>exact au<|aW h λvs s' h'=>au<|aI<|gN<|au<|aI<|au<|aI<|aI h'
 |cons p r=>
  rw[JN,Jj] at hs
  have e:p=(ah,p.2):=Prod.ext hs.1 rfl
  rw[e] at h ⊢
  exact Calls.evalArgs_plain h
theorem JQ(hk:keepIn K (.ref a)=J)(hs:args.any (·.1)=ah)
  (h:ax (ar ao w) A (spliced args) (λvs s1=>K.In s1.heap/\ic (ar ao w) A (.call (.ref a) ⟨first++vs,[]⟩) (λr σ'=>∃y,r=.ok (.ret y)/\Q y σ') s1) aC σ):
  ax (ar ao w) A (sS pos (.ref a) first args []) Q aC σ:=
 callWith_of (by rw[hs];rfl) (keeps_K hk) (uU hs (aW h λvs s1 h1=>⟨h1.1,wpAny_call (ka h1.2 λr σ' hr=>hr.elim λy hy=>hy.1▸hy.2)⟩))
theorem KP(T:eG w K mg mb G)(C:cz w K mg mb cx F)(H:Full w F s g [] σ)(h:dU G cx y s=U (.val v))(k:∀u,Den w g.z g.cs v u->Q u σ):ax (ar ao w) A (eval (.Name y p) F.env) Q aC σ:=by
 have hd:(y==("__debug__":af))=false:=by
  refine beq_eq_false_iff_ne.mpr λe=>?_
  unfold dU at h
  rw[if_pos e] at h
  cases h
 exact wpAny_Name (yo T C H h λu hu j=>k u (ly hu).1) hd
theorem WK(ns:List Int)(k x:Int):x∈lP ns k↔x∈ns\/x=k:=by
 unfold lP
 by_cases h:k∈ns
 ·rw[if_pos h];exact⟨.inl,λq=>q.elim id λe=>e▸h⟩
 ·rw[if_neg h,gx,cK]
theorem Kd(h:ns.Nodup)(k:Int):(lP ns k).Nodup:=by
 unfold lP
 by_cases hk:k∈ns
 ·rw[if_pos hk];exact h
 ·rw[if_neg hk]
  exact cM.mpr ⟨h,eN.mpr ⟨uN,.nil⟩,λa ha b hb e=>hk (cK.mp hb▸e▸ha)⟩
theorem Ka(l:List Int):∀ns:List Int,ns.Nodup->(l.foldl lP ns).Nodup/\∀x,x∈l.foldl lP ns↔x∈ns\/x∈l:=by
 induction l with
 |nil=>exact λns h=>⟨h,λx=>⟨.inl,λq=>q.elim id dq⟩⟩
 |cons k r ih=>exact λns h=>⟨(ih _ (Kd h k)).1,λx=>by rw[ll,(ih _ (Kd h k)).2,WK,cf,or_assoc]⟩
theorem MG(l:List Int):(fZ l).Nodup/\∀x,x∈fZ l↔x∈l:=by
 induction l with
 |nil=>exact⟨.nil,λx=>Iff.rfl⟩
 |cons k r ih=>
  rw[show fZ (k::r)=(if r.contains k then fZ r else k::fZ r) from rfl]
  by_cases hc:r.contains k=J
  ·rw[if_pos hc]
   exact⟨ih.1,λx=>(ih.2 x).trans ⟨.tail _,λq=>(cf.mp q).elim (λe=>e▸xk.mp hc) id⟩⟩
  ·rw[if_neg hc]
   exact⟨eN.mpr ⟨λq=>hc (xk.mpr ((ih.2 k).mp q)),ih.1⟩,λx=>by rw[cf,cf,ih.2]⟩
theorem LF(l:List Int):(l.foldl lP []).Perm (fZ l):=
 (List.perm_ext_iff_of_nodup (Ka l [] .nil).1 (MG l).1).mpr λx=>((Ka l [] .nil).2 x).trans (Iff.trans ⟨λq=>q.elim dq id,.inr⟩ ((MG l).2 x).symm)
theorem WL(l:List Int):sortI (l.foldl lP [])=sortI (fZ l):=Nt ((sortI_perm _).trans ((LF l).trans (sortI_perm _).symm)) (DH _) (DH _)
def pV(w:aE)(ρ z:Z)(cs:List ag)(xs:List V)(a:ag):Prop:=∀C:Prop,(∀(us:Array ae) (k:Nat) (h:ρ a=U (bg us k)) (d:aF w z cs xs us.toList) (l:xs.length<=bQ),C)->C
def yH(w:aE)(ρ z:Z)(cs:List ag)(ks vs:List V)(a:ag):Prop:=∀C:Prop,(∀(es:Array cm) (n:Nat) (h:ρ a=U (cB es n)) (d:cn w z cs ks vs es.toList) (hn:NoSys a ks) (l:ks.length<=bQ),C)->C
def afR(w:aE)(ρ z:Z)(cs:List ag)(c:Nat)(ns:List af)(vs:List V)(a:ag)(o:List ag):Prop:=∀C:Prop,(∀(b:ag) (es:Array cm) (n:Nat) (e:o=[a,b]) (h:ρ a=U (kj c b)) (hd:ρ b=U (cB es n)) (d:dA w z cs ns vs es.toList) (hn:ns.Nodup),C)->C
def PR(w:aE)(ρ z:Z)(cs:List ag)(a:ag)(o:List ag):M->Prop
 |.list xs=>pV w ρ z cs xs a/\o=[a]
 |.dict ks vs=>yH w ρ z cs ks vs a/\o=[a]
 |.inst c ns vs=>afR w ρ z cs c ns vs a o
 |.gone v=>Den w z cs v (.ref a)/\v.free=J/\o=[]
theorem de.inv(h:de w z cs ρ m a o):PR w ρ z cs a o m:=
 de.casesOn (motive:=λm a o j=>PR w ρ z cs a o m) h (λh k l=>⟨λQ_ k_=>k_ _ _ h k l,rfl⟩) (λh k n l=>⟨λQ_ k_=>k_ _ _ h k n l,rfl⟩) (λh hd k n Q_ k_=>k_ _ _ _ rfl h hd k n) λh f=>⟨h,f,rfl⟩
def Pm(w:aE)(ρ z:Z)(cs:List ag)(u:ae)(o:List ag):Sl->Prop
 |.val v=>Den w z cs v u/\o=[]
 |.list xs=>∃p,u=.ref p/\pV w ρ z cs xs p/\o=[p]
 |.dict ks vs=>∃p,u=.ref p/\yH w ρ z cs ks vs p/\o=[p]
theorem dr.inv(h:dr w z cs ρ sl u o):Pm w ρ z cs u o sl:=
 dr.casesOn (motive:=λsl u o j=>Pm w ρ z cs u o sl) h (λh=>⟨h,rfl⟩) (λh k l=>⟨_,rfl,λQ_ k_=>k_ _ _ h k l,rfl⟩) λh k n l=>⟨_,rfl,λQ_ k_=>k_ _ _ h k n l,rfl⟩
theorem AV(H:Full w F s g x σ)(q:lk y s.vars=U (.list xs))(hy:lk y g.vl=U u):∃p,u=.ref p/\pV w g.ρ g.z g.cs xs p:=
 (Be H q).elim λv h=>h.elim λo h=>aA (h.1.symm.trans hy)▸h.2.inv.imp λp k=>⟨k.1,k.2.1⟩
theorem D5(H:Full w F s g x σ){i:Nat}{a:ag}{xs:List V}(q:s.mem[i]?=U (.list xs))(hc:g.cs[i]?=U a):pV w g.ρ g.z g.cs xs a:=by
 exact H.mem.get q _ λa0 o1 o2 o3 e1 e2 e3 e4=>aA (e1.symm.trans hc)▸e2.inv.1
theorem LK(e:v=.cell i)(h:Den w g.z g.cs v y):∃a,y=.ref a/\g.cs[i]?=U a:=by
 rw[e] at h
 exact h.inv.imp λa h=>h.symm
end
end
section
section
variable {w:aE}{K:aS}{mg mb:af->Option ae}{F:Fm}{s s':S}{g g':Gh}{x:List ag}{σ σ':aw}{A:bj}{cx:Cx}{n:Nat}{ih:I}{G:bR}
noncomputable def lV(x:List ag)(a:ag):Bool:=aJ (a∈x)
theorem vB(h:a∈x):lV x a=true:=decide_eq_true h
theorem A3(h:a∉x):lV x a=false:=decide_eq_false h
noncomputable abbrev gH(F:Fm)(ρ:Z)(x:List ag):Fm:=F.er (lV x) ρ
theorem cz.gH(C:cz w K mg mb cx F)(ρ:Z)(x:List ag):cz w K mg mb cx (gH F ρ x):=⟨C.base,C.kind,C.pW,C.glob,C.blt,C.cmp,C.fn,C.qn,C.loc,C.zo,C.r5,C.lam⟩
theorem Full.y6(H:Full w F s g x σ):∀b∈F.ns++g.ov++g.ot++g.om,b∉x:=λb hb hx=>(cM.mp H.nd).2.2 b hb b hx rfl
theorem Cont.BI(C:Cont w F s g x):Cont w F s g []:={C with nd:=by rw[bx];exact(cM.mp C.nd).1,xo:=λj h=>dq h}
theorem Cont.GZ(C:Cont w F s g [])(h:x.Nodup)(hx:∀b∈x,∃o,g.ρ b=U o)(ho:∀b∈F.ns++g.ov++g.ot++g.om,b∉x):Cont w F s g x:=
 {C with nd:=cM.mpr ⟨by have:=C.nd;rw[bx] at this;exact this,h,λa ha b hb e=>ho a ha (e▸hb)⟩,xo:=hx}
theorem Full.Fo(H:Full w F s g x σ):Full w (gH F g.ρ x) s {g with ρ:=iI (lV x) g.ρ} [] σ:=
 ⟨H.toReg.er _,(H.toCont.BI.mono (Z.le_refl _) λb hb=>xY (A3 (H.y6 b (by rw[bx] at hb;exact hb)))).keep _⟩
theorem Full.AM(H:Full w F s g x σ)(H':Full w (gH F g.ρ x) s' g' [] σ'):Full w F s' {g' with ρ:=ig (lV x) g.ρ g'.ρ} x σ':=
 ⟨H.toReg.ig H'.toReg,((H'.toCont.rm).mono (Z.le_refl _) λb hb=>(H'.eY b hb).elim λo e=>H.toReg.KU H'.toReg e).GZ (cM.mp H.nd).2.1
  (λb hb=>(H.xo b hb).imp λo e=>D8 (vB hb) e) λb hb hx=>(H'.eY b (by rw[bx];exact hb)).elim λo e=>(H.xo b hx).elim λo2 e2=>ay ((H.toReg.apart H'.toReg e (vB hx)).symm.trans e2)⟩
theorem Full.aep(H:Full w F s g x σ)(hx:d∈x)(P:mB d o' σ σ'):Full w F s {g with ρ:=g.ρ.put d o'} x σ':=
 (H.xo d hx).elim λo e=>
  have C:=H.toCont.BI.mono (ρ':=g.ρ.put d o') (Z.le_refl _) (Z.iH λq=>H.y6 d (by rw[bx] at q;exact q) hx)
  ⟨H.toReg.t4 e P,{C with nd:=H.nd,xo:=H.yx}⟩
inductive rC(w:aE)(z:Z)(cs:List ag):List (V×V)->List (ae×ae)->Prop
 |nil:rC w z cs [] []
 |cons {k v:V} {ps:List (V×V)} {a b:ae} {vs:List (ae×ae)} (hk:Den w z cs k a) (hv:Den w z cs v b) (r:rC w z cs ps vs):rC w z cs ((k,v)::ps) ((a,b)::vs)
theorem Xd(h:rC w z cs [] vs):vs=[]:=by cases h;rfl
theorem V0{cs:List ag}{P:List (ae×ae)->Prop}{ps:List (V×V)}{vs:List (ae×ae)}(h:rC w z cs ((k,v)::ps) vs)(q:∀a b r,Den w z cs k a->Den w z cs v b->rC w z cs ps r->P ((a,b)::r)):P vs:=by
 cases h with
 |cons a b r=>exact q _ _ _ a b r
def FK(w:aE)(F:Fm)(s:S)(g:Gh)(d:ag)(ks vs:List V)(σ':aw):Prop:=∀C:Prop,(∀(g':Gh) (es:Array cm) (m:Nat) (h1:g.le g') (h2:Full w F s g' [d] σ') (h3:g'.ρ d=U (cB es m)) (h4:cn w g'.z g'.cs ks vs es.toList) (h5:ks.Nodup) (h6:ks.length<=bQ),C)->C
theorem VY(hA:A.units+5<cLine)(hd:(d==kf)=ah)(ps:List (V×V)):∀{vals:List (ae×ae)} {ks vs cH bM:List V} {g:Gh} {σ:aw} {es:Array cm} {m:Nat},Full w F s g [d] σ->g.ρ d=U (cB es m)->cn w g.z g.cs ks vs es.toList->ks.Nodup->ks.length+ps.length<=bQ->
  rC w g.z g.cs ps vals->nX ps ks vs=U (cH,bM)->ax (ar ao w) A (storeAll d vals) (λj σ'=>FK w F s g d cH bM σ') aC σ:=by
 induction ps with
 |nil=>
  intro vals ks vs cH bM g σ es m H HZ hd hn hl hv h
  rw[Xd hv]
  exact aI (ik (P:=λcH bM=>FK w F s g d cH bM σ) h (λQ_ k_=>k_ g es m g.le_refl H HZ hd hn hl))
 |cons p ps ih=>
  intro vals ks vs cH bM g σ es m H HZ hD hn hl hv h
  have h:=ei h
  refine V0 (P:=λvals=>ax (ar ao w) A (storeAll d vals) (λj σ'=>FK w F s g d cH bM σ') aC σ) hv λa b r hk hv hr=>?_
  have qd:ks.length+ps.length+1<=sizeLine:=hl
  unfold storeAll
  rw[Dy]
  refine au<|au<|(tC h.1).put (it:=ah) hA H.zi (λQ_ k_=>k_ _ _ _ rfl (H.ri _ _ HZ) hD hn hd (bf (fe _ _) (z6 qd))) rfl hk hv λh' t eL m' hs he mN kY=>aI ?_
  refine aW (ih (H.aep (.head _) ⟨hs,he,rfl,rfl⟩) (Z.dp _ _ _) mN kY ?_ hr h.2) λj σ' h2=>?_
  ·have:=EF (k:=p.1) (v:=p.2) (ks:=ks) (vs:=vs) rfl
   exact bf (uI this _) (by rw[qE];exact qd)
  ·exact h2 _ λg2 zv m2 a1 a2 a3 a4 a5 a6 Q_ k_=>k_ g2 zv m2 ⟨a1.z,a1.cs,a1.vl,a1.cl,a1.tv⟩ a2 a3 a4 a5 a6
end
end
section
section
variable {w:aE}{K:aS}{mg mb:af->Option ae}{F:Fm}{s s':S}{g g':Gh}{x:List ag}{σ σ':aw}{A:bj}{cx:Cx}{n:Nat}{ih:I}{G:bR}
structure Gh.ext(g g':Gh):Prop where
 z:Z.le g.z g'.z
 cs:pre g.cs g'.cs
 tv:g'.tv=g.tv
theorem Gh.le.ext{g g':Gh}(h:g.le g'):g.ext g':=⟨h.z,h.cs,h.tv⟩
theorem Gh.qX(g:Gh):g.ext g:=⟨Z.le_refl _,bz _,rfl⟩
theorem Gh.ext.nY{a b c:Gh}(h:a.ext b)(k:b.ext c):a.ext c:=⟨Z.le_trans h.z k.z,kh h.cs k.cs,k.tv.trans h.tv⟩
def gg(w:aE)(F:Fm)(g:Gh)(s':S)(σ':aw):Prop:=∀C:Prop,(∀(g':Gh) (h1:g.ext g') (h2:Full w F s' g' [] σ'),C)->C
theorem gg.le{g0:Gh}(k:g0.ext g)(h:gg w F g s' σ):gg w F g0 s' σ:=by
 exact h _ λg' a b Q_ k_=>k_ g' (k.nY a) b
theorem NT{α:Type}(x:af)(a:α)(l:List (af×α)):lk x (up x a l)=U a/\∀y,y≠x->lk y (up x a l)=lk y l:=by
 induction l with
 |nil=>exact⟨eI.1 rfl,λy h=>eI.2 λq=>h q.symm⟩
 |cons p r ih=>
  by_cases hu:p.1=x
  ·rw[show up x a (p::r)=(p.1,a)::r from ry.1 hu]
   exact⟨eI.1 hu,λy h=>(eI.2 λq=>h (q.symm.trans hu)).trans (eI.2 λq=>h (q.symm.trans hu)).symm⟩
  ·rw[show up x a (p::r)=(p.1,p.2)::up x a r from ry.2 hu]
   refine⟨(eI.2 hu).trans ih.1,λy h=>?_⟩
   by_cases q:p.1=y
   ·exact(eI.1 q).trans (eI.1 q).symm
   ·exact(eI.2 q).trans ((ih.2 y h).trans (eI.2 q).symm)
theorem tw{α:Type}{x y:af}{a u:α}{l:List (af×α)}{P:Prop}(e:lk y (up x a l)=U u)(h1:y=x->a=u->P)(h2:y≠x->lk y l=U u->P):P:=by
 by_cases q:y=x
 ·rw[q,(NT x a l).1] at e;exact h1 q (aA e)
 ·rw[(NT x a l).2 y q] at e;exact h2 q e
theorem acT{n a b c x:List ag}(h:(n++a++b++c++x).Nodup):(a++x++(n++b++c)).Nodup:=by
 have p:=(mS (l₁:=n) (l₂:=a)).append_right (b++c++x)
 have q:=(mS (l₁:=n++b++c) (l₂:=x)).append_left a
 simp only[aN] at h p q ⊢
 exact(p.trans q).nodup h
theorem YV{n a b c:List ag}(h:(a++(n++b++c)).Nodup):(n++a++b++c++[]).Nodup:=by
 have p:=(mS (l₁:=a) (l₂:=n)).append_right (b++c)
 rw[bx]
 simp only[aN] at h p ⊢
 exact p.nodup h
theorem Full.bound(H:Full w F s g x σ){y:af}{sl:Sl}{v:ae}(hv:dr w g.z g.cs g.ρ sl v x){L:ag}{oL:aP}(hL:L∈F.bh.locals::F.bh.cells.map (·.2))(P:mB L oL σ σ')
  (GG:oy (g.ρ.put L oL) F.bh (up y v g.vl)):gg w F g (s.set y sl) σ':=by
 have Qc:=Fm.pP hL
 exact(H.vars.mono (ρ':=g.ρ.put L oL) (Z.le_refl _) (bz _) (Z.iH (H.OJ Qc))).put (hv.mono (ρ':=g.ρ.put L oL) (Z.le_refl _) (bz _) (Z.iH (H.rq Qc λj h=>cy _ h))) _ λoo h1 h2 h3 Q_ k_=>k_ ({g with ρ:=g.ρ.put L oL,vl:=up y v g.vl,ov:=oo}) ⟨Z.le_refl _,bz _,rfl⟩ (H.Ou hL P GG h1 rfl rfl rfl (YV (h3 _ (acT H.nd))) λb hb=>dq hb)
theorem aal{l:List (af×ag)}(hn:(l.map (·.2)).Nodup){a b:af×ag}(ha:a∈l)(hb:b∈l)(e:a.2=b.2):a=b:=by
 induction l with
 |nil=>cases ha
 |cons t r ih=>
  have hn:=eN.mp hn
  rcases cf.mp ha with zl|zl
  ·rcases cf.mp hb with uq|uq
   ·exact zl.trans uq.symm
   ·exact absurd (show t.2∈r.map (·.2) from(zl▸e:t.2=b.2)▸qC uq) hn.1
  ·rcases cf.mp hb with uq|uq
   ·exact absurd (show t.2∈r.map (·.2) from(uq▸e:a.2=t.2)▸qC zl) hn.1
   ·exact ih hn.2 zl uq
theorem ji.elim{av:V}{v:ae}{P:Prop}(h:ji w F s' g σ av v)(k:∀g',g.le g'->Full w F s' g' [] σ->Den w g'.z g'.cs av v->P):P:=by
 exact h _ λg' a b c=>k g' a b c
theorem TH(C:cz w K mg mb cx F)(hF:F.comp=ah)(H:Full w F s g x σ){y:af}{sl:Sl}{v:ae}(hk:F.bh.kindOf y=U .local)(hv:dr w g.z g.cs g.ρ sl v x):
  ax (ar ao w) A (storeName F.bh y v) (λj=>gg w F g (s.set y sl)) aC σ:=
 H.locals.elim λm h=>h.elim λo h=>wpAny_storeName_local hk h.1 (λh' kY iA=>(kl.mp kY).elim λo' k=>H.bound hv (.head _) ⟨λb ob hb q=>iA.extBut b ob hb q,k.1,rfl,rfl⟩
  ⟨⟨o',_,Z.dp _ _ _,k.2,λz u hz CV=>tw hz (λq e=>(if_pos q).trans (congrArg U e)) λq e=>(if_neg q).trans (h.2.2 z u e CV)⟩,
   λp hp=>(H.loc.cell p hp).imp λoc r=>⟨(Z.df _ _ (Fm.EW H.rH hp)).trans r.1,r.2.1,λu h1 h2 h3=>tw h2 (λq j=>nomatch (q▸h3).symm.trans hk) λj e=>r.2.2 u h1 e h3⟩,
   λz u hz=>tw hz (λq j=>.inl (q▸hk)) λj e=>H.loc.kinds z u e⟩) (by rw[C.pW];rfl)
theorem UC(C:cz w K mg mb cx F)(hF:F.comp=ah)(H:Full w F s g x σ){y:af}{sl:Sl}{v:ae}(hk:F.bh.kindOf y=U .cell){c:ag}(ec:F.bh.cells.lookup y=U c)(hv:dr w g.z g.cs g.ρ sl v x):
  ax (ar ao w) A (storeName F.bh y v) (λj=>gg w F g (s.set y sl)) aC σ:=by
 have BR:(y,c)∈F.bh.cells:=mem_of_lookup ec
 have ahw:c≠F.bh.locals:=Fm.EW H.rH BR
 have ahl:(F.bh.cells.map (·.2)).Nodup:=(eN.mp (cM.mp (cM.mp H.rH).1).1).2
 refine(H.loc.cell (y,c) BR).elim λoc r=>r.2.1.elim λv0 adU=>wpAny_storeName_cell C.pW hk ec ⟨oc,H.ri _ _ r.1,adU⟩ λh' kY iA=>kY.elim λo' k=>?_
 refine H.bound hv (.tail _ (qC BR)) ⟨λb ob hb q=>iA.extBut b ob hb q,k.1,rfl,rfl⟩ ⟨H.loc.ns.imp λon h=>h.imp λmn h=>⟨(Z.df _ _ ahw.symm).trans h.1,h.2.1,λz u hz CV=>tw hz (λq j=>nomatch (q▸CV).symm.trans hk) λj e=>h.2.2 z u e CV⟩,λp hp=>?_,
  λz u hz=>tw hz (λq j=>.inr ⟨q▸hk,c,q▸ec⟩) λj e=>H.loc.kinds z u e⟩
 by_cases qc:p.2=c
 ·have HK:p.1=y:=congrArg (·.1) (aal ahl hp BR qc)
  exact⟨o',by rw[qc];exact Z.dp _ _ _,⟨_,k.2⟩,λu h1 h2 h3=>tw h2 (λj e=>e▸k.2) λq j=>absurd HK q⟩
 ·exact(H.loc.cell p hp).imp λox r=>⟨(Z.df _ _ qc).trans r.1,r.2.1,λu h1 h2 h3=>tw h2 (λq j=>absurd (aA (h1.symm.trans (q▸ec))) qc) λj e=>r.2.2 u h1 e h3⟩
theorem Av(C:cz w K mg mb cx F)(hc:cx.comp=ah)(H:Full w F s g x σ){y:af}{sl:Sl}{v:ae}(hk:lk y cx.sc=U .local\/lk y cx.sc=U .cell)(hv:dr w g.z g.cs g.ρ sl v x):
  ax (ar ao w) A (storeName F.env y v) (λj=>gg w F g (s.set y sl)) aC σ:=by
 have hF:F.comp=false:=C.cmp.symm.trans hc
 rw[(C.fn hF).1]
 exact hk.elim (λhk=>TH C hF H (E5 C hF hk) hv) λhk=>(C.qn hF y hk).elim λc ec=>UC C hF H (E5 C hF hk) ec hv
theorem aaE(C:cz w K mg mb cx F)(hc:cx.comp=ah){y:af}{r:R}{v:ae}(hk:lk y cx.sc=U .local\/lk y cx.sc=U .cell)(hr:cg w g r v x):s.Gv y r=U s'->Full w F s g x σ->ax (ar ao w) A (storeName F.env y v) (λj=>gg w F g s') aC σ:=
 cg.casesOn (motive:=λr v x j=>s.Gv y r=U s'->Full w F s g x σ->ax (ar ao w) A (storeName F.env y v) (λj=>gg w F g s') aC σ) hr
  (λhv e H=>aA e▸Av C hc H hk (.val hv))
  (λhz e H=>(dw.mp e).elim λp q=>q.2▸(rp H (.var hz) q.1).elim λg1 a1 a2 a3=>aW (Av C hc a2 hk (.val a3)) λj j e=>e.le a1.ext)
  (λe k l q H=>aA q▸Av C hc H hk (.list e k l)) (λe k n l q H=>aA q▸Av C hc H hk (.dict e k n l))
theorem vf(C:cz w K mg mb cx F)(H:Full w F s g x σ){y:af}{r:R}{v:ae}(h:nt cx y r s=U s')(hr:cg w g r v x):
  cx.comp=ah/\ax (ar ao w) A (storeName F.env y v) (λj=>gg w F g s') aC σ:=by
 unfold nt at h
 cases hc:cx.comp with
 |true=>rw[hc,if_pos rfl] at h;cases h
 |false=>rw[hc,if_neg xp] at h;exact⟨rfl,aaE C hc (ei h).1 hr (ei h).2 H⟩
end
end
section
section
variable {w:aE}{K:aS}{mg mb:af->Option ae}{F:Fm}{s s':S}{g g':Gh}{x:List ag}{σ σ':aw}{A:bj}{cx:Cx}{n:Nat}{ih:I}{G:bR}
theorem UG{l:ag}{us:Array ae}{c:Nat}{k:Int}{t:gY}{v:ae}{Q:Unit->aw->Prop}(ho:σ.heap.get? l=U (bg us c))(h0:0<=k)(hn:k<us.size)(hz:us.size<=bQ)
  (hQ:∀h' c',h'.get? l=U (bg (us.setIfInBounds k.toNat v) c')->(∀b ob,b≠l->σ.heap.get? b=U ob->h'.get? b=U ob)->Q () {σ with heap:=h'}):
  ax (ar ao w) A (setItem (.ref l) (.int k t) v) Q aC σ:=by
 have hl:σ.heap.IsList l us:=gm ho
 have PW:k<2 ^ 63:=uK hn (pn.mpr (bf hz (by decide)))
 refine gN<|au<|wpAny_sequenceKey hl.typeIs (by decide)<|au<|wpAny_callSpecial?_slot hl.typeIs R8<|
  qG R8 hl.typeIs PySem.entry_list_setitem ?_ (PySem.args_list_setitem _ _ _)
 show ax _ _ (dD.List.listSubscript? (.int k t)>>= _) _ _ σ
 refine au<|wpAny_listSubscript_int (fitsIndex_of h0 PW) ?_
 clear PW
 refine(zR h0).elim λj hj=>?_
 subst hj
 have cX:j<us.size:=hO.mp hn
 have hx:=xg cX
 show ax _ _ ((seqItemAt l j>>= λr=>pure (r.map (j,·)))>>= _) _ _ σ
 refine au<|au<|wpAny_seqItemAt ho rfl<|aI ?_
 rw[hx]
 exact au<|wpAny_setSeqItemAt ho rfl<|au<|aI<|aI ⟨.none,rfl,aI (hQ _ _ (qA (mi (·.setIfInBounds j v)) ho rfl) λb ob hb e=>(uF _ _ (mu hb)).trans e)⟩
theorem LL(H:Full w F s g [a] σ)(hm:de w g.z g.cs g.ρ m a [a]):ji w F {s with mem:=s.mem++[m]} g σ (.cell s.mem.length) (.ref a):=by
 have hp:pre g.cs (g.cs++[a]):=u4 _ _
 refine λQ_ k_=>k_ ({g with cs:=g.cs++[a],om:=g.om++[a]}) ⟨Z.le_refl _,hp,rfl,rfl,rfl⟩ ⟨H.toReg,H.loc,H.tb,H.cmp,H.vars.mono (Z.le_refl _) hp λj j=>rfl,H.bX.mono (Z.le_refl _) hp λj j=>rfl,
  (H.mem.mono (Z.le_refl _) hp λj j=>rfl).snoc (hm.mono (Z.le_refl _) hp λj j=>rfl),H.cv.mono (Z.le_refl _) hp,?_,λb hb=>dq hb⟩ (.cell ?_)
 ·rw[bx,<-aN];exact H.nd
 ·rw[H.mem.length,mQ (aQ _),qK];rfl
theorem Ll(H:Full w F s g x σ)(hr:cg w g r y x)(h:cellOf r s=U (v,s')):ji w F s' g σ v y:=
 cg.casesOn (motive:=λr y x j=>cellOf r s=U (v,s')->Full w F s g x σ->ji w F s' g σ v y) hr (λhd e H=>rp H (.val hd) e) (λhy e H=>rp H (.var hy) e)
  (λh k l e H=>ik (P:=λv s'=>ji w F s' g σ v _) e (LL H (.list h k l))) (λh k n l e H=>ik (P:=λv s'=>ji w F s' g σ v _) e (LL H (.dict h k n l))) h H
theorem Lw{v:ae}{x:af}{t:gY}(h:v=.str x t)(a:af):v.isStr a=aJ (x=a):=by rw[h];rfl
theorem Z6{cs:List ag}{a:af}{y:ae}{t:gY}(hd:Den w z cs v y){ns:List af}:∀{vs:List V} {es:List cm},dA w z cs ns vs es->dA w z cs (jW a ns) (ue a v ns vs) (putL a (sW w a) (.str a t) y es):=by
 induction ns with
 |nil=>intro vs es h;rw[(qU h).2];exact .cons ⟨t,rfl⟩ hd rfl .nil
 |cons m ns ih=>
  exact λh=>vd (P:=λvs es=>dA w z cs (jW a (m::ns)) (ue a v (m::ns) vs) (putL a (sW w a) (.str a t) y es)) h λu us e q hk hv hh k=>hk.elim λt' zd=>by
   by_cases c:m=a
   ·rw[show jW a (m::ns)=m::ns from if_pos c,show ue a v (m::ns) (u::us)=v::us from if_pos c,show putL a (sW w a) (.str a t) y (e::q)=⟨e.hash,e.key,y⟩::q from if_pos ((Lw zd a).trans (decide_eq_true c))]
    exact .cons hk hd hh k
   ·rw[show jW a (m::ns)=m::jW a ns from if_neg c,show ue a v (m::ns) (u::us)=u::ue a v ns us from if_neg c,show putL a (sW w a) (.str a t) y (e::q)=e::putL a (sW w a) (.str a t) y q from if_neg (by rw[Lw zd a,decide_eq_false c];exact bo)]
    exact .cons hk hv hh (ih k)
theorem abc(h:b∈jW a ns):b∈ns\/b=a:=by
 induction ns with
 |nil=>exact .inr (cK.mp h)
 |cons m ns ih=>
  by_cases q:m=a
  ·rw[show jW a (m::ns)=m::ns from if_pos q] at h;exact .inl h
  ·rw[show jW a (m::ns)=m::jW a ns from if_neg q] at h
   exact(cf.mp h).elim (λe=>.inl (e▸.head _)) λh=>(ih h).imp (.tail _) id
theorem V9(h:ns.Nodup):(jW a ns).Nodup:=by
 induction ns with
 |nil=>exact eN.mpr ⟨uN,.nil⟩
 |cons m ns ih=>
  have h1:=eN.mp h
  by_cases q:m=a
  ·rw[show jW a (m::ns)=m::ns from if_pos q];exact h
  ·rw[show jW a (m::ns)=m::jW a ns from if_neg q]
   exact eN.mpr ⟨λhm=>(abc hm).elim h1.1 q,ih h1.2⟩
theorem Xq:∀{vs:List V} {es:List cm},dA w z cs ns vs es->ns.length=es.length:=by
 induction ns with
 |nil=>intro vs es h;rw[(qU h).2];rfl
 |cons m ns ih=>exact λh=>vd (P:=λj es=>(m::ns).length=es.length) h λj j j j j j j k=>congrArg (·+1) (ih k)
theorem WE(name:af)(h:Int)(k v:ae)(es:List cm):(putL name h k v es).length<=es.length+1:=by
 induction es with
 |nil=>exact aQ _
 |cons e r ih=>
  by_cases q:e.key.isStr name=J
  ·rw[show putL name h k v (e::r)=⟨e.hash,e.key,v⟩::r from if_pos q];exact dm _
  ·rw[show putL name h k v (e::r)=e::putL name h k v r from if_neg q];exact gM ih
theorem TP(h:dA w z cs ns vs es):(getL a es).isSome=true:=by
 cases e:lk a (ns.zip vs) with
 |none=>rw[Kx h e];rfl
 |some v=>exact(Ot h e).elim λy k=>by rw[k.1];rfl
noncomputable def Nc(h:az)(L d:ag):List (ag×aP):=(vK h L).filter λp=>aJ (p.1≠d)
theorem news_but(h:az)(L d:ag):News {} L h (Nc h L d):=λp hp=>DR h L p (xD.mp hp).1
theorem TJ(e:h.get? a=U o)(hl:a≠L)(hd:a≠d):(a,o)∈Nc h L d:=xD.mpr ⟨Kg e hl,decide_eq_true hd⟩
theorem Full.Fw(H:Full w F s g x σ)(hp:p∈g.om):p≠F.bh.locals:=λz=>H.BE (Fm.pP (.head _)) (z▸hp)
theorem XT(H:Full w F s g [] σ){i:Nat}{c:Nat}{ns C1:List af}{vs bM:List V}{b d:ag}{es eL:Array cm}{m m':Nat}{o1 o3:List ag}{h':az}{tk:Nat}{mm:af->Option ae}(q:s.mem[i]?=U (.inst c ns vs))(hc:g.cs[i]?=U b)(e3:g.om=o1++[b,d]++o3)
  (hb:g.ρ b=U (kj c d)) (hd:g.ρ d=U (cB es m)) (Hv:dA w g.z g.cs C1 bM eL.toList) (kY:C1.Nodup) (hm:∀y v,lk y g.vl=U v->F.bh.kindOf y=U .local->mm y=U v) (hL:h'.Ns F.bh.locals mm)
  (keep:∀p ob,p≠F.bh.locals->p≠d->σ.heap.get? p=U ob->h'.get? p=U ob) (mN:h'.get? d=U (cB eL m')):gg w F g {s with mem:=s.mem.set i (.inst c C1 bM)} {σ with heap:=h',toks:=tk}:=by
 have Ih:d≠F.bh.locals:=H.Fw (e3▸bp _ (cy _ (.tail _ (.head _))))
 have Q9:b≠F.bh.locals:=H.Fw (e3▸bp _ (cy _ (.head _)))
 have hbd:b≠d:=λq=>by
  have h1:=(cM.mp (cM.mp H.nd).1).2.1
  rw[e3] at h1
  exact(eN.mp (cM.mp (cM.mp h1).1).2.1).1 (q▸.head _)
 have HP:∀p,p≠d->(h'.update d λj=>cB es m).get? p=h'.get? p:=λp hp=>uF _ _ (mu hp)
 have M:Moved F.bh.locals mm σ {σ with heap:=h'.update d λj=>cB es m,toks:=tk}:=by
  refine⟨λp ob hp e=>?_,(kl.mp hL).elim λo' k=>kl.mpr ⟨o',(HP _ (mu Ih)).trans k.1,k.2⟩,rfl,rfl⟩
  by_cases C3:p=d
  ·rw[C3,H.ri _ _ hd] at e
   rw[C3,<-aA e]
   exact qA (λj=>cB es m) mN rfl
  ·exact(HP p C3).trans (keep p ob hp C3 e)
 refine H.moved hm M _ λg1 a1 a2 a3 a4 a5=>?_
 refine λQ_ k_=>k_ ({g1 with ρ:=g1.ρ.put d (cB eL m')}) ⟨a1.z,a1.cs,a1.tv⟩ (a5.EN q (a3▸hc) (λos hmo=>?_) (λp ob hp e=>(HP p hp).symm.trans e) mN rfl rfl)
 refine hmo.inv _ λd0 es0 m0 e w6 uh _ _=>?_
 have e0:=aA ((a4 b Q9▸w6:g.ρ b=_).symm.trans hb)
 have ed:d0=d:=uQ (aA (congrArg (λo:aP=>o.dict.map sR) e0))
 subst ed
 rw[e]
 exact⟨.tail _ (.head _),.inst ((Z.df _ _ hbd).trans ((a4 b Q9).trans hb)) (Z.dp _ _ _) (a2▸a3▸Hv) kY⟩
theorem UL(T:eG w K mg mb G)(C:cz w K mg mb cx F)(hA:cJ n A)(H:Full w F s g [] σ)(q:s.mem[i]?=U (.inst c ns vs))(hc:g.cs[i]?=U b)(hk:G.cls c=U k)
  (ha:a∈k.atts) (hl:ns.length<100) (hv:Den w g.z g.cs v y):
  ax (ar ao w) A (setAttr (.ref b) a y) (λj=>gg w F g {s with mem:=s.mem.set i (.inst c (wV ns vs a v).1 (wV ns vs a v).2)}) aC σ:=by
 refine H.mem.get q _ λb0 o1 o2 o3 e1 e2 e3 e4=>?_
 have eb:b0=b:=aA (e1.symm.trans hc)
 subst eb
 refine e2.inv _ λd es m eo hb hd hF hn=>?_
 rw[eo] at e3
 refine H.locals.elim λmm h=>h.elim λoL h=>?_
 have S:=(T.cls c k hk).set
 have S3:=S.2.2 a ha
 have Ih:d≠F.bh.locals:=H.Fw (e3▸bp _ (cy _ (.tail _ (.head _))))
 have I:=E4 (H.ri _ _ hb) (H.ri _ _ hd)
 refine set_plain (H.wX C) I S.1 (osa_dict (EB h.1) (pre:=[]) (eF.mpr ⟨⟨H.ri _ _ hd,Ih,rfl⟩,news_but _ _ _⟩) (H.wX C) I rfl S.2.1 S3.1 S3.2 (by rw[lookIn_dict];exact TP hF) (λp hp=>dq hp)
  (λp hp=>of_decide_eq_true (xD.mp hp).2) (putName_dict _ _ _ _ _ _) rfl (bf (WE _ _ _ _ _) (Xq hF▸bf hl (by decide))) λh' Hv Qz=>?_)
 exact XT H q hc e3 hb hd (Z6 hv hF) (V9 hn) h.2.2 Hv.ns (λp ob h1 h2 e=>(Qz (p,ob) (.tail _ (TJ e h1 h2))).1) (Qz _ (.head _)).1
end
end
section
section
variable {w:aE}{σ:aw}{A:bj}{E:ae->aw->Prop}
theorem Wo(hd:(d==kf)=ah)(ho:σ.heap.get? d=U (cB es ep))
  (hQ:Q (.ref σ.heap.objs.size) {σ with heap:=σ.heap.push {cls:=.type "dict_keyiterator",data:=.fields #[.ref d,.int 0 0,.int es.size 0,.int ep 0]}}):
  ax (ar ao w) A (pyIter (.ref d)) Q E σ:=by
 have hT:σ.TypeIs (.ref d) "dict":=⟨_,ho,rfl⟩
 refine wpAny_pyIter_slot hT F.slot_dict_iter (qG F.slot_dict_iter hT F.entry_dict_iter ?_ (F.args_dict_iter_1 _))
 refine au<|au<|wpAny_notOrdered_dict hT<|aI ?_
 show ax _ _ (dD.Dict.showsAll d>>= _) _ _ σ
 refine au<|fz (show ¬(d==kf)=J by rw[hd];exact xp)<|aI<|au<|wpAny_dictEntries ho rfl<|au<|wpAny_dictEpoch ho rfl<|au<|lh ?_
 exact aI ⟨_,rfl,"dict_keyiterator",_,⟨_,eM _ rfl,rfl⟩,zN.lookup,hQ⟩
theorem Ez(hT:σ.TypeIs (.ref it) "dict_keyiterator")(h:Q 0 σ):ax (ar ao w) A (typeNameOfWhole (.ref it)>>= λn=>pure (if RU n=J then 2 else 0)) Q E σ:=
 au<|wpAny_typeNameOfWhole_keyiter hT<|aI (by rw[if_neg (show ¬RU "dict_keyiterator"=J by decide)];exact h)
theorem KY(hit:σ.heap.IsKeyIter it d i es.size ep)(xf:σ.heap.get? d=U (cB es ep))
  (item:∀e h',es[i]?=U e->h'.IsKeyIter it d (i+1) es.size ep->mf it σ.heap h'->P (.done (.ret e.key)) {σ with heap:=h'}) (stop:es[i]?=aj->Ew w A E it σ P):ax (ar ao w) A (dD.«dict_keyiterator.__next__» ⟨[.ref it],[]⟩) P E σ:=by
 refine hit.elim λo h=>?_
 have hT:=hit.typeIs
 have F1:=xS h.1 h.2.2 (·.setIfInBounds 1 (gQ ((i:Int)+1)))
 have S1:=nQ σ.heap it (uR (·.setIfInBounds 1 (gQ ((i:Int)+1))))
 have PQ:(σ.heap.update it (uR (·.setIfInBounds 1 (gQ ((i:Int)+1))))).IsKeyIter it d (i+1) es.size ep:=⟨_,F1.1,(Dr ..).trans h.2.1,F1.2⟩
 refine au<|aI<|au<|au<|Ez hT<|au<|wpAny_fieldsOf h.1 h.2.2 ?_
 refine fz (show ¬(sR d==qO)=J from xp)<|au<|aI<|au<|wpAny_dictEntries xf rfl<|fz AN<|au<|aI<|au<|wpAny_dictEpoch xf rfl<|fz AN<|aI ?_
 dsimp only
 rw[if_neg (show ¬((i:Int)<0) from gA.mpr (fw i)),nS]
 cases q:es[i]? with
 |some e=>
  refine au<|Ez hT<|au<|wpAny_isOneOf_keyiter hT ?_
  refine au<|sG h.1 h.2.2 (show 1<4 by decide)<|au<|gN<|au<|wpAny_isOneOf_keyiter PQ.typeIs ?_
  exact aI<|aI<|item e _ q PQ S1
 |none=>exact au<|Ez hT<|au<|sG h.1 h.2.2 (show 0<4 by decide)<|stop q _ (nQ ..)
theorem Vu(hit:σ.heap.IsKeyIter it d i es.size ep)(xf:σ.heap.get? d=U (cB es ep))(hx:es[i]?=U e)
  (hQ:∀h',h'.IsKeyIter it d (i+1) es.size ep->mf it σ.heap h'->Q (U e.key) {σ with heap:=h'}):ax (ar ao w) A (lD (.ref it)) Q E σ:=
 au<|wpAny_attempt<|wpAny_callSpecial?_slot hit.typeIs zN<|qG zN hit.typeIs RT
  (KY hit xf (λe' h' e1 e2 e3=>⟨_,rfl,aI (aA (hx.symm.trans e1)▸hQ h' e2 e3)⟩) λe=>mM (hx.symm.trans e)) (RS _)
theorem XW(hh:A.handled=aj)(hit:σ.heap.IsKeyIter it d i es.size ep)(xf:σ.heap.get? d=U (cB es ep))(hx:es[i]?=aj)
  (hQ:∀h',uZ it σ.heap h'->Q aj {σ with heap:=h'}):ax (ar ao w) A (lD (.ref it)) Q E σ:=
 au<|wpAny_attempt<|wpAny_callSpecial?_slot hit.typeIs zN<|qG zN hit.typeIs RT
  (KY hit xf (λe' h' e1 e2 e3=>ay (hx.symm.trans e1)) λj=>Lj hh λh' x e=>au<|xy e.2 isSubtype_stop<|aI<|hQ _ e.1) (RS _)
end
end
section
section
variable {w:aE}{K:aS}{mg mb:af->Option ae}{F:Fm}{s s':S}{g g':Gh}{x:List ag}{σ σ':aw}{A:bj}{E:ae->aw->Prop}{cx:Cx}{n:Nat}{ih:I}{G:bR}
noncomputable abbrev owners:List String:=["enumerate","zip","dict_itemiterator","dict_reverseitemiterator","odict_iterator","itertools.zip_longest","itertools.pairwise"]
def Plain(h:az)(I:ag):Prop:=∀C:Prop,(∀(o:aP) (T:String) (vs:Array ae) (ho:h.get? I=U o) (hc:o.cls=.type T) (hd:o.data=.fields vs) (hT:owners.contains T=ah),C)->C
theorem XR{cZ:ai}{I:ag}{y:ae}{Q:Unit->aw->Prop}(hI:Plain σ.heap I)(hQ:Q () σ):ax (ar ao w) A (z9 cZ (.ref I) y) Q E σ:=by
 refine hI _ λo T vs ho hc hd hT=>?_
 have main:ax (ar ao w) A (do
   let (.ref r,.ref a):=((sR I),y)|return
   let o <-load r
   match o.cls,o.data with
   |.type n,.fields vs=>
    if["enumerate","zip","dict_itemiterator","dict_reverseitemiterator","odict_iterator","itertools.zip_longest","itertools.pairwise"].contains n&&vs[0]?==U (gQ a) then
     rule "for.unpacks-the-owned-tuple"
     updateField r 0 .none
   |_,_=>pure ():Sem Unit) Q E σ:=by
  induction y with
  |ref a=>
   refine au (wpAny_load ho ?_)
   rw[hc,hd]
   exact fz (λq=>bo (hT.symm.trans (bl q))) (aI hQ)
  |_=>exact aI hQ
 cases cZ<;>first|exact main|exact aI hQ
def tB(w:aE)(g:Gh)(h:az)(v:V)(y:ae):Prop:=∀C:Prop,(∀(T:ag) (vals:Array ae) (vs:List V) (e1:v=.tup vs) (e2:y=.ref T) (e3:IsTup h T vals) (e4:aF w g.z g.cs vs vals.toList),C)->C
def js(w:aE)(g:Gh)(h:az)(p:Bool)(v:V)(y:ae):Prop:=if p then tB w g h v y else Den w g.z g.cs v y
structure Src(w:aE)(F:Fm)(A:bj)(cZ:ai)(it:It)(I:ag)(x:List ag)(Inv:Nat->S->Gh->az->Prop):Prop where
 item:∀i s g σ v,Full w F s g x σ->Inv i s g σ.heap->it.at i s=U (U v)->∀(Q:Option ae->aw->Prop) (E:ae->aw->Prop),
  (∀y h' tk,(∀b o,b∉x->σ.heap.get? b=U o->h'.get? b=U o)->
   (∀(Q2:Unit->aw->Prop) (E2:ae->aw->Prop),(∀h2,(∀b o,b∉x->h'.get? b=U o->h2.get? b=U o)->(∀b∈x,∃o,h2.get? b=U o)->Inv (i+1) s g h2->js w g h2 it.pair v y->Q2 () {σ with heap:=h2,toks:=tk})->
    ax (ar ao w) A (z9 cZ (.ref I) y) Q2 E2 {σ with heap:=h',toks:=tk})->Q (U y) {σ with heap:=h',toks:=tk})->
  ax (ar ao w) A (lD (.ref I)) Q E σ
 stop:∀i s g σ,Full w F s g x σ->Inv i s g σ.heap->it.at i s=U aj->∀(Q:Option ae->aw->Prop) (E:ae->aw->Prop),
  (∀h' tk,(∀b o,b∉x->σ.heap.get? b=U o->h'.get? b=U o)->Q aj {σ with heap:=h',toks:=tk})->ax (ar ao w) A (lD (.ref I)) Q E σ
 frame:∀i s g h s' g' h',Inv i s g h->Z.le g.z g'.z->pre g.cs g'.cs->((∃y en,it=.live y en)->g'.vl=g.vl)->(∀b∈x,∀o,h.get? b=U o->h'.get? b=U o)->Inv i s' g' h'
 size:∀i s g σ v,Full w F s g x σ->Inv i s g σ.heap->it.at i s=U (U v)->i<bQ
 self:∀i s g (σ:aw),Inv i s g σ.heap->∀(Q:ae->aw->Prop) (E:ae->aw->Prop),Q (.ref I) σ->ax (ar ao w) A (pyIter (.ref I)) Q E σ
noncomputable def jP(x:List ag)(h:az)(ρ:Z):Z:=λa=>if lV x a then h.get? a else ρ a
theorem s6(e:a∈x):jP x h ρ a=h.get? a:=if_pos (vB e)
theorem q8(e:a∉x):jP x h ρ a=ρ a:=if_neg (by rw[A3 e];exact bo)
theorem Full.BC(H:Full w F s g x σ)(e:g.z b=U ob\/F.kp b=U ob):b∉x:=λhb=>(H.xo b hb).elim λo k=>e.elim (λq=>ay ((H.rz b o k).1.symm.trans q)) λq=>ay ((H.rz b o k).2.symm.trans q)
theorem Full.af8(H:Full w F s g x σ)(hs:∀b o,b∉x->σ.heap.get? b=U o->σ'.heap.get? b=U o)(hx:∀b∈x,∃o,σ'.heap.get? b=U o)(hg:σ'.gens=σ.gens)(ho:σ'.os=σ.os):
  Full w F s {g with ρ:=jP x σ'.heap g.ρ} x σ':=
 ⟨{H.toReg with
   zi:=λb ob e=>hs b ob (H.BC (.inl e)) (H.zi b ob e),ki:=λb ob e=>hs b ob (H.BC (.inr e)) (H.ki b ob e)
   ri:=λb ob e=>by
    by_cases q:b∈x
    ·exact(s6 q).symm.trans e
    ·exact hs b ob q (H.ri b ob ((q8 q).symm.trans e))
   rz:=λb ob e=>by
    by_cases q:b∈x
    ·exact(H.xo b q).elim λo k=>H.rz b o k
    ·exact H.rz b ob ((q8 q).symm.trans e)
   gens:=hg.trans H.gens,os:=ho.trans H.os},
  (H.toCont.BI.mono (Z.le_refl _) λb hb=>q8 (H.y6 b (by rw[bx] at hb;exact hb))).GZ (cM.mp H.nd).2.1 (λb hb=>(hx b hb).imp λo e=>(s6 hb).trans e) H.y6⟩
theorem Full.drop(H:Full w F s g x σ)(hs:∀b o,b∉x->σ.heap.get? b=U o->σ'.heap.get? b=U o)(hg:σ'.gens=σ.gens)(ho:σ'.os=σ.os):
  Full w F s {g with ρ:=iI (lV x) g.ρ} [] σ':=
 have out:∀{b:ag},lV x b=ah->b∉x:=λh q=>bo (h.symm.trans (vB q))
 ⟨{H.toReg with
   zi:=λb ob e=>hs b ob (H.BC (.inl e)) (H.zi b ob e),ki:=λb ob e=>hs b ob (H.BC (.inr e)) (H.ki b ob e),ri:=λb ob e=>hs b ob (out (mX e).1) (H.ri b ob (mX e).2)
   rz:=λb ob e=>H.rz b ob (mX e).2,gens:=hg.trans H.gens,os:=ho.trans H.os},
  H.toCont.BI.mono (Z.le_refl _) λb hb=>xY (A3 (H.y6 b (by rw[bx] at hb;exact hb)))⟩
structure One(w:aE)(A:bj)(it:It)(I:ag)(Inv:Nat->S->Gh->az->Prop):Prop where
 item:∀F i s g σ v,Full w F s g [I] σ->Inv i s g σ.heap->it.at i s=U (U v)->∀(Q:Option ae->aw->Prop) (E:ae->aw->Prop),
  (∀y h' tk,(∀b o,b≠I->σ.heap.get? b=U o->h'.get? b=U o)->Inv (i+1) s g h'->Plain h' I->Den w g.z g.cs v y->Q (U y) {σ with heap:=h',toks:=tk})->ax (ar ao w) A (lD (.ref I)) Q E σ
 stop:∀F i s g σ,Full w F s g [I] σ->Inv i s g σ.heap->it.at i s=U aj->∀(Q:Option ae->aw->Prop) (E:ae->aw->Prop),
  (∀h' tk,(∀b o,b≠I->σ.heap.get? b=U o->h'.get? b=U o)->Q aj {σ with heap:=h',toks:=tk})->ax (ar ao w) A (lD (.ref I)) Q E σ
 frame:∀i s g h s' g' h',Inv i s g h->Z.le g.z g'.z->pre g.cs g'.cs->((∃y en,it=.live y en)->g'.vl=g.vl)->(∀o,h.get? I=U o->h'.get? I=U o)->Inv i s' g' h'
 size:∀F i s g σ v,Full w F s g [I] σ->Inv i s g σ.heap->it.at i s=U (U v)->i<bQ
 self:∀i s g (σ:aw),Inv i s g σ.heap->∀(Q:ae->aw->Prop) (E:ae->aw->Prop),Q (.ref I) σ->ax (ar ao w) A (pyIter (.ref I)) Q E σ
theorem One.src{cZ:ai}{it:It}{I:ag}{Inv:Nat->S->Gh->az->Prop}(O:One w A it I Inv)(hp:it.pair=ah):Src w F A cZ it I [I] Inv where
 item:=λi s g σ v H hI ha Q E hQ=>O.item F i s g σ v H hI ha Q E λy h' tk h1 h2 h3 h4=>hQ y h' tk (λb o hb=>h1 b o λq=>hb (q▸.head _)) λQ2 E2 k2=>XR h3 (k2 h' (λj j j e=>e)
  (λb hb=>by exact h3 _ λo _ _ ho _ _ _=>⟨o,by rw[cK.mp hb];exact ho⟩) h2 (by unfold js;rw[hp];exact h4))
 stop:=λi s g σ H hI ha Q E hQ=>O.stop F i s g σ H hI ha Q E λh' tk h1=>hQ h' tk λb o hb=>h1 b o λq=>hb (q▸.head _)
 frame:=λi s g h s' g' h' hI hz hc hv hk=>O.frame i s g h s' g' h' hI hz hc hv (hk I (.head _))
 size:=O.size F
 self:=O.self
theorem EZ{it:It}(h:it.at i s=U (U v)):∃xs,it.cur s=U xs/\∃u,xs[i]?=U u/\it.out i u=v:=(dw.mp h).imp λxs k=>⟨k.1,dw.mp k.2⟩
theorem Mj{it:It}(h:it.at i s=U aj):∃xs,it.cur s=U xs/\xs[i]?=none:=(dw.mp h).imp λxs k=>⟨k.1,Sg.mp k.2⟩
theorem vO{h h':az}{I:ag}(e:uZ I h h'):∀b o,b≠I->h.get? b=U o->h'.get? b=U o:=λb o hb=>e b o hb
theorem EI(hh:A.handled=aj){I l:ag}{it:It}(ahB:∀i v,it.out i v=v){Base:S->Gh->Prop}(cur:∀F s g σ xs,Full w F s g [I] σ->Base s g->it.cur s=U xs->pV w σ.heap.get? g.z g.cs xs l)
  (fr:∀s g s' g',Base s g->Z.le g.z g'.z->pre g.cs g'.cs->((∃y en,it=.live y en)->g'.vl=g.vl)->Base s' g'):One w A it I (λi s g h=>h.IsListIter I l i/\Base s g) where
 item:=λF i s g σ v H hI ha Q E hQ=>(EZ ha).elim λxs h=>h.2.elim λu hu=>by
  refine cur F s g σ xs H hI.2 h.1 _ λus k e1 e2 _=>?_
  refine(e2.get hu.1).elim λy e=>wpAny_pyNext_list_item hI.1 (gm e1) ((dG ..).symm.trans e.1) λh' rG iA=>hQ y h' σ.toks (vO iA.extBut) ⟨rG,hI.2⟩ ?_ (by rw[<-hu.2,ahB];exact e.2)
  exact rG.elim λoi k Q_ k_=>k_ oi _ _ k.1 k.2.1 k.2.2 (by decide)
 stop:=λF i s g σ H hI ha Q E hQ=>(Mj ha).elim λxs h=>by
  exact cur F s g σ xs H hI.2 h.1 _ λus k e1 e2 _=>wpAny_pyNext_list_end hh hI.1 (gm e1) ((dG ..).symm.trans (e2.none h.2)) λh' t7=>hQ h' σ.toks (vO t7)
 frame:=λi s g h s' g' h' hI hz hc hv hk=>⟨hI.1.at hk,fr s g s' g' hI.2 hz hc hv⟩
 size:=λF i s g σ v H hI ha=>(EZ ha).elim λxs h=>h.2.elim λu hu=>by
  exact cur F s g σ xs H hI.2 h.1 _ λus k e1 e2 e3=>d9 (g7.mp hu.1).1 e3
 self:=λi s g σ hI Q E h=>wpAny_pyIter_listiter hI.1 h
end
end
section
section
variable {w:aE}{K:aS}{mg mb:af->Option ae}{F:Fm}{s s':S}{g g':Gh}{x:List ag}{σ σ':aw}{A:bj}{E:ae->aw->Prop}{cx:Cx}{n:Nat}{ih:I}{G:bR}
def SrcAt(w:aE)(A:bj)(cZ:ai)(it:It)(I:ag)(x:List ag)(s:S)(g:Gh)(h:az):Prop:=∀C:Prop,(∀(Inv:Nat->S->Gh->az->Prop) (h1:∀F:Fm,Src w F A cZ it I x Inv) (h2:Inv 0 s g h),C)->C
theorem Kb{I l:ag}{us:Array ae}{h:az}(hz:∀a o,g.z a=U o->h.get? a=U o)(hB:g.z l=U (bg us k)/\aF w g.z g.cs xs us.toList)(hl:xs.length<=bQ)(e:U xs=U ys):pV w h.get? g.z g.cs ys l:=
 aA e▸(λQ_ k_=>k_ us k (hz _ _ hB.1) hB.2 hl)
theorem UO(hh:A.handled=aj){cZ:ai}{I l:ag}{us:Array ae}(hz:g.z l=U (bg us k))(hd:aF w g.z g.cs xs us.toList)(hl:xs.length<=bQ)(hI:σ.heap.IsListIter I l 0):SrcAt w A cZ (.items ah xs) I [I] s g σ.heap:=
 λQ_ k_=>k_ _ (λF=>(EI hh (it:=.items ah xs) (λj j=>rfl) (λF s g σ ys H hB he=>Kb (I:=I) H.zi hB hl he) λs g s' g' hB hz hc j=>⟨hz _ _ hB.1,hB.2.mono hz hc⟩).src rfl) ⟨hI,hz,hd⟩
theorem OB{sl:Sl}(e:sl.gb=U xs):sl=.list xs:=by
 induction sl with
 |list ys=>exact congrArg Sl.list (aA e)
 |_=>exact ay e
theorem aeh{m:M}(e:m.gb=U xs):m=.list xs:=by
 induction m with
 |list ys=>exact congrArg M.list (aA e)
 |_=>exact ay e
theorem LN(H:Full w F s g x σ)(hB:lk y g.vl=U (.ref l))(e:(It.live y en).cur s=U xs):pV w σ.heap.get? g.z g.cs xs l:=
 (bN.mp e).elim λsl q=>(AV H (q.1.trans (congrArg U (OB q.2))) hB).elim λp k=>by
  rw[uQ k.1]
  exact k.2 _ λus n h d l Q_ k_=>k_ us n (H.ri _ _ h) d l
theorem Wu(H:Full w F s g x σ)(hB:g.cs[c]?=U l)(e:(It.cell c).cur s=U xs):pV w σ.heap.get? g.z g.cs xs l:=
 (bN.mp e).elim λsl q=>by
  exact D5 H (q.1.trans (congrArg U (aeh q.2))) hB _ λus n h d l Q_ k_=>k_ us n (H.ri _ _ h) d l
theorem W0(hh:A.handled=aj){cZ:ai}{I l:ag}{y:af}(hy:lk y g.vl=U (.ref l))(hI:σ.heap.IsListIter I l 0):SrcAt w A cZ (.live y ah) I [I] s g σ.heap:=
 λQ_ k_=>k_ _ (λF=>(EI hh (λj j=>rfl) (λF s g σ ys H hB he=>LN H hB he) λs g s' g' hB hz hc hv=>(hv ⟨y,ah,rfl⟩)▸hB).src rfl) ⟨hI,hy⟩
theorem Yi(hh:A.handled=aj){cZ:ai}{I l:ag}(hc:g.cs[c]?=U l)(hI:σ.heap.IsListIter I l 0):SrcAt w A cZ (.cell c) I [I] s g σ.heap:=
 λQ_ k_=>k_ _ (λF=>(EI hh (λj j=>rfl) (λF s g σ ys H hB he=>Wu H hB he) λs g s' g' hB hz hc hv=>hc _ _ hB).src rfl) ⟨hI,hc⟩
theorem u0(h:(It.items p xs).at i s=U (U v)):xs[i]?=U v:=by
 refine(EZ h).elim λys q=>q.2.elim λu hu=>?_
 rw[aA q.1]
 exact hu.1.trans (congrArg U hu.2)
theorem Au(h:(It.items p xs).at i s=U aj):xs[i]?=none:=(Mj h).elim λys q=>aA q.1▸q.2
theorem Zh(hh:A.handled=aj){cZ:ai}{I l:ag}{us:Array ae}(hz:g.z l=U (i6 us k))(hd:aF w g.z g.cs xs us.toList)(hl:xs.length<=bQ)(hI:σ.heap.IsTupleIter I l 0):SrcAt w A cZ (.items ah xs) I [I] s g σ.heap:=
 λQ_ k_=>k_ (λi s g h=>h.IsTupleIter I l i/\g.z l=U (i6 us k)/\aF w g.z g.cs xs us.toList) (λF=>One.src
  {item:=λF i s g σ v H hI ha Q E hQ=>(hI.2.2.get (u0 ha)).elim λy e=>wpAny_pyNext_tuple_item hI.1 (pq (H.zi _ _ hI.2.1)) ((dG ..).symm.trans e.1) λh' rG iA=>hQ y h' σ.toks (vO iA.extBut) ⟨rG,hI.2⟩ (rG.elim λoi k Q_ k_=>k_ oi _ _ k.1 k.2.1 k.2.2 (by decide)) e.2
   stop:=λF i s g σ H hI ha Q E hQ=>wpAny_pyNext_tuple_end hh hI.1 (pq (H.zi _ _ hI.2.1)) ((dG ..).symm.trans (hI.2.2.none (Au ha))) λh' t7=>hQ h' σ.toks (vO t7)
   frame:=λi s g h s' g' h' hI hz hc hv hk=>⟨hI.1.at hk,hz _ _ hI.2.1,hI.2.2.mono hz hc⟩
   size:=λF i s g σ v H hI ha=>d9 (g7.mp (u0 ha)).1 hl
   self:=λi s g σ hI Q E h=>wpAny_pyIter_tupleiter hI.1 h} rfl) ⟨hI,hz,hd⟩
theorem cn.dJ:∀{vs:List V} {es:List cm} {i:Nat} {k:V},cn w z cs ks vs es->ks[i]?=U k->∃e,es[i]?=U e/\Den w z cs k e.key:=by
 induction ks with
 |nil=>exact λj q=>ay q
 |cons a r ih=>
  intro vs es i k h q
  refine sQ (P:=λj es=>∃e,es[i]?=U e/\Den w z cs k e.key) h λu us e q' hk j j d=>?_
  induction i with
  |zero=>exact⟨e,rfl,aA q▸hk⟩
  |succ i=>exact ih (i:=i) d q
theorem cn.len:∀{vs:List V} {es:List cm},cn w z cs ks vs es->ks.length=es.length:=by
 induction ks with
 |nil=>intro vs es h;rw[(n2 h).2];rfl
 |cons a r ih=>exact λh=>sQ (P:=λj es=>(a::r).length=es.length) h λj j j j j j j d=>congrArg (·+1) (ih d)
theorem cn.none{z:Z}{cs:List ag}{ks vs:List V}{es:Array cm}{i:Nat}(h:cn w z cs ks vs es.toList)(e:ks[i]?=aj):es[i]?=none:=by
 rw[<-dG]
 exact kZ (h.len▸zP.mp e)
theorem WQ(hh:A.handled=aj){cZ:ai}{I d:ag}{ks vs:List V}{es:Array cm}{k:Nat}(hz:g.z d=U (cB es k))(hd:cn w g.z g.cs ks vs es.toList)(hl:ks.length<=bQ)(hI:σ.heap.IsKeyIter I d 0 es.size k):SrcAt w A cZ (.items ah ks) I [I] s g σ.heap:=
 λQ_ k_=>k_ (λi s g h=>h.IsKeyIter I d i es.size k/\g.z d=U (cB es k)/\cn w g.z g.cs ks vs es.toList) (λF=>One.src
  {item:=λF i s g σ v H hI ha Q E hQ=>(hI.2.2.dJ (u0 ha)).elim λe k=>Vu hI.1 (H.zi _ _ hI.2.1) ((dG ..).symm.trans k.1) λh' rG iA=>hQ e.key h' σ.toks (vO iA.extBut) ⟨rG,hI.2⟩ (rG.elim λoi k Q_ k_=>k_ oi _ _ k.1 k.2.1 k.2.2 (by decide)) k.2
   stop:=λF i s g σ H hI ha Q E hQ=>XW hh hI.1 (H.zi _ _ hI.2.1) (hI.2.2.none (Au ha)) λh' t7=>hQ h' σ.toks (vO t7)
   frame:=λi s g h s' g' h' hI hz hc hv hk=>⟨hI.1.at hk,hz _ _ hI.2.1,hI.2.2.mono hz hc⟩
   size:=λF i s g σ v H hI ha=>d9 (g7.mp (u0 ha)).1 hl
   self:=λi s g σ hI Q E h=>wpAny_pyIter_keyiter hI.1 h} rfl) ⟨hI,hz,hd⟩
theorem KW(a b:Int)(i:Nat):(cj a b)[i]?=if i<(b-a).toNat then U (.int (a+i)) else none:=by
 unfold cj
 rw[gj]
 by_cases h:i<(b-a).toNat
 ·rw[if_pos h,Dh h];rfl
 ·rw[if_neg h,kZ (by rw[g8];exact mV h)];rfl
theorem src_range(hh:A.handled=aj){cZ:ai}{I:ag}(hl:(b-a).toNat<=cG)(hI:IsRangeIter σ.heap I a ((b-a).toNat:Int) 1):SrcAt w A cZ (.items ah (cj a b)) I [I] s g σ.heap:=by
 have W:=Walks.range (prog:=ao) (w:=w) hh I a 1 (b-a).toNat
 have lt:∀{i:Nat} {s:S} {v:V},(It.items ah (cj a b)).at i s=U (U v)->i<(b-a).toNat/\(V.int (a+i))=v:=λ{i s v} h=>by
  have h:=u0 h
  rw[KW] at h
  exact⟨(ei h).1,aA (ei h).2⟩
 have ge:∀{i:Nat} {s:S},(It.items ah (cj a b)).at i s=U aj->¬i<(b-a).toNat:=λ{i s} h q=>by
  have h:=Au h
  rw[KW,if_pos q] at h
  exact mM h
 refine λQ_ k_=>k_ (λi s g h=>IsRangeIter h I (a+(i:Nat)*1) (((b-a).toNat:Int)-(i:Nat)) 1/\i<=(b-a).toNat) (λF=>One.src
  {item:=λF i s g σ v H hI ha Q E hQ=>W.item i σ Q E (lt ha).1 hI.1 λy h' tk hP bV hk=>hP.elim λt ht=>hQ y h' tk (λb o hb e=>hk b o (λq=>hb (cK.mp q)) e) ⟨bV,(lt ha).1⟩ (λQ_ k_=>k_ _ _ _ bV rfl rfl (by decide)) ?_
   stop:=λF i s g σ H hI ha Q E hQ=>W.done σ Q E (me hI.2 (mV (ge ha))▸hI.1) λh' tk hk=>hQ h' tk λb o hb e=>hk b o (λq=>hb (cK.mp q)) e
   frame:=λi s g h s' g' h' hI hz hc hv hk=>⟨hk _ hI.1,hI.2⟩
   size:=λF i s g σ v H hI ha=>d9 (lt ha).1 (bf hl (by decide))
   self:=λi s g σ hI Q E h=>W.self i σ Q E hI.1 h} rfl) ⟨?_,eO _⟩
 ·rw[ht,<-(lt ha).2,Int.mul_one]
  exact .int _ _
 ·show IsRangeIter σ.heap I (a+(0:Int)*1) (((b-a).toNat:Int)-(0:Int)) 1
  rw[Int.zero_mul,JX,DM]
  exact hI
end
end
section
section
variable {w:aE}{K:aS}{mg mb:af->Option ae}{F:Fm}{s s':S}{g g':Gh}{x:List ag}{σ σ':aw}{A:bj}{E:ae->aw->Prop}{cx:Cx}{n:Nat}{ih:I}{G:bR}
theorem LR(h1:Den w g.z g.cs u1 y1)(h2:Den w g.z g.cs u2 y2):aF w g.z g.cs [u1,u2] (#[y1,y2]:Array ae).toList:=.cons h1 (.cons h2 .nil)
theorem KR{elts:List ai}{p0:aY}{I:ag}{fp wr:List ag}{Pt:Nat->Array ae->Prop}{St:Nat->az->Prop}{cc:Nat->ag->az->Prop}{ab:az->Prop}{Q:Option ae->aw->Prop}(W:WalksT ao w A I fp wr m Pt St cc)
  (hQ:∀y h' tk,(∀b o,b∉x->σ.heap.get? b=U o->h'.get? b=U o)->
   (∀(Q2:Unit->aw->Prop) (E2:ae->aw->Prop),(∀h2,(∀b o,b∉x->h'.get? b=U o->h2.get? b=U o)->(∀b∈x,∃o,h2.get? b=U o)->ab h2->js w g h2 p v y->Q2 () {σ with heap:=h2,toks:=tk})->
    ax (ar ao w) A (z9 (.Tuple elts k0 p0) (.ref I) y) Q2 E2 {σ with heap:=h',toks:=tk})->Q (U y) {σ with heap:=h',toks:=tk})
  (hp:p=J) (RH:∀b,b∉x->b∉wr) (hi:i<m) (d6:St i σ.heap) (den:∀vals,Pt i vals->∃vs,v=.tup vs/\aF w g.z g.cs vs vals.toList) (Q3:∀h2,St (i+1) h2->(∀b∈x,∃o,h2.get? b=U o)/\ab h2):ax (ar ao w) A (lD (.ref I)) Q E σ:=
 W.item i σ Q E hi d6 λT vals h' tk hP j hIs hM hk=>hQ (.ref T) h' tk (λb o hb=>hk b o (RH b hb)) λQ2 E2 k2=>W.go elts k0 p0 i T {σ with heap:=h',toks:=tk} Q2 E2 hM λh2 hst2 jy=>
  k2 h2 (λb o hb=>jy b o (RH b hb)) (Q3 h2 hst2).1 (Q3 h2 hst2).2 (by
   unfold js
   rw[hp,if_pos rfl]
   exact(den vals hP).elim λvs k Q_ k_=>k_ T vals vs k.1 rfl (hIs.imp λo q=>⟨jy T o (W.apart i T _ hM) q.1,q.2⟩) k.2)
theorem LG(hh:A.handled=aj){elts:List ai}{p0:aY}{e t l:ag}{it:It}{items:S->Option (List V)}(het:e≠t)(hle:l≠e)(hlt':l≠t)(hp:it.pair=J)(w3:∀i s,it.at i s=(items s).map λxs=>(xs[i]?).map λu=>.tup [.int i,u])
  {Base:S->Gh->Prop} (cur:∀F s g σ xs,Full w F s g [e,t] σ->Base s g->items s=U xs->pV w σ.heap.get? g.z g.cs xs l)
  (fr:∀s g s' g',Base s g->Z.le g.z g'.z->pre g.cs g'.cs->((∃y en,it=.live y en)->g'.vl=g.vl)->Base s' g'):
  Src w F A (.Tuple elts k0 p0) it e [e,t] (λi s g h=>(∃old,IsEnum h e t i old)/\h.IsListIter t l i/\Base s g) where
 item:=λi s g σ v H hI ha Q E hQ=>(dw.mp ((w3 i s).symm.trans ha)).elim λxs h=>(dw.mp h.2).elim λu hu=>by
  refine cur F s g σ xs H hI.2.2 h.1 _ λus k e1 e2 _=>?_
  refine(e2.get hu.1).elim λy e=>?_
  have e3:=(dG ..).symm.trans e.1
  refine KR (WalksT.enumerate hh _ t l het hle hlt' us) hQ hp (λb hb=>hb) (sj.mp e3).1 ⟨hI.1,hI.2.1,gm e1⟩ (λvals hP=>hP.elim λtt h=>h.elim λy' h=>⟨_,hu.2.symm,?_⟩) λh2 d6=>⟨?_,d6.1,d6.2.1,hI.2.2⟩
  ·rw[h.2]
   exact LR (.int _ _) (aA (e3.symm.trans h.1)▸e.2)
  ·exact eF.mpr ⟨d6.1.elim λold q=>⟨_,q⟩,eF.mpr ⟨d6.2.1.imp λo q=>q.1,λj h=>dq h⟩⟩
 stop:=λi s g σ H hI ha Q E hQ=>(dw.mp ((w3 i s).symm.trans ha)).elim λxs h=>by
  exact cur F s g σ xs H hI.2.2 h.1 _ λus k e1 e2 _=>hI.1.elim λold h1=>wpAny_pyNext_enum_end hh h1 hI.2.1 (gm e1) ((dG ..).symm.trans (e2.none (Sg.mp h.2))) λh' t7=>hQ h' σ.toks λb o hb q=>t7 b o (λz=>hb (by rw[z];exact .tail _ (.head _))) q
 frame:=λi s g h s' g' h' hI hz hc hv hk=>⟨hI.1.imp λold h1=>hk e (.head _) _ h1,hI.2.1.at λo q=>hk t (.tail _ (.head _)) o q,fr s g s' g' hI.2.2 hz hc hv⟩
 size:=λi s g σ v H hI ha=>(dw.mp ((w3 i s).symm.trans ha)).elim λxs h=>(dw.mp h.2).elim λu hu=>by
  exact cur F s g σ xs H hI.2.2 h.1 _ λus k e1 e2 e3=>d9 (g7.mp hu.1).1 e3
 self:=λi s g σ hI Q E h=>hI.1.elim λold h1=>wpAny_pyIter_enum h1 h
theorem W2(xs:List V):∀(j i:Nat),(jO j xs)[i]?=(xs[i]?).map λu=>.tup [.int ((j+i:Nat):Int),u]:=by
 induction xs with
 |nil=>exact λj i=>rfl
 |cons u r ih=>
  intro j i
  rw[show jO j (u::r)=.tup [.int j,u]::jO (j+1) r from rfl]
  induction i with
  |zero=>rfl
  |succ i=>rw[R9,R9,ih,qE];rfl
theorem VE(hh:A.handled=aj){elts:List ai}{p0:aY}{e t l:ag}{us:Array ae}(het:e≠t)(hle:l≠e)(hlt':l≠t)(hz:g.z l=U (bg us k))(hd:aF w g.z g.cs xs us.toList)(hl:xs.length<=bQ)
  {old:ae} (h1:IsEnum σ.heap e t 0 old) (h2:σ.heap.IsListIter t l 0):SrcAt w A (.Tuple elts k0 p0) (.items J (jO 0 xs)) e [e,t] s g σ.heap:=
 λQ_ k_=>k_ _ (λF=>LG hh het hle hlt' rfl (λi s=>by
  show U (((jO 0 xs)[i]?).map λv=>v)=U _
  rw[W2,fx,DA];rfl) (λF s g σ ys H hB he=>Kb (I:=e) H.zi hB hl he) λs g s' g' hB hz hc j=>⟨hz _ _ hB.1,hB.2.mono hz hc⟩) ⟨⟨old,h1⟩,h2,hz,hd⟩
theorem Vv(hh:A.handled=aj){elts:List ai}{p0:aY}{e t l:ag}{y:af}(het:e≠t)(hle:l≠e)(hlt':l≠t)(hy:lk y g.vl=U (.ref l))
  {old:ae} (h1:IsEnum σ.heap e t 0 old) (h2:σ.heap.IsListIter t l 0):SrcAt w A (.Tuple elts k0 p0) (.live y J) e [e,t] s g σ.heap:=
 λQ_ k_=>k_ _ (λF=>LG hh het hle hlt' rfl (λi s=>rfl) (λF s g σ ys H hB he=>LN H hB he) λs g s' g' hB hz hc hv=>(hv ⟨y,J,rfl⟩)▸hB) ⟨⟨old,h1⟩,h2,hy⟩
def lC(w:aE)(g:Gh)(l:ag)(xs:List V)(us:Array ae):Prop:=∀C:Prop,(∀(k:Nat) (h:g.z l=U (bg us k)) (d:aF w g.z g.cs xs us.toList),C)->C
theorem lC.den(h:lC w g l xs us):aF w g.z g.cs xs us.toList:=by
 exact h _ λk h d=>d
theorem lC.is(h:lC w g l xs us)(H:Full w F s g x σ):σ.heap.IsList l us:=by
 exact h _ λk h d=>gm (H.zi _ _ h)
theorem lC.mono(h:lC w g l xs us)(hz:Z.le g.z g'.z)(hc:pre g.cs g'.cs):lC w g' l xs us:=by
 exact h _ λk h d Q_ k_=>k_ k (hz _ _ h) (d.mono hz hc)
theorem lC.at{l:ag}{xs:List V}{us:Array ae}{i:Nat}{u:V}(h:lC w g l xs us)(e:xs[i]?=U u):∃y,us[i]?=U y/\Den w g.z g.cs u y:=(h.den.get e).imp λy k=>⟨(dG ..).symm.trans k.1,k.2⟩
structure OP(h:az)(z TI TO i1 i2 l1 l2:ag)(i:Nat):Prop where
 z:IsZip h z TI TO .none
 ti:IsPair h TI (.ref i1) (.ref i2)
 to:∃a b,IsPair h TO a b
 p1:h.IsListIter i1 l1 i
 p2:h.IsListIter i2 l2 i
theorem Z2(hh:A.handled=aj){elts:List ai}{k0:Nat}{p0:aY}{z TI TO i1 i2 l1 l2:ag}(D:ZipApart z TI TO i1 i2 l1 l2){xs ys:List V}{uz pb:Array ae}(qo:lC w g l1 xs uz)(mL:lC w g l2 ys pb)(hl:xs.length<=bQ)(hI:OP σ.heap z TI TO i1 i2 l1 l2 0):
  SrcAt w A (.Tuple elts k0 p0) (.items J (oM xs ys)) z [z,TI,TO,i1,i2] s g σ.heap:=by
 have W:=WalksT.zip2 (prog:=ao) (w:=w) hh z TI TO i1 i2 l1 l2 D uz pb
 have sub:∀b,b∉[z,TI,TO,i1,i2]->b∉[z,TO,i1,i2]:=λb hb q=>hb ((cf.mp q).elim (λe=>e▸.head _) λq=>.tail _ (.tail _ q))
 have two:∀{i:Nat} {s:S} {v:V},(It.items J (oM xs ys)).at i s=U (U v)->∃a b,xs[i]?=U a/\ys[i]?=U b/\V.tup [a,b]=v:=λh=>List.getElem?_zipWith_eq_some.mp (u0 h)
 refine λQ_ k_=>k_ (λi s g h=>OP h z TI TO i1 i2 l1 l2 i/\i<=min uz.size pb.size/\lC w g l1 xs uz/\lC w g l2 ys pb) (λF=>{item:=?_,stop:=?_,frame:=?_,size:=?_,self:=?_}) ⟨hI,eO _,qo,mL⟩
 ·intro i s g σ v H hI ha Q E hQ
  refine(two ha).elim λa h=>h.elim λb h=>(hI.2.2.1.at h.1).elim λy1 d1=>(hI.2.2.2.at h.2.1).elim λy2 d2=>?_
  have lt:i<min uz.size pb.size:=Nat.lt_min.mpr ⟨(sj.mp d1.1).1,(sj.mp d2.1).1⟩
  refine KR W hQ rfl sub lt ⟨hI.1.z,hI.1.ti,hI.1.to,hI.1.p1,hI.1.p2,hI.2.2.1.is H,hI.2.2.2.is H⟩ (λvals hP=>hP.elim λy1' q=>q.elim λy2' q=>⟨_,h.2.2.symm,?_⟩) λh2 c=>⟨?_,⟨c.1,c.2.1,c.2.2.1,c.2.2.2.1,c.2.2.2.2.1⟩,lt,hI.2.2⟩
  ·rw[q.2.2,<-aA (d1.1.symm.trans q.1),<-aA (d2.1.symm.trans q.2.1)]
   exact LR d1.2 d2.2
  ·exact eF.mpr ⟨⟨_,c.1⟩,eF.mpr ⟨⟨_,c.2.1⟩,eF.mpr ⟨c.2.2.1.elim λj h=>h.elim λj h=>⟨_,h⟩,eF.mpr ⟨c.2.2.2.1.imp λj h=>h.1,eF.mpr ⟨c.2.2.2.2.1.imp λj h=>h.1,λj h=>dq h⟩⟩⟩⟩⟩
 ·intro i s g σ H hI ha Q E hQ
  have hlen:=zP.mp (Au ha)
  have zx:min uz.size pb.size<=i:=by
   rw[<-fO,<-fO,<-hI.2.2.1.den.length,<-hI.2.2.2.den.length,<-List.length_zipWith]
   exact hlen
  have e:=me hI.2.1 zx
  exact W.done σ Q E (e▸⟨hI.1.z,hI.1.ti,hI.1.to,hI.1.p1,hI.1.p2,hI.2.2.1.is H,hI.2.2.2.is H⟩) λh' tk hk=>hQ h' tk λb o hb q=>hk b o (sub b hb) q
 ·exact λi s g h s' g' h' hI hz hc hv hk=>⟨⟨hk z (.head _) _ hI.1.z,hk TI (.tail _ (.head _)) _ hI.1.ti,hI.1.to.imp λj q=>q.imp λj q=>hk TO (.tail _ (.tail _ (.head _))) _ q,hI.1.p1.at λo e=>hk i1 (.tail _ (.tail _ (.tail _ (.head _)))) o e,hI.1.p2.at λo e=>hk i2 (.tail _ (.tail _ (.tail _ (.tail _ (.head _))))) o e⟩,
   hI.2.1,hI.2.2.1.mono hz hc,hI.2.2.2.mono hz hc⟩
 ·exact λi s g σ v H hI ha=>(two ha).elim λa h=>h.elim λb h=>d9 (g7.mp h.1).1 hl
 ·exact λi s g σ hI Q E h=>wpAny_pyIter_zip hI.1.z h
end
end
section
section
variable {w:aE}{K:aS}{mg mb:af->Option ae}{F:Fm}{s s':S}{g g':Gh}{x:List ag}{σ σ':aw}{A:bj}{cx:Cx}{n:Nat}{ih:I}{G:bR}
inductive kH(w:aE)(g:Gh):Fl->Flow->Prop
 |next:kH w g .next .next
 |brk:kH w g .brk .brk
 |cont:kH w g .cont .cont
 |ret {v:V} {y:ae} (h:Den w g.z g.cs v y):kH w g (.ret v) (.ret y)
def ky(w:aE)(F:Fm)(g:Gh)(s':S)(fl:Fl)(f:Flow)(σ':aw):Prop:=∀C:Prop,(∀(g':Gh) (h1:g.ext g') (h2:Full w F s' g' [] σ') (h3:kH w g' fl f),C)->C
theorem ky.ext(k:g0.ext g)(h:ky w F g s' fl f σ):ky w F g0 s' fl f σ:=by
 exact h _ λg' a b c Q_ k_=>k_ g' (k.nY a) b c
theorem tB.mono(d:tB w g h v y)(hz:Z.le g.z g'.z)(hc:pre g.cs g'.cs)(hh:∀a o,h.get? a=U o->h'.get? a=U o):tB w g' h' v y:=by
 exact d _ λT us vs e1 e2 e3 hd Q_ k_=>k_ T us vs e1 e2 (e3.imp λo k=>⟨hh _ _ k.1,k.2⟩) (hd.mono hz hc)
theorem js.mono(d:js w g h p v y)(hz:Z.le g.z g'.z)(hc:pre g.cs g'.cs)(hh:∀a o,h.get? a=U o->h'.get? a=U o):js w g' h' p v y:=by
 induction p with
 |true=>exact tB.mono d hz hc hh
 |false=>exact Den.mono hz hc d
end
end
section
section
variable {w:aE}{K:aS}{mg mb:af->Option ae}{F:Fm}{s s':S}{g g':Gh}{x:List ag}{σ σ':aw}{A:bj}{cx:Cx}{n:Nat}{ih:I}{G:bR}
theorem Reg.over(R:Reg F z ρ σ)(h0:∀b∈x,z b=aj/\F.kp b=aj):Reg F z (jP x σ.heap ρ) σ:=
 {R with
  ri:=λb ob e=>by
   by_cases q:b∈x
   ·exact(s6 q).symm.trans e
   ·exact R.ri b ob ((q8 q).symm.trans e)
  rz:=λb ob e=>by
   by_cases q:b∈x
   ·exact h0 b q
   ·exact R.rz b ob ((q8 q).symm.trans e)}
theorem Full.PA(H:Full w F s g [] σ)(Gr:cU σ σ')(hx:∀b∈x,σ.heap.get? b=aj/\∃o,σ'.heap.get? b=U o)(wL:x.Nodup):Full w F s {g with ρ:=jP x σ'.heap g.ρ} x σ':=
 have out:∀b∈F.ns++g.ov++g.ot++g.om++[],b∉x:=λb hb hx'=>(H.eY b hb).elim λo e=>ay ((hx b hx').1.symm.trans (H.ri _ _ e))
 ⟨(H.toReg.grown Gr).over λb hb=>⟨Z.no H.zi (hx b hb).1,Z.no H.ki (hx b hb).1⟩,(H.toCont.mono (Z.le_refl _) λb hb=>q8 (out b hb)).GZ wL (λb hb=>(hx b hb).2.imp λo e=>(s6 hb).trans e) λb hb=>out b (by rw[bx];exact hb)⟩
def FY(w:aE)(F:Fm)(A:bj)(cZ:ai)(it:It)(s:S)(g:Gh)(jv:ae)(bH:aw):Prop:=∀C:Prop,(∀(ab:ag) (x:List ag) (Inv:Nat->S->Gh->az->Prop) (g2:Gh) (e:jv=.ref ab) (h1:g.le g2) (h2:Full w F s g2 x bH) (h3:∀F,Src w F A cZ it ab x Inv) (h4:Inv 0 s g2 bH.heap),C)->C
def sV(w:aE)(F:Fm)(A:bj)(it:It)(s:S)(g:Gh)(xv:ae)(σ:aw):Prop:=∀cZ,it.oD cZ=J->ax (ar ao w) A (pyIter xv) (FY w F A cZ it s g) aC σ
theorem pack(H1:Full w F s g2 x σ)(S:SrcAt w A cZ it ab x s g2 σ.heap)(k:g.le g2):FY w F A cZ it s g (.ref ab) σ:=by
 exact S _ λInv h1 h2 Q_ k_=>k_ ab x Inv g2 rfl k H1 h1 h2
theorem yc(H:Full w F s g [] σ)(hf:o.isFreed=ah)(S:SrcAt w A cZ it σ.heap.objs.size [σ.heap.objs.size] s {g with ρ:=g.ρ.put σ.heap.objs.size o} (σ.heap.push o)):FY w F A cZ it s g (.ref σ.heap.objs.size) {σ with heap:=σ.heap.push o}:=
 pack (H.alloc o hf rfl rfl rfl) S ⟨Z.le_refl _,bz _,rfl,rfl,rfl⟩
theorem U9(hh:A.handled=aj)(H:Full w F s g [] σ)(hd:Den w g.z g.cs (.list xs) y):sV w F A (.items ah xs) s g y σ:=λcZ j=>by
 exact hd.inv _ λl us k e0 hz hk hl=>e0▸zZ (gm (H.zi _ _ hz)) (yc H rfl (UO (σ:={σ with heap:=σ.heap.push _}) hh hz hk hl ⟨_,eM _ rfl,rfl,rfl⟩))
theorem XF(hh:A.handled=aj)(H:Full w F s g [] σ)(hd:Den w g.z g.cs (.tup xs) y):sV w F A (.items ah xs) s g y σ:=λcZ j=>by
 exact hd.inv _ λl us k e0 hz hk hl=>e0▸wpAny_pyIter_tuple (pq (H.zi _ _ hz)) (yc H rfl (Zh (σ:={σ with heap:=σ.heap.push _}) hh hz hk hl ⟨_,eM _ rfl,rfl,rfl⟩))
theorem Vw(hh:A.handled=aj)(H:Full w F s g [] σ)(hd:Den w g.z g.cs (.dict ks vs) y):sV w F A (.items ah ks) s g y σ:=λcZ j=>by
 exact hd.inv _ λl es k e0 hz hk hn hs hl=>e0▸Wo hs (H.zi _ _ hz) (yc H rfl (WQ (σ:={σ with heap:=σ.heap.push _}) hh hz hk hl ⟨_,eM _ rfl,rfl,rfl⟩))
theorem UZ(hh:A.handled=aj)(H:Full w F s g [] σ)(hd:Den w g.z g.cs v y)(h:Bx v=U xs):sV w F A (.items ah xs) s g y σ:=by
 cases v with
 |list ys=>exact aA h▸U9 hh H hd
 |tup ys=>exact aA h▸XF hh H hd
 |dict ks vs=>exact aA h▸Vw hh H hd
 |_=>exact ay h
theorem vy{v:ai}{x:List ai×Nat×aY}:pX v=U x->v=ai.Tuple x.1 x.2.1 x.2.2:=by
 apply ai.casesOn (motive_1:=λv=>pX v=U x->v=ai.Tuple x.1 x.2.1 x.2.2) v
 case Tuple=>exact λa b c=>λh=>aA h▸rfl
 all_goals exists ay
theorem lz{v:ai}{x:af×aY}:iL v=U x->v=ai.Name x.1 x.2:=by
 apply ai.casesOn (motive_1:=λv=>iL v=U x->v=ai.Name x.1 x.2) v
 case Name=>exact λa b=>λh=>aA h▸rfl
 all_goals exists ay
theorem Wn(h:vE t=J):∃elts k p,t=.Tuple elts k p:=(Ja.mp h).elim λq e=>⟨_,_,_,vy e⟩
theorem Kc{it:It}{cZ:ai}(h:it.oD cZ=J)(hp:it.pair=J):∃elts k p,cZ=.Tuple elts k p:=by
 unfold It.oD at h
 rw[hp] at h
 exact Wn h
theorem UH:dD.Range.rangeSize a b 1=((b-a).toNat:Int):=by
 rw[rangeSize_one]
 split<;>lia
theorem Kl(hh:A.handled=aj)(H:Full w F s g [] σ)(h:ja a b=U it)(hr:IsRange σ.heap r a b 1 t u v):sV w F A it s g (.ref r) σ:=λcZ j=>by
 have h:=ei h
 rw[<-aA h.2]
 have c:=h.1
 refine wpAny_pyIter_range hr (small_one (by lia) (by lia) (by lia) (by lia)) ?_
 rw[UH]
 exact yc H rfl (src_range (σ:={σ with heap:=σ.heap.push _}) hh c.1 (eM _ rfl))
theorem xX(T:eG w K mg mb G)(C:cz w K mg mb cx F)(H:Full w F s g [] σ)(hn:dU G cx y s=U (.val (.ty nm)))(hs:(i8 pos (gC args F.env)).any (·.1)=ah)
  (h:ax (ar ao w) A (spliced (i8 pos (gC args F.env))) (λvs s1=>ax (ar ao w) A (call (.type nm) vs) Q aC s1) aC σ):ax (ar ao w) A (eval (.Call (.Name y p) args [] pos) F.env) Q aC σ:=
 Call_Name rfl (KP T C H hn λu hu=>by
  rw[show u=.type nm from hu.inv]
  exact I6 hs (uU hs h))
theorem nr(h:a≠b):n+a≠n+b:=λe=>h (Nat.add_left_cancel e)
theorem rx(h:l<n):l≠n+k:=hJ (d9 h (fe n k))
theorem V6(h1:l1<n)(h2:l2<n):ZipApart (n+4) (n+2) (n+3) n (n+1) l1 l2:=
 ⟨nr (by decide),nr (by decide),nr (a:=0) (by decide),nr (by decide),nr (by decide),nr (b:=0) (by decide),nr (by decide),nr (b:=0) (by decide),nr (by decide),nr (a:=0) (by decide),
  rx h1,rx h1,rx (k:=0) h1,rx h1,rx h2,rx h2,rx (k:=0) h2,rx h2⟩
end
end
section
section
variable {w:aE}{K:aS}{mg mb:af->Option ae}{F:Fm}{s s':S}{g g':Gh}{x:List ag}{σ σ':aw}{A:bj}{cx:Cx}{n:Nat}{ih:I}{G:bR}
noncomputable abbrev sY(ifs:List ai)(env:dh):Sem Bool:=forIn ifs J λc r=>if r=J then do let ok <-isTrue c env (eval c env);pure (xB ok) else pure (xB r)
theorem Ux{elt target iter:ai}{ifs:List ai}{scope:gE}{pos:aY}{it acc:ae}{env:dh}{R:jq->aw->Prop}(I:Nat->aw->Prop)
  (turn:∀n s,I n s->ax (ar ao w) A (lD it) (λr d4=>match r with
   |none=>R (.ok .next) d4
   |some v=>ax (ar ao w) A (z9 target it v) (λj Pe=>ax (ar ao w) A (assign target env v) (λj kF=>ax (ar ao w) A (sY ifs env) (λok v8=>
      if ok=J then ax (ar ao w) A (eval elt env) (λx P1=>ax (ar ao w) A (call (.builtin "list.append") [acc,x]) (λj P5=>∃m,m<n/\I m P5) aC P1) aC v8
      else ∃m,m<n/\I m v8) aC kF) aC Pe) aC d4) aC s)
  (n:Nat) (h:I n σ):ic (ar ao w) A (.compLoop (.ListComp elt [⟨target,iter,ifs,0⟩] scope pos) 0 it acc env) R σ:=by
 refine codeAny_loop rfl I (λn s hI=>?_) n h
 show ax _ A ((PySem.compTurn (.ListComp elt [⟨target,iter,ifs,0⟩] scope pos) 0 it acc env).onRaise (λx=>do noteFrame x env;theTreesLotGoes x)) _ _ s
 refine wpAny_noted ?_
 rw[compTurn_list]
 refine au (wpAny_standAt (au (jn (turn n s hI) (λr d4 BZ=>?_) λj j h'=>h'.elim)))
 induction r with
 |none=>exact aI BZ
 |some v=>
  refine au (jn BZ (λj Pe af1=>?_) λj j h'=>h'.elim)
  refine au (jn af1 (λj kF ahX=>au (jn ahX (λok v8 B4=>?_) λj j h'=>h'.elim)) λj j h'=>h'.elim)
  induction ok with
  |false=>exact aI ⟨rfl,B4⟩
  |true=>exact au (au (jn B4 (λx P1 ahd=>au (jn ahd (λj P5 agS=>aI (aI ⟨rfl,agS⟩)) λj j h'=>h'.elim)) λj j h'=>h'.elim))
theorem VC{env:dh}{Q:Bool->aw->Prop}(h:Q J σ):ax (ar ao w) A (sY [] env) Q aC σ:=aI h
theorem J7{env:dh}{Q:Bool->aw->Prop}:∀(ifs:List ai),Q ah σ->ax (ar ao w) A (forIn ifs ah λc r=>if r=J then do let ok <-isTrue c env (eval c env);pure (xB ok) else pure (xB r)) Q aC σ
 |[],h=>by rw[List.forIn_nil];exact aI h
 |c::r,h=>by
  rw[Dy,if_neg (by simp)]
  exact au (aI (J7 r h))
theorem Kq{env:dh}{c:ai}{r:List ai}{Q:Bool->aw->Prop}(h:ax (ar ao w) A (isTrue c env (eval c env)) (λb s1=>if b=J then ax (ar ao w) A (sY r env) Q aC s1 else Q ah s1) aC σ):ax (ar ao w) A (sY (c::r) env) Q aC σ:=by
 unfold sY
 rw[Dy,if_pos rfl]
 refine au (au (aW h λb s1 h1=>aI ?_))
 induction b with
 |true=>exact h1
 |false=>exact J7 r h1
theorem Zv{l b x:List ag}{C:ag}:(l++(b++C::x)).Nodup↔(l++(C::(b++x))).Nodup:=(Ds.append_left l).nodup_iff
theorem Fm.rq(hF:F.comp=ah):F.ns=(F.bh.locals::F.bh.cells.map (·.2))++[F.tab]:=by
 unfold Fm.ns;rw[if_neg (by rw[hF];exact bo),bx]
theorem Nw(hF:F.comp=ah){env:dh}{a b c x:List ag}:(F.ns++a++b++c++env.locals::x).Nodup↔(Fm.ns {F with env:=env,comp:=J}++a++b++c++x).Nodup:=by
 rw[Fm.rq hF,show Fm.ns {F with env:=env,comp:=J}=(F.bh.locals::F.bh.cells.map (·.2))++[env.locals]++[F.tab] from rfl]
 generalize F.bh.locals::F.bh.cells.map (·.2)=l
 have:=Zv (l:=l) (b:=[F.tab]++(a++(b++c))) (x:=x) (C:=env.locals)
 simp only[aN,l9,gk] at this ⊢
 exact this
theorem Full.Vl(H:Full w F s g (C::x) σ)(hF:F.comp=ah){env:dh}(hL:env.locals=C){o:aP}{m:af->Option ae}(ho:g.ρ C=U o)(hn:ug o m)(zL:s.cv=[]):
  Full w {F with env:=env,comp:=J} s {g with cl:=[]} x σ:=by
 subst hL
 exact⟨⟨H.zi,H.ki,H.ri,H.rz,H.zk,H.zb,H.base,H.gens,H.os⟩,⟨H.loc,H.tb,λj=>⟨⟨o,m,ho,hn,λy v e=>ay e⟩⟩,H.vars,H.bX,H.mem,zL▸.nil,(Nw hF).mp H.nd,λb hb=>H.xo b (.tail _ hb)⟩⟩
theorem Full.Vb{env:dh}(hF:F.comp=ah)(H:Full w {F with env:=env,comp:=J} s g x σ):Full w F {s with cv:=[]} {g with cl:=[]} (env.locals::x) σ:=
 ⟨⟨H.zi,H.ki,H.ri,H.rz,H.zk,H.zb,H.base,H.gens,H.os⟩,⟨H.loc,H.tb,λq=>(bo (hF.symm.trans q)),H.vars,H.bX,H.mem,.nil,(Nw hF).mpr H.nd,eF.mpr ⟨(H.cmp rfl).ns.elim λo h=>h.elim λm h=>⟨o,h.1⟩,H.xo⟩⟩⟩
noncomputable def lI(cells:List (af×ag)):List (af×dC)->List (af×ag)->List (af×ag)
 |[],acc=>acc
 |p::r,acc=>lI cells r (if p.2=.free then(cells.lookup p.1).elim acc λc=>(p.1,c)::acc else acc)
theorem UI{env:dh}(l:List (af×dC)):∀(acc:List (af×ag)),(∀p∈l,p.2=.free->∃c,env.cells.lookup p.1=U c)->
  (forIn l acc (λ(p:af×dC) (cs:List (af×ag))=>(if p.2==.free then do let a <-JV env p.1;pure (xB ((p.1,a)::cs)) else pure (xB cs):Sem (ForInStep (List (af×ag))))))=pure (lI env.cells l acc):=by
 induction l with
 |nil=>exact λj j=>rfl
 |cons p r ih=>
  intro acc h
  rw[Dy]
  by_cases hk:p.2=.free
  ·refine(h p (.head _) hk).elim λc hc=>?_
   have e:JV env p.1=pure c:=by unfold JV;rw[hc]
   rw[show lI env.cells (p::r) acc=lI env.cells r (if p.2=.free then(env.cells.lookup p.1).elim acc λc=>(p.1,c)::acc else acc) from rfl,if_pos hk,hc,if_pos (by rw[hk];rfl),e]
   exact ih _ λp hp=>h p (.tail _ hp)
  ·rw[show lI env.cells (p::r) acc=lI env.cells r (if p.2=.free then(env.cells.lookup p.1).elim acc λc=>(p.1,c)::acc else acc) from rfl,if_neg hk,if_neg λq=>hk (beq_iff_eq.mp q)]
   exact ih _ λp hp=>h p (.tail _ hp)
theorem S4{env:dh}{scope:gE}(h:∀p∈scope.names,p.2=.free->∃c,env.cells.lookup p.1=U c):closureFor scope env=pure (lI env.cells scope.names []):=by
 have:=UI scope.names [] h
 unfold closureFor
 first
  |exact this
  |(simp only[bind_pure];exact this)
  |(rw[<-this];rfl)
theorem Le{x y:af}{c:ag}{acc:List (af×ag)}:(x=y->((y,c)::acc).lookup x=U c)/\(x≠y->((y,c)::acc).lookup x=acc.lookup x):=
 ⟨λq=>by rw[q,sD,beq_self_eq_true],λq=>by rw[sD,beq_eq_false_iff_ne.mpr q]⟩
theorem Td(cells:List (af×ag))(x:af)(l:List (af×dC)):∀(acc:List (af×ag)),(∀p∈l,p.2=.free->∃c,cells.lookup p.1=U c)->((x,sJ)∈l\/acc.lookup x=cells.lookup x)->
  (∀c,acc.lookup x=U c->cells.lookup x=U c)->(lI cells l acc).lookup x=cells.lookup x:=by
 induction l with
 |nil=>exact λacc j h j=>h.elim dq id
 |cons p r ih=>
  intro acc hf h oR
  rw[show lI cells (p::r) acc=lI cells r (if p.2=.free then(cells.lookup p.1).elim acc λc=>(p.1,c)::acc else acc) from rfl]
  by_cases hk:p.2=.free
  ·refine(hf p (.head _) hk).elim λc hc=>?_
   rw[if_pos hk,hc]
   by_cases q:x=p.1
   ·have e:=(Le (c:=c) (acc:=acc)).1 q
    have e2:cells.lookup x=U c:=q▸hc
    exact ih _ (λp hp=>hf p (.tail _ hp)) (.inr (e.trans e2.symm)) λc' wG=>e2.trans (e.symm.trans wG)
   ·have e:=(Le (c:=c) (acc:=acc)).2 q
    exact ih _ (λp hp=>hf p (.tail _ hp)) (h.elim (λh=>(cf.mp h).elim (λh=>absurd (congrArg (·.1) h) q) .inl) λh=>.inr (e.trans h)) λc' wG=>oR c' (e.symm.trans wG)
  ·rw[if_neg hk]
   exact ih _ (λp hp=>hf p (.tail _ hp)) (h.elim (λh=>(cf.mp h).elim (λh=>absurd (congrArg (·.2) h).symm hk) .inl) .inr) oR
theorem Full.abx(H:Full w F s g x σ)(hF:F.comp=J){o':aP}{m':af->Option ae}(P:mB F.env.locals o' σ σ')(hn:ug o' m'){cv:List (af×V)}{cl:List (af×ae)}(zL:jR w g.z g.cs cv cl)(hm:∀y v,lk y cl=U v->m' y=U v):
  Full w F {s with cv:=cv} {g with ρ:=g.ρ.put F.env.locals o',cl:=cl} x σ':=by
 have p5:=Fm.Bf hF
 have sep:∀{L},L∈F.bh.locals::F.bh.cells.map (·.2)->L≠F.env.locals:=λhL=>(Fm.sep H.rH hL).2 hF
 have tab:F.tab≠F.env.locals:=λq=>by
  have h:=H.rH
  unfold Fm.ns at h
  exact(cM.mp h).2.2 F.env.locals (cy _ (by rw[if_pos hF];exact .head _)) F.tab (.head _) q.symm
 have off:∀{l:List ag},(∀b∈l,b∈g.ov++g.ot++g.om++x)->∀b∈l,g.ρ.put F.env.locals o' b=g.ρ b:=λh=>Z.iH (H.rq p5 h)
 refine(H.cmp hF).ns.elim λoc h=>h.elim λmc h=>⟨H.toReg.t4 h.1 P,⟨H.loc.on λb hb=>Z.df _ _ (sep hb),H.tb.mono (Z.le_refl _) (Z.df _ _ tab),λj=>⟨⟨o',m',Z.dp _ _ _,hn,hm⟩⟩,H.vars.mono (Z.le_refl _) (bz _) (off FL),H.bX.mono (Z.le_refl _) (bz _) (off Fq),
  H.mem.mono (Z.le_refl _) (bz _) (off Oj),zL,H.nd,H.yx⟩⟩
def Bound(w:aE)(F:Fm)(s:S)(g:Gh)(b:List (af×V))(σ':aw):Prop:=∀C:Prop,(∀(g':Gh) (e1:g'.z=g.z) (e2:g'.cs=g.cs) (e3:g'.vl=g.vl) (e4:g'.tv=g.tv) (h:Full w F {s with cv:=b} g' [] σ'),C)->C
theorem Full.Pp(H:Full w F s g [] σ)(hF:F.comp=J){h':az}{tk:Nat}{m:af->Option ae}(hk:uZ F.env.locals σ.heap h')(hn:h'.Ns F.env.locals m){cv:List (af×V)}{cl:List (af×ae)}(zL:jR w g.z g.cs cv cl)(hm:∀y v,lk y cl=U v->m y=U v):
  Bound w F s g cv {σ with heap:=h',toks:=tk}:=
 (kl.mp hn).elim λo' k Q_ k_=>k_ ({g with ρ:=g.ρ.put F.env.locals o',cl:=cl}) rfl rfl rfl rfl (H.abx (σ':={σ with heap:=h',toks:=tk}) hF ⟨λb ob hb q=>hk b ob hb q,k.1,rfl,rfl⟩ k.2 zL hm)
theorem MQ{a z:af}{y u:ae}{m:af->Option ae}(h:lk z [(a,y)]=U u):(if z=a then U y else m z)=U u:=by
 by_cases q:a=z
 ·rw[if_pos q.symm];exact(eI.1 q).symm.trans h
 ·exact ay ((eI.2 q).symm.trans h)
theorem abe{a c z:af}{y t u:ae}{m:af->Option ae}(eD:a≠c)(h:lk z [(a,y),(c,t)]=U u):(if z=c then U t else if z=a then U y else m z)=U u:=by
 by_cases q:a=z
 ·rw[if_neg λe=>eD (q.trans e),if_pos q.symm];exact(eI.1 q).symm.trans h
 ·have h:=MQ (m:=m) ((eI.2 q).symm.trans h)
  rw[if_neg (c:=z=a) λe=>q e.symm];exact h
theorem ED(C:cz w K mg mb cx F)(hF:F.comp=J){a:af}{pos:aY}{y:ae}(hk:lk a cx.sc=U .local){m:af->Option ae}{Q:Unit->aw->Prop}(hn:σ.heap.Ns F.env.locals m)
  (h:∀h',h'.Ns F.env.locals (λx=>if x=a then U y else m x)->mf F.env.locals σ.heap h'->Q () {σ with heap:=h',toks:=σ.toks+1}):ax (ar ao w) A (assign (.Name a pos) F.env y) Q aC σ:=
 zQ (wpAny_storeName_local (C.loc hF a hk) hn h (by rw[C.kind];rfl))
theorem MD(H:Full w F s g x σ)(hF:F.comp=J):∃m,σ.heap.Ns F.env.locals m:=(H.cmp hF).ns.elim λoc h=>h.elim λmc h=>⟨mc,kl.mpr ⟨oc,H.ri _ _ h.1,h.2.1⟩⟩
theorem VF(H:Full w F s g x σ){p:Bool}{vs:List V}{y:ae}(hd:js w g σ.heap p (.tup vs) y):tB w g σ.heap (.tup vs) y:=by
 induction p with
 |true=>exact hd
 |false=>
  exact Den.inv hd _ λa us n e0 e1 e2 e3 Q_ k_=>k_ a us vs rfl e0 (pq (H.zi _ _ e1)) e2
theorem WT(C:cz w K mg mb cx F)(hF:F.comp=J)(hA:cJ n A)(H:Full w F s g [] σ){a c:af}{pa pc pos:aY}{k:Nat}{v:V}{y:ae}{b:List (af×V)}{p:Bool}(h:Mv cx a c v=U b)(hd:js w g σ.heap p v y):
  ax (ar ao w) A (assign (.Tuple [.Name a pa,.Name c pc] k pos) F.env y) (λj σ'=>Bound w F s g b σ') aC σ:=
 (bN.mp h).elim λq hq=>by
  have hc:=ei hq.2
  rw[Lq hq.1] at hd
  rw[<-aA hc.2]
  refine VF H hd _ λT us vs e1 e2 e3 e4=>?_
  rw[e2]
  rw[<-V.tup.inj e1] at e4
  refine assign_Tuple_tuple hA.handled e3 e4.size rfl λh' he=>?_
  have H0:=H.grow (σ':={σ with heap:=h'}) (λb o e=>he b o (hJ (gy e)) e) rfl rfl
  refine gB (P:=λul=>ax (ar ao w) A (xH [assign (.Name a pa) F.env,assign (.Name c pc) F.env] ul) (λj σ'=>Bound w F s g [(a,q.1),(c,q.2)] σ') aC {σ with heap:=h'}) e4 λy1 r d1 r1=>gB (P:=λr=>ax (ar ao w) A (xH [assign (.Name a pa) F.env,assign (.Name c pc) F.env] (y1::r)) (λj σ'=>Bound w F s g [(a,q.1),(c,q.2)] σ') aC {σ with heap:=h'}) r1 λy2 r d2 r2=>?_
  rw[iF r2]
  exact(MD H0 hF).elim λm hn=>zY (ED C hF hc.1.1 hn λh1 hn1 t5=>zY (ED C hF hc.1.2.1 hn1 λh2 I1 dj=>assignInOrder_nil
   (H0.Pp hF (λb ob hb e=>dj.extBut b ob hb (t5.extBut b ob hb e)) I1 (.cons d1 (.cons d2 .nil)) λz u hz=>abe hc.1.2.2 hz)))
theorem Xs(C:cz w K mg mb cx F)(hF:F.comp=J)(hA:cJ n A)(H:Full w F s g [] σ){p:Bool}{t:ai}{v:V}{y:ae}{b:List (af×V)}(h:bindC cx p t v=U b)(hd:js w g σ.heap p v y):
  ax (ar ao w) A (assign t F.env y) (λj σ'=>Bound w F s g b σ') aC σ:=by
 unfold bindC at h
 cases q:iL t with
 |none=>
  rw[q] at h
  refine(bN.mp h).elim λq1 h1=>(bN.mp h1.2).elim λq2 h2=>(bN.mp h2.2).elim λq3 h3=>(bN.mp h3.2).elim λq4 h4=>?_
  rw[vy h1.1,Bv h2.1,lz h3.1,lz h4.1]
  exact WT C hF hA H h4.2 hd
 |some a=>
  rw[q] at h
  rw[lz q]
  induction p with
  |true=>exact ay ((show(aj:Option (List (af×V)))=U b from h))
  |false=>
   have h:=ei (show(if lk a.1 cx.sc=U .local then U [(a.1,v)] else aj)=U b from h)
   rw[<-aA h.2]
   exact(MD H hF).elim λm hn=>ED C hF h.1 hn λh' kY iA=>H.Pp hF iA.extBut kY (.cons hd .nil) λz u hz=>MQ hz
end
end
section
section
variable {w:aE}{K:aS}{mg mb:af->Option ae}{F:Fm}{s s':S}{g g':Gh}{x y:List ag}{σ σ':aw}{A:bj}{cx:Cx}{n:Nat}{ih:I}{G:bR}{D:ag}{o o':aP}
theorem Full.perm(H:Full w F s g x σ)(p:x.Perm y):Full w F s g y σ:=⟨H.toReg,{H.toCont with nd:=(List.Perm.append_left _ p).nodup_iff.mp H.nd,xo:=λb hb=>H.xo b (p.mem_iff.mpr hb)}⟩
noncomputable def eJ(F:Fm)(D:ag)(o:aP):Fm:={F with kp:=F.kp.put D o}
theorem cz.eJ(C:cz w K mg mb cx F)(D:ag)(o:aP):cz w K mg mb cx (eJ F D o):=⟨C.base,C.kind,C.pW,C.glob,C.blt,C.cmp,C.fn,C.qn,C.loc,C.zo,C.r5,C.lam⟩
section
variable {z ρ:Z}
theorem Reg.E6(R:Reg F z ρ σ)(Gr:cU σ σ')(hD:σ.heap.get? D=aj)(e:σ'.heap.get? D=U o):Reg (Mine.eJ F D o) z ρ σ':=
 have R':=R.grown Gr
 ⟨R'.zi,λa ob k=>Z.lx k (λq k=>by rw[q,<-k];exact e) λj=>R'.ki a ob,R'.ri,λa ob k=>⟨(R.rz a ob k).1,(Z.df _ _ (Z.off (Z.no R.ri hD) k)).trans (R.rz a ob k).2⟩,
  λa ob k=>(R.zk a ob k).imp (λh=>(Z.df _ _ (Z.off (Z.no R.zi hD) k)).trans h) id,R'.zb,R'.base,R'.gens,R'.os⟩
theorem Reg.kept(R:Reg (Mine.eJ F D o) z ρ σ)(hb:F.zb D=aj):ρ D=aj/\z D=none:=by
 refine⟨?_,?_⟩
 ·cases q:ρ D with
  |none=>rfl
  |some ob=>exact mM ((Z.dp F.kp D o).symm.trans (R.rz D ob q).2)
 ·cases q:z D with
  |none=>rfl
  |some ob=>exact(R.zk D ob q).elim (λh=>mM ((Z.dp F.kp D o).symm.trans h)) λh=>ay (hb.symm.trans h)
theorem Reg.Gp(R:Reg (Mine.eJ F D o) z ρ σ)(hb:F.zb D=aj)(P:mB D o' σ σ'):Reg (Mine.eJ F D o') z ρ σ':=
 have k:=R.kept hb
 ⟨λb ob e=>P.heap b ob (Z.off k.2 e) (R.zi b ob e),λa ob e=>Z.lx e (λq k=>by rw[q,<-k];exact P.at_) λq e=>P.heap a ob q (R.ki a ob ((Z.df _ _ q).trans e)),λb ob e=>P.heap b ob (Z.off k.1 e) (R.ri b ob e),
  λa ob e=>⟨(R.rz a ob e).1,(Z.df _ _ (Z.off k.1 e)).trans ((Z.df F.kp o (Z.off k.1 e)).symm.trans (R.rz a ob e).2)⟩,λa ob e=>(R.zk a ob e).imp (λh=>(Z.df _ _ (Z.off k.2 e)).trans ((Z.df F.kp o (Z.off k.2 e)).symm.trans h)) id,
  R.zb,R.base,P.gens.trans R.gens,P.os.trans R.os⟩
theorem Reg.yJ(R:Reg (Mine.eJ F D o) z ρ σ)(hk:F.kp D=aj)(hb:F.zb D=aj)(hs:∀b ob,b≠D->σ.heap.get? b=U ob->σ'.heap.get? b=U ob)(hg:σ'.gens=σ.gens)(ho:σ'.os=σ.os):Reg F z ρ σ':=
 have k:=R.kept hb
 ⟨λb ob e=>hs b ob (Z.off k.2 e) (R.zi b ob e),λa ob e=>hs a ob (Z.off hk e) (R.ki a ob ((Z.df _ _ (Z.off hk e)).trans e)),λb ob e=>hs b ob (Z.off k.1 e) (R.ri b ob e),
  λa ob e=>⟨(R.rz a ob e).1,(Z.df F.kp o (Z.off k.1 e)).symm.trans (R.rz a ob e).2⟩,λa ob e=>(R.zk a ob e).imp (λh=>(Z.df F.kp o (Z.off k.2 e)).symm.trans h) id,R.zb,R.base,hg.trans R.gens,ho.trans R.os⟩
theorem Reg.rm(R:Reg (Mine.eJ F D o) z ρ σ)(hk:F.kp D=aj)(hb:F.zb D=aj):Reg F z (ρ.put D o) σ:=
 have R':=R.yJ hk hb (λj j j e=>e) rfl rfl
 {R' with
  ri:=λa ob e=>Z.lx e (λq k=>by rw[q,<-k];exact R.ki D o (Z.dp _ _ _)) λj=>R'.ri a ob
  rz:=λa ob e=>Z.lx e (λq j=>q▸⟨(R.kept hb).2,hk⟩) λj=>R'.rz a ob}
theorem Reg.BH(R:Reg F z ρ σ)(e0:ρ D=U o):Reg (Mine.eJ F D o) z (ρ.del D) σ:=
 ⟨R.zi,λa ob e=>Z.lx e (λq k=>by rw[q,<-k];exact R.ri _ _ e0) λj=>R.ki a ob,λa ob e=>R.ri a ob (Z.qW e).2,λa ob e=>⟨(R.rz a ob (Z.qW e).2).1,(Z.df _ _ (Z.qW e).1).trans (R.rz a ob (Z.qW e).2).2⟩,
  λa ob e=>(R.zk a ob e).imp (λh=>(Z.df _ _ (Z.off (R.rz D o e0).1 e)).trans h) id,R.zb,R.base,R.gens,R.os⟩
end
theorem Full.E6(H:Full w F s g x σ)(o:aP)(hf:o.isFreed=ah)(hg:σ'.gens=σ.gens)(ho:σ'.os=σ.os)(hh:σ'.heap=σ.heap.push o):Full w (eJ F σ.heap.objs.size o) s g x σ':=
 ⟨H.toReg.E6 (rt o hf hg ho hh).1 kg (rt o hf hg ho hh).2,H.toCont.keep _⟩
theorem Full.kept(H:Full w (eJ F D o) s g x σ)(hb:F.zb D=aj):g.ρ D=aj/\g.z D=none:=H.toReg.kept hb
theorem Full.Gp(H:Full w (eJ F D o) s g x σ)(hb:F.zb D=aj)(P:mB D o' σ σ'):Full w (eJ F D o') s g x σ':=⟨H.toReg.Gp hb P,(H.toCont.rm).keep _⟩
theorem Full.rm(H:Full w (eJ F D o) s g x σ)(hk:F.kp D=aj)(hb:F.zb D=aj):Full w F s {g with ρ:=g.ρ.put D o} (D::x) σ:=
 have no:D∉F.ns++g.ov++g.ot++g.om++x:=λhm=>(H.eY D hm).elim λob e=>ay ((H.kept hb).1.symm.trans e)
 have C:=(H.toCont.rm).mono (ρ':=g.ρ.put D o) (Z.le_refl _) (Z.iH no)
 ⟨H.toReg.rm hk hb,{C with nd:=(Ds.nodup_iff).mpr (eN.mpr ⟨no,H.nd⟩),xo:=eF.mpr ⟨⟨o,Z.dp _ _ _⟩,C.xo⟩}⟩
theorem Full.BH(H:Full w F s g (D::x) σ)(e0:g.ρ D=U o):Full w (eJ F D o) s {g with ρ:=g.ρ.del D} x σ:=
 have n:=eN.mp (Ds.nodup_iff.mp H.nd)
 have C:Cont w F s g x:={H.toCont with nd:=n.2,xo:=λb hb=>H.xo b (.tail _ hb)}
 ⟨H.toReg.BH e0,(C.mono (ρ':=g.ρ.del D) (Z.le_refl _) (Z.vx n.1)).keep _⟩
theorem Full.yJ(H:Full w (eJ F D o) s g x σ)(hk:F.kp D=aj)(hb:F.zb D=aj)(hs:∀b ob,b≠D->σ.heap.get? b=U ob->σ'.heap.get? b=U ob)(hg:σ'.gens=σ.gens)(ho:σ'.os=σ.os):Full w F s g x σ':=
 ⟨H.toReg.yJ hk hb hs hg ho,H.toCont.rm⟩
end
end
section
section
variable {w:aE}{K:aS}{mg mb:af->Option ae}{F:Fm}{s s':S}{g g':Gh}{x:List ag}{σ σ':aw}{A:bj}{cx:Cx}{n:Nat}{ih:I}{G:bR}{D:ag}
structure Gh.lU(g g':Gh):Prop where
 z:Z.le g.z g'.z
 cs:pre g.cs g'.cs
 vl:g'.vl=g.vl
 tv:g'.tv=g.tv
theorem Gh.Yb(g:Gh):g.lU g:=⟨Z.le_refl _,bz _,rfl,rfl⟩
theorem Gh.lU.KV{a b c:Gh}(h:a.lU b)(k:b.lU c):a.lU c:=⟨Z.le_trans h.z k.z,kh h.cs k.cs,k.vl.trans h.vl,k.tv.trans h.tv⟩
theorem Gh.le.lU{a b:Gh}(h:a.le b):a.lU b:=⟨h.z,h.cs,h.vl,h.tv⟩
end
end
section
section
variable {w:aE}{K:aS}{mg mb:af->Option ae}{F:Fm}{s s':S}{g g':Gh}{x:List ag}{σ σ':aw}{A:bj}{cx:Cx}{n:Nat}{ih:I}{G:bR}{D:ag}
theorem yk(h:rL cx sc=J)(hp:p∈sc):(p.2=.free/\lk p.1 cx.sc=U .cell/\lk p.1 sc=U .free)\/(p.2=.local/\lk p.1 sc=U .local)\/p.2=.globalImplicit:=by
 unfold rL at h
 have:=md.mp h p hp
 obtain⟨a,k⟩:=p
 dsimp only at this ⊢
 cases k with
 |free=>simp only[Du,decide_eq_true_eq] at this;exact .inl ⟨rfl,this⟩
 |«local»=>simp only[decide_eq_true_eq] at this;exact .inr (.inl ⟨rfl,this⟩)
 |globalImplicit=>exact .inr (.inr rfl)
 |_=>cases this
theorem Bj{α:Type}{x:af}{a:α}{l:List (af×α)}(h:lk x l=U a):(x,a)∈l:=by
 induction l with
 |nil=>exact ay h
 |cons p r ih=>
  by_cases q:p.1=x
  ·have e:p=(x,a):=Prod.ext q (aA ((eI.1 q).symm.trans h))
   exact e▸.head _
  ·exact .tail _ (ih ((eI.2 q).symm.trans h))
noncomputable abbrev yF(env:dh)(names:List (af×dC)):List (af×dC):=names.map λ(n,k)=>if(k==sJ&&env.scope.kind==.function&&env.kindOf n==U .cell) then(n,DE) else(n,k)
theorem L3{env:dh}{x:af}{k j:dC}(hj:(if(k==sJ&&env.scope.kind==.function&&env.kindOf x==U .cell) then(x,DE) else(x,k))=(x,j)){names:List (af×dC)}(h:names.lookup x=U k):(yF env names).lookup x=U j:=by
 induction names with
 |nil=>exact ay h
 |cons p r ih=>
  have e:yF env (p::r)=(if(p.2==sJ&&env.scope.kind==.function&&env.kindOf p.1==U .cell) then(p.1,DE) else(p.1,p.2))::yF env r:=rfl
  rw[e]
  rw[sD] at h
  cases hx:x==p.1 with
  |true=>
   rw[hx] at h
   rw[<-beq_iff_eq.mp hx,show p.2=k from aA h,hj,sD,beq_self_eq_true]
  |false=>
   rw[hx] at h
   rw[sD,show(x==(if(p.2==sJ&&env.scope.kind==.function&&env.kindOf p.1==U .cell) then(p.1,DE) else(p.1,p.2)).1)=ah from by split<;>exact hx]
   exact ih h
theorem Sx{env:dh}{k:dC}(hk:k≠.free){names:List (af×dC)}{x:af}(h:names.lookup x=U k):(yF env names).lookup x=U k:=
 L3 (if_neg λq=>hk (beq_iff_eq.mp (bl (bl q)))) h
theorem SH{env:dh}(he:env.scope.kind=.function){names:List (af×dC)}{x:af}(h:names.lookup x=U .free)(hc:env.kindOf x=U .cell):(yF env names).lookup x=U .cell:=
 L3 (if_pos (show(sJ==sJ&&env.scope.kind==.function&&env.kindOf x==U .cell)=J from ak (ak rfl (beq_iff_eq.mpr he)) (beq_iff_eq.mpr hc))) h
noncomputable def Bz(F:Fm)(scope:gE)(cl:List (af×ag))(c:ag):Fm:={F with env:=compEnvC scope cl c F.env,comp:=J}
theorem cz.inComp(C:cz w K mg mb cx F)(hF:F.comp=ah){scope:gE}(hk:scope.kind=.function)(hs:rL cx scope.names=J)(c:ag):cz w K mg mb {cx with sc:=scope.names,comp:=J} (Bz F scope (lI F.env.cells scope.names []) c) where
 base:=C.base
 kind:=hk
 pW:=C.pW
 glob:=C.glob
 blt:=C.blt
 cmp:=rfl
 lam:=λj e=>by cases e
 fn:=λe=>by cases e
 qn:=λe=>by cases e
 loc:=λj y hy=>by
  rw[qT] at hy
  exact lookup_relabel_local hy
 zo:=λj y hy=>by
  obtain⟨e1,e2⟩:=C.fn hF
  have hm:=Bj hy
  have hc:lk y cx.sc=U .cell:=by
   rcases yk hs hm with h|h|h
   ·exact h.2.1
   ·cases h.1
   ·cases h
  have w0:F.bh.kindOf y=U .cell:=by unfold D2;rw[<-e2,<-qT];exact hc
  rw[qT] at hy
  refine⟨SH C.kind hy (e1▸w0),w0,?_⟩
  show(lI F.env.cells scope.names []).lookup y=_
  have hl:=Td F.env.cells y scope.names [] (λp hp CJ=>by
   rcases yk hs hp with h|h|h
   ·rw[e1];exact C.qn hF _ h.2.1
   ·rw[CJ] at h;cases h.1
   ·rw[CJ] at h;cases h) (.inl hm) (λc h=>by cases h)
  exact hl.trans (by rw[e1];rfl)
 r5:=λj y hy=>by
  rw[qT] at hy
  exact Sx (by simp) hy
theorem DO(h:isSet i=ah)(x:ae):foldedSetIterable i env x=pure x:=by
 cases i<;>first|rfl|cases h
theorem Xw(h:jR w z cs [] l):l=[]:=by cases h;rfl
theorem Full.NK(H:Full w F s g x σ)(h:s.cv=[]):g.cl=[]:=Xw (h▸H.cv)
theorem Vh(hh:A.handled=aj)(H:Full w F s g [] σ)(hy:lk y g.vl=U xv)(hx:lk y s.vars=U (.list xs)):sV w F A (.live y ah) s g xv σ:=λcZ j=>(AV H hx hy).elim λl h=>by
 have hy:lk y g.vl=U (.ref l):=h.1▸hy
 exact h.2 _ λus k hz hk hl=>h.1▸zZ (gm (H.ri _ _ hz)) (yc H rfl (W0 (σ:={σ with heap:=σ.heap.push _}) hh hy ⟨_,eM _ rfl,rfl,rfl⟩))
theorem Full.E3(H:Full w F s g x σ)(h:g.z a=aj):F.zb a=none:=by
 cases q:F.zb a with
 |none=>rfl
 |some o=>have:=H.zb _ _ q;rw[h] at this;cases this
theorem Full.abI(H1:Full w F s g1 [D,c] aG)(hc:g1.ρ c=U oc)(hs:mf c aG.heap h'):Full w F s {g1 with ρ:=g1.ρ.del c} [D] {aG with heap:=h'}:=by
 have H2:=(H1.perm (JJ c D [])).BH hc
 exact H2.yJ (H1.rz c oc hc).2 (H1.E3 (H1.rz c oc hc).1) (λb ob hb e=>(hs.2 b hb).trans e) rfl rfl
theorem Nf(H1:Full w F s g1 [D,c] aG):D≠c:=by
 have h:=(cM.mp H1.nd).2.1
 rw[eN] at h
 exact λe=>h.1 (by simp [e])
end
end
section
section
variable {w:aE}{K:aS}{mg mb:af->Option ae}{F:Fm}{s s':S}{g g':Gh}{x y:List ag}{σ σ':aw}{A:bj}{cx:Cx}{n:Nat}{ih:I}{G:bR}
theorem Zq:(l++m++x).Nodup↔(l++x++m++[]).Nodup:=by
 rw[bx,aN,aN]
 exact(mS.append_left l).nodup_iff
theorem Full.Zb(H:Full w F s g x σ)(h:dr w g.z g.cs g.ρ sl u x):Full w F {s with bX:=s.bX++[sl]} {g with tv:=g.tv++[u],ot:=g.ot++x} [] σ:=
 ⟨H.toReg,{H.toCont with bX:=H.bX.snoc h,nd:=aN (F.ns++g.ov) g.ot x▸Zq.mp H.nd,xo:=λb hb=>dq hb}⟩
def XI(w:aE)(F:Fm)(s:S)(g:Gh)(a:Sl)(r:List Sl)(σ:aw):Prop:=∀C:Prop,(∀(u:ae) (vs:List ae) (o p:List ag) (e:g.tv=u::vs) (h1:Full w F {s with bX:=r} {g with tv:=vs,ot:=p} o σ) (h2:dr w g.z g.cs g.ρ a u o),C)->C
theorem Zc(h:(l++(o++p)++m++[]).Nodup):(l++p++m++o).Nodup:=by
 have q:(l++(o++(p++m))).Perm (l++((p++m)++o)):=mS.append_left l
 simp only[aN,bx] at h q ⊢
 exact q.nodup h
theorem ZD(h:et w g.z g.cs g.ρ (a::r) v o):∃u vs p q,v=u::vs/\o=p++q/\dr w g.z g.cs g.ρ a u p/\et w g.z g.cs g.ρ r vs q:=by
 cases h with
 |cons h k=>exact⟨_,_,_,_,rfl,rfl,h,k⟩
theorem Full.Nv(H:Full w F s g [] σ)(e:s.bX=a::r):XI w F s g a r σ:=
 (ZD (e▸H.bX)).elim λu h=>h.elim λvs h=>h.elim λo h=>h.elim λp h=>
  λQ_ k_=>k_ u vs o p h.1 ⟨H.toReg,{H.toCont with bX:=h.2.2.2,nd:=Zc (h.2.1▸H.nd),xo:=λb hb=>H.bX.eY b (h.2.1▸bp _ hb)}⟩ h.2.2.1
theorem et.rev:∀{v:List ae} {o:List ag},et w z cs ρ a v o->∃o',et w z cs ρ a.reverse v.reverse o'/\o'.Perm o:=by
 induction a with
 |nil=>intro v o h;rw[(qQ h).1,(qQ h).2];exact⟨[],.nil,.refl _⟩
 |cons a r ih=>exact λh=>As (P:=λv o=>∃o',et w z cs ρ (a::r).reverse v.reverse o'/\o'.Perm o) h λy u p q h k=>(ih k).elim λo' e=>⟨o'++p,by rw[uM,uM];exact e.1.snoc h,mS.trans (e.2.append_left _)⟩
theorem Full.adF(H:Full w F s g [] σ):∃o',Full w F {s with bX:=s.bX.reverse} {g with tv:=g.tv.reverse,ot:=o'} [] σ:=
 H.bX.rev.imp λo' e=>⟨H.toReg,{H.toCont with bX:=e.1,nd:=(((e.2.symm.append_left _).append_right _).append_right _).nodup_iff.mp H.nd,xo:=λb hb=>dq hb}⟩
theorem MT(h:dr w g.z g.cs g.ρ a u o):cg w g a.r u o:=
 dr.casesOn (motive:=λa u o j=>cg w g a.r u o) h .val .list .dict
def F8(w:aE)(F:Fm)(g:Gh)(s':S)(σ':aw):Prop:=∀C:Prop,(∀(g':Gh) (h1:Z.le g.z g'.z) (h2:pre g.cs g'.cs) (h3:g'.tv=[]) (h4:Full w F s' g' [] σ'),C)->C
theorem Full.yu(H:Full w F s g x σ)(h:s.bX=[]):g.tv=[]:=(qQ (h▸H.bX)).1
theorem Mr(h:Gx l=U q):l=q.1::q.2:=by
 induction l with
 |nil=>exact ay h
 |cons a r=>exact aA h▸rfl
theorem Tw(C:cz w K mg mb cx F)(xs:List af):∀{s s':S} {g:Gh} {σ:aw},Ay cx xs s=U s'->Full w F s g [] σ->ax (ar ao w) A (xH (xs.map λn=>bindName F.env n) g.tv) (λj=>F8 w F g s') aC σ:=by
 induction xs with
 |nil=>
  intro s s' g σ h H
  have h:=ei h
  have e:=H.yu (iZ.mp h.1)
  rw[e,<-aA h.2]
  exact assignInOrder_nil (λQ_ k_=>k_ g (Z.le_refl _) (bz _) e H)
 |cons z xs ih=>
  intro s s' g σ h H
  refine(bN.mp h).elim λq hq=>(bN.mp hq.2).elim λs1 h1=>?_
  refine H.Nv (Mr hq.1) _ λu vs o p e H1 hs=>?_
  rw[ff,e]
  refine zY (bindName_ (aW (vf C H1 h1.1 (MT hs)).2 λj aG k=>?_))
  refine k _ λg1 a1 a2=>?_
  have h3:=ih h1.2 a2
  rw[a1.tv] at h3
  refine aW h3 λj bH h2=>?_
  exact h2 _ λg2 b1 b2 b3 b4 Q_ k_=>k_ g2 (Z.le_trans a1.z b1) (kh a1.cs b2) b3 b4
def aaC(w:aE)(F:Fm)(s':S)(g:Gh)(n:Nat)(y:af)(σ:aw):Prop:=∀C:Prop,(∀(g':Gh) (a:ag) (h1:g.le g') (h2:Full w F s' g' [] σ) (h3:lk y g.vl=U (.ref a)) (h4:g'.cs[n]?=U a),C)->C
theorem abE(h:(l++(o1++[a]++o3)++t++m++[]).Nodup):(l++(o1++[]++o3)++t++(m++[a])++[]).Nodup:=by
 have p:(l++o1++(a::(o3++t++m))).Perm (l++o1++((o3++t++m)++[a])):=(mS (l₁:=[a])).append_left _
 simp only[aN,bx,gk,l9] at h p ⊢
 exact p.nodup h
theorem Full.M4(H:Full w F s g [] σ){y:af}(q:lk y s.vars=U (.list xs)):aaC w F {s.set y (.val (.cell s.mem.length)) with mem:=s.mem++[.list xs]} g s.mem.length y σ:=by
 refine H.vars.get q _ λu o1 o2 o3 e1 e2 e3 e4=>?_
 refine e2.inv.elim λa k=>?_
 have hp:pre g.cs (g.cs++[a]):=u4 _ _
 have hc:(g.cs++[a])[s.mem.length]?=U a:=by rw[H.mem.length,mQ (aQ _),qK];rfl
 have hv:=e4 g.z (g.cs++[a]) g.ρ (.val (.cell s.mem.length)) [] (Z.le_refl _) hp (k.1▸.val (.cell hc)) (λj j=>rfl) (λj j=>rfl)
 rw[k.2.2] at e3
 exact k.2.1 _ λus n h d l Q_ k_=>k_ ({g with cs:=g.cs++[a],ov:=o1++[]++o3,om:=g.om++[a]}) a ⟨Z.le_refl _,hp,rfl,rfl,rfl⟩ ⟨H.toReg,⟨H.loc,H.tb,H.cmp,hv,H.bX.mono (Z.le_refl _) hp λj j=>rfl,(H.mem.mono (Z.le_refl _) hp λj j=>rfl).snoc (.list h (d.mono (Z.le_refl _) hp) l),H.cv.mono (Z.le_refl _) hp,
   abE (e3▸H.nd),λb hb=>dq hb⟩⟩ (k.1▸e1) hc
end
end
section
section
variable {w:aE}{K:aS}{mg mb:af->Option ae}{F:Fm}{s s':S}{g g':Gh}{x y:List ag}{σ σ':aw}{A:bj}{cx:Cx}{n:Nat}{ih:I}{G:bR}
theorem cz.interactive(C:cz w K mg mb cx F):interactive F.env=false:=by
 unfold PySem.interactive
 rw[C.kind]
 rfl
theorem cz.block(C:cz w K mg mb cx F):F.env.blockKind=.function:=by
 unfold dh.blockKind
 rw[C.kind]
 rfl
theorem gg.toX(h:gg w F g s' σ):ky w F g s' .next .next σ:=by
 exact h _ λg' a b Q_ k_=>k_ g' a b .next
end
end
section
section
variable {w:aE}{K:aS}{mg mb:af->Option ae}{F:Fm}{s s':S}{g g':Gh}{x y:List ag}{σ σ':aw}{A:bj}{cx:Cx}{n:Nat}{ih:I}{G:bR}
theorem KH(h:dU G cx z s=U r):(z==("__debug__":af))=false:=by
 refine beq_eq_false_iff_ne.mpr λe=>?_
 unfold dU at h
 rw[if_pos e] at h
 cases h
theorem Ys(H:Full w F s g [] σ)(hu:cg w g r u [])(h:Ph s r=U (v,s')):ji w F s' g σ v u:=by
 induction r with
 |val v1=>exact ik (P:=λv s'=>ji w F s' g σ v u) h (λQ_ k_=>k_ g g.le_refl H ((ly hu).1))
 |var y1=>
  refine(dw.mp h).elim λxs q=>(bN.mp q.1).elim λsl q1=>ik (P:=λv s'=>ji w F s' g σ v u) (congrArg U q.2) ?_
  refine H.M4 (q1.1.trans (congrArg U (OB q1.2))) _ λg2 a b1 b2 b3 b4=>?_
  exact aA (b3.symm.trans (E8 hu).1)▸(λQ_ k_=>k_ g2 b1 b2 (.cell b4))
 |list _=>exact ay h
 |dict _ _=>exact ay h
theorem U3(T:eG w K mg mb G)(C:cz w K mg mb cx F)(H:Full w F s g [] σ)(h:M6 G cx e s=U (v,s')):ax (ar ao w) A (eval e F.env) (λu σ'=>ji w F s' g σ' v u) aC σ:=
 (bN.mp h).elim λz q=>(bN.mp q.2).elim λr q1=>by
  rw[lz q.1]
  exact wpAny_Name (yo T C H q1.1 λu hu j=>Ys H hu q1.2) (KH q1.1)
theorem Wi{v:ai}{x:tI}:FI v=U x->∃a b,v=.Constant x a b:=by
 apply ai.casesOn (motive_1:=λv=>FI v=U x->∃a b,v=.Constant x a b) v
 case Constant=>exact λa b c=>λh=>aA h▸⟨b,c,rfl⟩
 all_goals exists ay
theorem aax{v:tI}{x:af}:Const.G5 v=U x->v=.str x:=
 tI.casesOn (motive:=λv=>Const.G5 v=U x->v=.str x) v ay (λj=>ay) (λj=>ay) (λj=>ay) (λj j=>ay) (λa=>λh=>aA h▸rfl) (λj=>ay) ay
theorem Zo(h:Qb e=U k):∃a b,e=.Constant (.str k) a b:=(bN.mp h).elim λc q=>aax q.2▸Wi q.1
def vL(w:aE)(F:Fm)(s':S)(g:Gh)(ps:List (V×V))(vals:List (ae×ae))(σ':aw):Prop:=∀C:Prop,(∀(g':Gh) (h1:g.le g') (h2:Full w F s' g' [] σ') (h3:rC w g'.z g'.cs ps vals),C)->C
theorem TU:∀{keys:List V},strKeys ke=U keys->ke.all (·.isSome)=J/\keys.length=ke.length:=by
 induction ke with
 |nil=>exact λh=>aA h▸⟨rfl,rfl⟩
 |cons e r ih=>
  exact λ{keys} h=>(bN.mp h).elim λk q=>(dw.mp q.2).elim λl q2=>(bN.mp q.1).elim λe1 q1=>by
   rw[<-q2.2,q1.1]
   exact⟨ak rfl (ih q2.1).1,congrArg (·+1) (ih q2.1).2⟩
theorem TG(T:eG w K mg mb G)(C:cz w K mg mb cx F)(ke:List (Option ai)):∀(ve:List ai) {keys vals:List V} {s s':S} {g:Gh} {σ:aw},strKeys ke=U keys->EG G cx ve s=U (vals,s')->ke.length=ve.length->Full w F s g [] σ->
  ax (ar ao w) A (evalPairs (pairTrees ke ve F.env pos)) (λvs σ'=>vL w F s' g (keys.zip vals) vs σ') aC σ:=by
 induction ke with
 |nil=>
  intro ve keys vals s s' g σ h1 h2 hl H
  induction ve with
  |cons _ _=>exact nomatch hl
  |nil=>rw[<-aA h1];exact evalPairs_nil (ik (P:=λvals s'=>vL w F s' g (([]:List V).zip vals) [] σ) h2 (λQ_ k_=>k_ g g.le_refl H .nil))
 |cons e r ih=>
  intro ve keys vals s s' g σ h1 h2 hl H
  induction ve with
  |nil=>exact nomatch hl
  |cons v ve=>
   refine(bN.mp h1).elim λk q=>(dw.mp q.2).elim λl q2=>(bN.mp q.1).elim λe1 q1=>(Zo q1.2).elim λck h=>h.elim λcp h=>?_
   refine(bN.mp h2).elim λp p1=>(dw.mp p1.2).elim λt p2=>?_
   rw[<-q2.2,q1.1,h]
   refine ik (P:=λvals s'=>ax (ar ao w) A (evalPairs (pairTrees (U (.Constant (.str k) ck cp)::r) (v::ve) F.env pos)) (λvs σ'=>vL w F s' g ((.str k::l).zip vals) vs σ') aC σ) (congrArg U p2.2) ?_
   refine evalPairs_cons (wpAny_Constant_str ?_)
   refine au (aW (U3 T C (H.toks (σ.toks+1)) p1.1) λvu bH h2=>au (wpAny_standAt (aI ?_)))
   refine h2 _ λg2 b1 b2 b3=>?_
   refine aW (ih ve q2.1 p2.1 (Ak hl) b2) λvals jY h3=>?_
   exact h3 _ λg3 c2 c3 c4 Q_ k_=>k_ g3 (b1.le_trans c2) c3 (.cons (.str _ _) (b3.mono c2.z c2.cs) c4)
def Yn(w:aE)(K:aS)(mg mb:af->Option ae)(cx:Cx)(s:S)(ke:List (Option ai))(ve:List ai)(pos:aY)(s':S)(wO IW ks vs:List V):Prop:=∀C:Prop,(∀(ps:List (V×V)) (h1:ke.all (·.isSome)=J) (h2:ke.length=ve.length) (h3:ps.length<=ke.length) (h4:nX ps wO IW=U (ks,vs)) (h5:∀(F:Fm) (g:Gh) (A:bj) (σ:aw),cz w K mg mb cx F->Full w F s g [] σ->ax (ar ao w) A (evalPairs (pairTrees ke ve F.env pos)) (vL w F s' g ps) aC σ),C)->C
theorem Ud(T:eG w K mg mb G)(h:EA G cx ke ve wO IW s=U ((ks,vs),s')):Yn w K mg mb cx s ke ve pos s' wO IW ks vs:=by
 have h:=ei h
 refine(bN.mp h.2).elim λkeys q=>(bN.mp q.2).elim λp q2=>(dw.mp q2.2).elim λd q3=>?_
 have e:=mZ q3.2
 have L:=TU q.1
 exact λQ_ k_=>k_ (keys.zip p.1) L.1 h.1 (by rw[JF,L.2];exact Dz _ _) (e.1▸q3.1) (λF g A σ C H=>e.2▸TG T C ke ve q.1 q2.1 h.1 H)
end
end
section
section
variable {w:aE}{K:aS}{mg mb:af->Option ae}{F:Fm}{s s':S}{g g':Gh}{x y:List ag}{σ σ':aw}{A:bj}{cx:Cx}{n:Nat}{ih:I}{G:bR}
theorem adi[Decidable c][Decidable d](h:c↔d):(if c then a else b)=if d then a else b:=by
 by_cases q:d
 ·rw[if_pos q,if_pos (h.mpr q)]
 ·rw[if_neg q,if_neg λk=>q (h.mp k)]
theorem ahi(C:cz w K mg mb cx F)(hF:F.comp=ah)(x:af):F.env.kindOf x=lk x cx.sc:=by
 unfold D2
 rw[(C.fn hF).1,(C.fn hF).2,qT]
theorem WR(C:cz w K mg mb cx F)(hc:cx.comp=ah)(h0:∀t,iL t=aj->f t=aj)(h1:∀id pos,f (.Name id pos)=if(F.env.kindOf id==U .local&&pos.line==(ts.head?.map (·.pos.line)).getD 0)=J then U id else aj):ts.filterMap f=jN cx ts:=by
 refine congrArg (λf=>ts.filterMap f) (funext λt=>?_)
 cases q:iL t with
 |none=>rw[h0 t q];rfl
 |some p=>
  rw[lz q,h1]
  have e:=ahi C (C.cmp.symm.trans hc) p.1
  rw[e]
  refine adi ?_
  rw[Du,beq_iff_eq,beq_iff_eq]
noncomputable def noStar(v:ai):Bool:=by
 apply ai.casesOn (motive_1:=λj=>Bool) v
 case Starred=>exact λa b=>ah
 all_goals exists J
theorem Y8{es:List ai}{f:ai->Bool}(h:es.all noStar=J)(k:∀e,noStar e=J->f e=ah):¬es.any f=true:=λq=>(List.any_eq_true.mp q).elim λe q=>jk (q.2.symm.trans (k e (md.mp h e q.1)))
theorem or3(h:a=ah)(k:b=ah)(l:c=ah):¬(a||b||c)=true:=by rw[h,k,l];exact bo
theorem or2(h:a=ah)(k:b=ah):¬(a||b)=true:=by rw[h,k];exact bo
theorem afC(h:n=2\/n=3):(!(n==2||n==3))=false:=h.elim (λe=>by rw[e];rfl) λe=>by rw[e];rfl
theorem Bs{α:Type}[BEq α][LawfulBEq α]{a b:α}(h:a=b):(a !=b)=false:=by rw[h];exact bne_self_eq_false ..
def ac6(ts es:List ai)(blk:ScopeKind)(N:List af)(v:Sem (Option (List af))):Prop:=∀C:Prop,(∀(f:ai->Bool) (hf:∀e,noStar e=J->f e=ah) (msg:String) (e:v=if !(ts.length==2||ts.length==3)||es.length !=ts.length||blk !=.function then pure aj else if es.any f then pure aj else if N.length !=ts.length||N.eraseDups.length !=N.length then pure aj else if es.all (foldedForSure 8) then pure aj else if es.all (constantsAlone 8) then unsupported msg else pure (U N)),C)->C
theorem Nq(C:cz w K mg mb cx F)(hc:cx.comp=ah):ac6 ts es F.env.blockKind (jN cx ts) (uP [.Tuple ts k p] (.Tuple es k2 p2) F.env):=by
 unfold uP
 dsimp only
 generalize hN:DB _ ts=N
 have e:N=jN cx ts:=hN.symm.trans (WR C hc (λv=>by cases v<;>first|exact λj=>rfl|exact mM) λj j=>rfl)
 clear hN
 subst e
 refine λQ_ k_=>k_ _ ?_ _ rfl
 intro v
 cases v<;>first|exact λj=>rfl|exact bo
theorem Tu(C:cz w K mg mb cx F)(hc:cx.comp=ah){ts es:List ai}{p p2:aY}(h1:ts.length=2\/ts.length=3)(h2:(jN cx ts).length=ts.length)(h3:es.length=ts.length)(h4:(jN cx ts).eraseDups.length=ts.length)
  (h5:es.all noStar=J) (h6:es.all (foldedForSure 8)=ah) (h7:es.all (constantsAlone 8)=ah):uP [.Tuple ts k p] (.Tuple es k2 p2) F.env=pure (U (jN cx ts)):=by
 exact Nq C hc _ λf hf m e=>e.trans<|(if_neg (or3 (afC h1) (Bs h3) (Bs C.block))).trans<|(if_neg (Y8 h5 hf)).trans<|(if_neg (or2 (Bs h2) (Bs (h4.trans h2.symm)))).trans<|(if_neg (by rw[h6];exact bo)).trans (if_neg (by rw[h7];exact bo))
theorem LC[Decidable c](h:b=a):(if c then a else b)=a:=by
 split
 ·rfl
 ·exact h
theorem Xo(C:cz w K mg mb cx F)(hc:cx.comp=ah)(eD:¬((ts.length=2\/ts.length=3)/\(jN cx ts).length=ts.length)):uP [.Tuple ts k p] (.Tuple es k2 p2) F.env=pure none:=by
 refine Nq C hc (ts:=ts) (es:=es) (k:=k) (k2:=k2) (p:=p) (p2:=p2) _ λf hf m e=>?_
 rw[e]
 by_cases hl:ts.length=2\/ts.length=3
 ·exact LC (LC (if_pos ((Ab ..).mpr (.inl (bne_iff_ne.mpr λe=>eD ⟨hl,e⟩)))))
 ·have h0:(!(ts.length==2||ts.length==3))=true:=by
   rw[Bool.not_eq_true',Jj]
   exact⟨beq_eq_false_iff_ne.mpr λe=>hl (.inl e),beq_eq_false_iff_ne.mpr λe=>hl (.inr e)⟩
  exact if_pos ((Ab ..).mpr (.inl ((Ab ..).mpr (.inl h0))))
end
end
section
section
variable {w:aE}{σ:aw}{A:bj}
def agO(r:R)(σ:aw)(v:ae)(σ':aw):Prop:=∀C:Prop,(∀(i:Int) (tk:gY) (k:Nat) (e1:r=.val (.int i)) (e2:v=.int i tk) (e3:σ'={σ with toks:=k}),C)->C
theorem Ks(e:fg o (.int a) (.int b)=U r):ax (ar ao w) A (inplaceOp o (.int a t) (.int b u)) (λv σ'=>agO r σ v σ') aC σ:=by
 induction o with
 |Add=>exact iadd_int (λQ_ k_=>k_ _ _ _ ((aA e).symm) rfl rfl)
 |Sub=>exact isub_int (λQ_ k_=>k_ _ _ _ ((aA e).symm) rfl rfl)
 |Mult=>
  have q:=ei (show(if b.natAbs<18446744073709551616 then U (R.val (.int (a*b))) else aj)=U r from e)
  exact imul_int (λQ_ k_=>k_ _ _ _ ((aA q.2).symm) rfl rfl) (SM (intBits_le_64 (by have:=q.1;omega) (by have:=q.1;omega)))
 |Mod=>
  have q:=ei (show(if 0<b then U (R.val (.int (a%b))) else aj)=U r from e)
  exact imod_int (mW q.1) (by rw[LJ q.1];exact λQ_ k_=>k_ _ _ _ ((aA q.2).symm) rfl rfl)
 |FloorDiv=>
  have q:=ei (show(if 0<b/\b<1073741824 then U (R.val (.int (a/b))) else aj)=U r from e)
  exact ifloordiv_int (mW q.1.1) (by rw[LS q.1.1];exact λQ_ k_=>k_ _ _ _ ((aA q.2).symm) rfl rfl) (.inl (Sf (by have:=q.1;omega)))
 |_=>exact ay e
end
end
section
def FnAt(w:aE)(K:aS)(a:Nat)(f:bb):Prop:=∀C:Prop,(∀(o:aP) (fd:FuncData) (ds:List ae) (c:ag) (oc:aP) (vs:Array ae) (t:gY) (ho:K.lookup a=U o) (hd:o.data=.func fd) (body:fd.body=.stmts f.body) (names:fd.scope.names=f.sc) (kind:fd.scope.kind=.function) (co:fd.scope.isCoroutine=ah) (gen:fd.scope.isGenerator=ah) (Qx:fd.closure=[]) (r5:fd.globals=jE) (blt:fd.builtins=qM) (lam:a=Gf->fd.code=.ref pJ/\fd.qualname=yO) (c1:fd.code=.ref c) (c2:K.lookup c=U oc) (c3:oc.data=.fields vs) (c4:vs[1]?=U (.str fd.qualname t)) (HJ:∀z cs,aF w z cs f.defaults ds) (bind:∀(ys:List ae) (s:aw),K.In s.heap->ys.length<=f.params.length->f.params.length<=ys.length+ds.length->BindsTo s fd ⟨ys,[]⟩ (f.params.zip (ys++ds.drop (ds.length-(f.params.length-ys.length))))),C)->C
structure B8(w:aE)(K:aS)(a:Nat)(f:bb):Prop where
 keep:keepIn K (.ref a)=J
 nodup:f.params.Nodup
 cells:((m4 0 f.sc []).map (·.1)).Nodup
 kind:∀p∈f.params,∀n,f.sc.lookup p=U .local\/(f.sc.lookup p=U .cell/\((m4 n f.sc []).lookup p).isSome=J)
 qn:∀x n,lk x f.sc=U .cell->∃c,(m4 n f.sc []).lookup x=U c
 fn:FnAt w K a f
section
variable {w:aE}{K:aS}{mg mb:af->Option ae}{F:Fm}{s s':S}{g g':Gh}{x y:List ag}{σ σ':aw}{A:bj}{cx:Cx}{n:Nat}{ih:I}{G:bR}
theorem Xy:∀{l:List V} {us:List ae} {ps:List af},aF w z cs l us->eH w z cs ρ ((ps.zip l).map λp:af×V=>(p.1,Sl.val p.2)) (ps.zip us) []:=λ{l}=>by
 induction l with
 |nil=>intro us ps h;rw[iF h,List.zip_nil_right,List.zip_nil_right];exact .nil
 |cons a r ih=>
  intro us ps h
  induction ps with
  |nil=>exact .nil
  |cons p ps=>exact gB (P:=λus=>eH w z cs ρ (((p::ps).zip (a::r)).map λp:af×V=>(p.1,Sl.val p.2)) ((p::ps).zip us) []) h λy q h1 h2=>eH.cons (dr.val h1) (ih h2)
theorem US(h:vT ps vs d=U b)(hd:aF w z cs (vs++d.drop (d.length-(ps.length-vs.length))) us):(vs.length<=ps.length/\ps.length<=vs.length+d.length)/\eH w z cs ρ b (ps.zip us) []:=by
 have q:=ei h
 rw[<-aA q.2]
 exact⟨⟨q.1.1,kb ..▸Nat.le_add_of_sub_le q.1.2⟩,Xy hd⟩
theorem E9{α:Type}{q y:af}{a v:α}{r:List (af×α)}{P:Prop}(h:lk q ((y,a)::r)=U v)(h1:y=q->a=v->P)(h2:y≠q->lk q r=U v->P):P:=by
 by_cases e:y=q
 ·exact h1 e (aA ((eI.1 e).symm.trans h))
 ·exact h2 e ((eI.2 e).symm.trans h)
theorem Mh{kind:af->Option dC}{j:dC}{B:List (af×ae)->(af->Option ae)->af->Option ae}(step:∀y a r m,∃m',B ((y,a)::r) m=B r m'/\(∀q,q≠y->m' q=m q)/\(kind y=U j->m' y=U a))(nil:∀m,B [] m=m)(l:List (af×ae)):
  ∀m:af->Option ae,(l.map (·.1)).Nodup->(∀q v,lk q l=U v->kind q=U j->B l m q=U v)/\(∀q,q∉l.map (·.1)->B l m q=m q):=by
 induction l with
 |nil=>exact λm x=>⟨λq v h x=>(ay h),λq x=>congrFun (nil m) q⟩
 |cons p r ih=>
  intro m h
  have h:=eN.mp h
  refine(step p.1 p.2 r m).elim λm' s=>?_
  have k:=ih m' h.2
  have e:B (p::r) m=B r m':=s.1
  rw[e]
  exact⟨λq v hq hk=>E9 hq (λe1 e2=>(k.2 q (e1▸h.1)).trans (e1▸e2▸s.2.2 (e1▸hk))) λx hq=>k.1 q v hq hk,
   λq hq=>(k.2 q λz=>hq (.tail _ z)).trans (s.2.1 q λz=>hq (z▸.head _))⟩
theorem Yv(kind:af->Option dC)(l:List (af×ae))(m:af->Option ae)(h:(l.map (·.1)).Nodup):∀q v,lk q l=U v->kind q=U .local->bindL kind l m q=U v:=
 (Mh (λy a r m=>⟨_,rfl,λq hq=>by
  split
  ·exact if_neg hq
  ·rfl,λhk=>by rw[if_pos hk];exact if_pos rfl⟩) (λx=>rfl) l m h).1
theorem Xi(kind:af->Option dC)(l:List (af×ae))(m:af->Option ae)(h:(l.map (·.1)).Nodup):∀q v,lk q l=U v->kind q=U .cell->PySem.bindC kind l m q=U v:=
 (Mh (λy a r m=>⟨_,rfl,λq hq=>by
  split
  ·rfl
  ·exact if_neg hq,λhk=>by rw[if_neg (by rw[hk];exact nofun)];exact if_pos rfl⟩) (λx=>rfl) l m h).1
end
end
noncomputable def rB(p:Int×Nat):List (Int×Nat)->List (Int×Nat)
 |[]=>[p]
 |q::r=>if p.1<=q.1 then p::q::r else q::rB p r
noncomputable def jb:List (Int×Nat)->List (Int×Nat)
 |[]=>[]
 |p::r=>rB p (jb r)
def jU(p q:Int×Nat):Prop:=p.1<q.1\/(p.1=q.1/\p.2<q.2)
theorem D4(p:Int×Nat):∀r,(rB p r).Perm (p::r)
 |[]=>.refl _
 |q::r=>by
  unfold rB
  split
  ·exact .refl _
  ·exact((D4 p r).cons q).trans (.swap p q r)
theorem sN:∀l,(jb l).Perm l
 |[]=>.nil
 |p::r=>(D4 p _).trans ((sN r).cons p)
theorem Lu(p:Int×Nat):∀r,r.Pairwise jU->(∀q∈r,p.2<q.2)->(rB p r).Pairwise jU
 |[],_,_=>.cons (λj h=>dq h) .nil
 |q::r,h,hp=>by
  obtain⟨h1,h2⟩:=lg.mp h
  unfold rB
  split
  ·rename_i c
   refine lg.mpr ⟨λz hz=>?_,h⟩
   have mL:=hp z hz
   have hzk:q.1<=z.1:=by
    rcases cf.mp hz with rfl|hz
    ·exact gz _
    ·rcases h1 z hz with h|h
     ·exact fy h
     ·exact Ao h.1
   unfold jU
   lia
  ·rename_i c
   refine lg.mpr ⟨λz hz=>?_,Lu p r h2 λq hq=>hp q (.tail _ hq)⟩
   rcases cf.mp ((D4 p r).mem_iff.mp hz) with rfl|hz
   ·left;lia
   ·exact h1 z hz
theorem Lf:∀l:List (Int×Nat),l.Pairwise (λp q=>p.2<q.2)->(jb l).Pairwise jU
 |[],_=>.nil
 |p::r,h=>by
  obtain⟨h1,h2⟩:=lg.mp h
  exact Lu p _ (Lf r h2) λq hq=>h1 q ((sN r).mem_iff.mp hq)
theorem LY(f:Nat->V)(p:Int×Nat):∀r,tZ p.1 (f p.2) (r.map λq=>(q.1,f q.2))=(rB p r).map λq=>(q.1,f q.2)
 |[]=>rfl
 |q::r=>by
  rw[ff]
  unfold tZ rB
  split
  ·rfl
  ·rw[LY f p r];rfl
theorem K3(f:Nat->V):∀l:List (Int×Nat),kC (l.map λq=>(q.1,f q.2))=(jb l).map λq=>(q.1,f q.2)
 |[]=>rfl
 |p::r=>by
  rw[ff]
  show tZ p.1 (f p.2) (kC _)=_
  rw[K3 f r,LY]
  rfl
theorem aaM{a b:List (Int×Nat)}(h:a.Perm b)(ha:a.Pairwise jU)(hb:b.Pairwise jU):a=b:=by
 have asymm:∀p q,jU p q->jU q p->False:=λp q h k=>by unfold jU at h k;lia
 induction a generalizing b with
 |nil=>exact(List.nil_perm.mp h).symm
 |cons x a ih=>
  induction b with
  |nil=>exact absurd h.symm (List.not_perm_nil_cons _ _)
  |cons y b=>
   obtain⟨a1,a2⟩:=lg.mp ha
   obtain⟨b1,b2⟩:=lg.mp hb
   have:x=y:=by
    rcases cf.mp (h.mem_iff.mp (List.mem_cons_self ..)) with e|hx
    ·exact e
    ·rcases cf.mp (h.mem_iff.mpr (List.mem_cons_self ..)) with e|hy
     ·exact e.symm
     ·exact(asymm _ _ (b1 x hx) (a1 y hy)).elim
   subst this
   rw[ih ((List.perm_cons x).mp h) a2 b2]
section
section
variable {α:Type}
theorem Lx{L A B C:List α}(h1:∀i,i<A.length->L[i]?=A[i]?)(h2:∀j,j<B.length->L[A.length+j]?=B[j]?)(h3:∀j,L[A.length+B.length+j]?=C[j]?):L=A++B++C:=by
 apply List.ext_getElem?
 intro i
 rw[aN]
 by_cases k1:i<A.length
 ·exact(h1 i k1).trans (qw k1).symm
 ·obtain⟨j,rfl⟩:=Sb (iD.mp k1)
  rw[mQ (fe _ _),xh]
  by_cases k2:j<B.length
  ·exact(h2 j k2).trans (qw k2).symm
  ·obtain⟨q,rfl⟩:=Sb (iD.mp k2)
   rw[mQ (fe _ _),xh,<-j9]
   exact h3 q
theorem KN{xs:Array α}{A B C:List α}(h:xs.toList=A++B++C):(∀i,i<A.length->xs[i]?=A[i]?)/\(∀j,j<B.length->xs[A.length+j]?=B[j]?)/\(∀j,xs[A.length+B.length+j]?=C[j]?)/\A.length+B.length+C.length=xs.size:=by
 have g:∀i,xs[i]?=(A++(B++C))[i]?:=λi=>by rw[<-dG,h,aN]
 refine⟨λi k=>(g i).trans (qw k),λj k=>?_,λj=>?_,by rw[<-fO,h,aX,aX]⟩
 ·rw[g,mQ (fe _ _),xh]
  exact qw k
 ·rw[g,j9,mQ (fe _ _),xh,mQ (fe _ _),xh]
theorem Un{xs:Array α}{A B C:List α}{x:α}(h:xs.toList=A++B++x::C):(bubble xs (A.length+B.length) B.length).toList=A++x::B++C:=by
 obtain⟨g1,g2,g3,g4⟩:=KN h
 have hs:A.length+B.length<xs.size:=g4▸Dc (uX _)
 have e:=getElem?_bubble hs B.length (xF _ _)
 rw[Jx] at e
 refine Lx (λi k=>?_) (λj k=>?_) λj=>?_
 ·rw[dG,e,if_neg (hJ k),if_neg λq=>Nat.lt_asymm k q.1]
  exact g1 i k
 ·rw[dG,e]
  induction j with
  |zero=>rw[if_pos (Nat.add_zero _)];exact g3 0
  |succ j=>
   rw[if_neg (mh (Dc (uX j))),if_pos ⟨Dc (uX j),gd (pk k) _⟩]
   exact g2 j (Nat.lt_of_succ_lt_succ k)
 ·have k:A.length+B.length<A.length+(x::B).length+j:=Nat.lt_add_right j (nT _)
  rw[dG,e,if_neg (mh (bq (fe _ _) k)),if_neg λq=>Nat.not_le.mpr k q.2,show A.length+(x::B).length+j=A.length+B.length+(j+1) from(qE _ 1 j:A.length+B.length+1+j=_)]
  exact g3 (j+1)
theorem Xv(a b j:Nat)(h:j<b):a+(a+b)-1-(a+j)=a+(b-1-j):=by
 rw[Nat.sub_right_comm,Nat.add_sub_add_left,Nat.add_sub_assoc (ee h),Nat.add_sub_assoc (JB h),Nat.sub_right_comm]
theorem Ue{xs:Array α}{A B C:List α}(h:xs.toList=A++B++C):(mirror xs A.length (A.length+B.length) ((A.length+B.length-A.length)/2)).toList=A++B.reverse++C:=by
 obtain⟨g1,g2,g3,g4⟩:=KN h
 have e:=getElem?_mirror_all (i:=A.length) (g4▸fe _ _:A.length+B.length<=xs.size)
 refine Lx (λi k=>?_) (λj k=>?_) λj=>?_
 ·rw[dG,e,if_neg λq=>iD.mpr q.1 k]
  exact g1 i k
 ·rw[ph] at k
  rw[dG,e,if_pos ⟨fe _ _,Nat.add_lt_add_left k _⟩,Xv _ _ _ k,List.getElem?_reverse k]
  exact g2 _ (Nat.sub_lt_of_lt (Nat.sub_lt (bq (eO _) k) Nat.one_pos))
 ·rw[dG,ph,e,if_neg λq=>iD.mpr (fe _ _) q.2]
  exact g3 j
end
noncomputable def iO(aH:Array kq):List (Int×Nat):=(cb aH.size).map λj=>(K aH j,j)
noncomputable def mO(aH:Array kq)(q:Int×Nat):Keyed:=aH.getD q.2 (.none,.none)
structure Tag(aH xs:Array kq)(P:List (Int×Nat)):Prop where
 arr:xs.toList=(P++(iO aH).drop P.length).map (mO aH)
 perm:P.Perm ((iO aH).take P.length)
section
variable {aH xs:Array kq}{P P' A B:List (Int×Nat)}{x:Int×Nat}{k:Nat}
theorem xK:(iO aH).length=aH.size:=by unfold iO;rw[aO,g8]
theorem AK(h:j<aH.size):(iO aH)[j]?=U (K aH j,j):=by unfold iO;rw[gj,Dh h];rfl
theorem Tag.le(H:Tag aH xs P):P.length<=aH.size:=by
 have:=H.perm.length_eq
 rw[qH,xK] at this
 exact this▸sE _ _
theorem Tag.low(H:Tag aH xs P)(h:q∈P):q.2<P.length/\q.1=K aH q.2:=by
 obtain⟨i,hi⟩:=zU (H.perm.mem_iff.mp h)
 have hl:i<P.length:=d9 (g7.mp hi).1 (Jq ..)
 rw[Jb hl,AK (d9 hl H.le)] at hi
 cases hi
 exact⟨hl,rfl⟩
theorem ahC(h:xs[j]?=U (mO aH q))(hq:q.2<aH.size):K xs j=K aH q.2:=by
 refine K_congr (h.trans ?_)
 unfold mO
 rw[Array.getD_eq_getD_getElem?,xg hq]
 rfl
theorem Tag.key(H:Tag aH xs P)(h:P[j]?=U q):K xs j=q.1:=by
 obtain⟨h1,h2⟩:=H.low (List.mem_of_getElem? h)
 rw[h2]
 refine ahC ?_ (d9 h1 H.le)
 rw[<-dG,H.arr,gj,qw (g7.mp h).1,h]
 rfl
theorem Tag.next(_:Tag aH xs P)(hk:P.length<aH.size):(iO aH).drop P.length=(K aH P.length,P.length)::(iO aH).drop (P.length+1):=
 List.drop_eq_getElem?_toList_append.trans (by rw[AK hk];rfl)
theorem Tag.snoc(H:Tag aH xs P)(hk:P.length<aH.size):Tag aH xs (P++[(K aH P.length,P.length)]):=by
 refine⟨by rw[aX,aN,H.arr,H.next hk];rfl,?_⟩
 rw[aX,iY,Dp,AK hk]
 exact H.perm.append_right _
theorem Tag.turn(H:Tag aH xs P)(hp:P'.Perm P)(h:iC.toList=(P'++(iO aH).drop P.length).map (mO aH)):Tag aH iC P':=
 ⟨hp.length_eq▸h,hp.length_eq▸hp.trans H.perm⟩
theorem Tag.bubble(H:Tag aH xs (A++B))(hk:(A++B).length<aH.size):Tag aH (bubble xs (A.length+B.length) B.length) (A++(K aH (A++B).length,(A++B).length)::B):=by
 refine(H.snoc hk).turn (by rw[aN];exact(mS (l₁:=[_])).append_left A) ?_
 have h:=H.arr
 rw[H.next hk,bZ,bZ,ff] at h
 have e:=Un h
 rw[aO,aO] at e
 rw[e,show(A++B++[(K aH (A++B).length,(A++B).length)]).length=(A++B).length+1 from aX,bZ,bZ,ff]
theorem Tag.mirror(H:Tag aH xs (A++B)):Tag aH (mirror xs A.length (A.length+B.length) ((A.length+B.length-A.length)/2)) (A++B.reverse):=by
 refine H.turn ((List.reverse_perm B).append_left A) ?_
 have h:=H.arr
 rw[bZ,bZ] at h
 have e:=Ue h
 rw[aO,aO] at e
 rw[e,bZ,bZ,List.map_reverse]
theorem M3(h:1<=aH.size):Tag aH aH [(K aH 0,0)]:=by
 have:=Tag.snoc (P:=[]) (xs:=aH) ⟨?_,by exact .nil⟩ h
 ·exact this
 ·apply List.ext_getElem?
  intro i
  rw[gk,j7,xG,gj,dG]
  by_cases hi:i<aH.size
  ·rw[AK hi]
   show _=U (mO aH _)
   unfold mO
   rw[Array.getD_eq_getD_getElem?,xg hi]
   rfl
  ·rw[kZ (by rw[xK];exact iD.mp hi),Sh (iD.mp hi)]
   rfl
theorem Tag.all(H:Tag aH xs P)(h:P.length=aH.size)(hp:P.Pairwise jU):xs.toList=(jb (iO aH)).map (mO aH):=by
 have hi:(iO aH).Pairwise λp q=>p.2<q.2:=by
  unfold iO
  rw[z4]
  exact Dd
 have e:P=jb (iO aH):=aaM (H.perm.trans (by rw[xi (by rw[h,xK];exact aQ _)];exact(sN _).symm)) hp (Lf _ hi)
 rw[H.arr,De (by rw[h,xK];exact aQ _),bx,<-e]
end
end
section
section
variable {P A B Q:List (Int×Nat)}{l:Int×Nat}{v c:Int}{k:Nat}
abbrev iq(P:List (Int×Nat)):Prop:=P.Pairwise jU
abbrev BV(P:List (Int×Nat)):Prop:=P.Pairwise λp q=>jU q p
theorem jU.le(h:jU p q):p.1<=q.1:=h.elim fy λh=>Ao h.1
theorem Nz(h:p.1<=v)(ht:p.2<k):jU p (v,k):=(Int.lt_or_eq_of_le h).imp id λe=>⟨e,ht⟩
theorem XK(h:iq (Q++[l]))(ht:∀q∈Q++[l],q.2<k)(hv:l.1<=v):iq (Q++[l]++[(v,k)]):=
 qB.mpr ⟨h,su ..,λa ha b hb=>by
  rw[cK.mp hb]
  refine Nz ?_ (ht a ha)
  rcases gx.mp ha with h1|h1
  ·exact gO ((qB.mp h).2.2 a h1 l (.head _)).le hv
  ·rw[cK.mp h1];exact hv⟩
theorem Z7(h:iq (A++B))(ht:∀q∈A++B,q.2<k)(h1:∀a∈A,a.1<=v)(h2:∀b∈B,v<b.1):iq (A++(v,k)::B):=
 let ⟨ha,hb,hc⟩:=qB.mp h
 qB.mpr ⟨ha,hb.cons λb q=>.inl (h2 b q),λa qa b qb=>(cf.mp qb).elim (λe=>e▸Nz (h1 a qa) (ht a (bp _ qa))) (hc a qa b)⟩
structure Dn(A B:List (Int×Nat))(c:Int):Prop where
 down:BV A
 gap:∀a∈A,c<a.1
 same:∀b∈B,b.1=c
 up:B.Pairwise λp q=>p.2<q.2
theorem Dn.turn(H:Dn A B c):BV (A++B.reverse):=
 qB.mpr ⟨H.down,Jh.mpr (H.up.imp_of_mem λ{a b} ha hb h=>.inr ⟨(H.same a ha).trans (H.same b hb).symm,h⟩),λa ha b hb=>.inl (H.same b (Dt.mp hb)▸H.gap a ha)⟩
theorem Dn.less(H:Dn A B c)(hv:v<c):Dn (A++B.reverse) [(v,k)] v:=
 ⟨H.turn,λa ha=>(gx.mp ha).elim (λh=>sM hv (H.gap a h)) λh=>H.same a (Dt.mp h)▸hv,λb hb=>by rw[cK.mp hb],su ..⟩
theorem Dn.alike(H:Dn A B c)(hv:v=c)(ht:∀q∈B,q.2<k):Dn A (B++[(v,k)]) c:=
 ⟨H.down,H.gap,λb hb=>(gx.mp hb).elim (H.same b) λh=>by rw[cK.mp h];exact hv,qB.mpr ⟨H.up,su ..,λa ha b hb=>by rw[cK.mp hb];exact ht a ha⟩⟩
end
section
variable {prog:Program}{w:aE}{A:bj}{E:ae->aw->Prop}{s:aw}{aH:Array kq}{st:gq}{P X Y:List (Int×Nat)}
structure Sd(aH:Array kq)(st:gq)(P:List (Int×Nat)):Prop extends SBase aH st where
 int:IntKeys aH
 tag:Tag aH (jL st) P
theorem Sd.lt(H:Sd aH st P)(hi:P[i]?=U p)(hj:P[j]?=U q)(h:Q (U (aJ (p.1<q.1))) st):wpS (ar prog w) A E s (ltAt' i j) Q st:=
 wpS_ltK H.toSBase H.int (d9 (g7.mp hi).1 H.tag.le) (d9 (g7.mp hj).1 H.tag.le) (by rw[H.tag.key hi,H.tag.key hj];exact h)
theorem Sd.cmp(H:Sd aH st P)(hi:P[i]?=U p)(hj:P[j]?=U q)(h1:p.1<q.1->wpS (ar prog w) A E s (f (U J)) Q st)
  (h2:¬p.1<q.1->wpS (ar prog w) A E s (f (U ah)) Q st):wpS (ar prog w) A E s (ltAt' i j>>= f) Q st:=
 gn (H.lt hi hj (if c:p.1<q.1 then(decide_eq_true c).symm▸h1 c else(decide_eq_false c).symm▸h2 c))
theorem pH[Decidable c](h1:c->wpS (ar prog w) A E s a Q st)(h2:¬c->wpS (ar prog w) A E s b Q st):wpS (ar prog w) A E s (if c then a else b) Q st:=
 if k:c then(if_pos k).symm▸h1 k else(if_neg k).symm▸h2 k
theorem Sd.snoc(H:Sd aH st P)(hk:P.length<aH.size):Sd aH st (P++[(K aH P.length,P.length)]):=⟨H.toSBase,H.int,H.tag.snoc hk⟩
theorem Sd.rev(H:Sd aH st (X++Y))(hi:i=X.length)(hj:j=X.length+Y.length)(h:∀bV,Sd aH bV (X++Y.reverse)->Q () bV):wpS (ar prog w) A E s (reverseSlice' i j) Q st:=by
 subst hi hj
 exact wpS_reverse (h _ ⟨H.toSBase.setArr (mirror_perm ..),H.int,H.tag.mirror⟩)
theorem AS(P:List (Int×Nat))(l:Int×Nat):(P++[l])[P.length]?=U l:=by rw[mQ (aQ _),qK];rfl
theorem K5(P:List (Int×Nat))(l:Int×Nat):(P++[l])[(P++[l]).length-1]?=U l:=by
 rw[show(P++[l]).length-1=P.length by rw[aX];rfl]
 exact AS P l
theorem Es{P:List (Int×Nat)}{i:Nat}{p:Int×Nat}(l:List (Int×Nat))(h:P[i]?=U p):(P++l)[i]?=U p:=by rw[qw (g7.mp h).1];exact h
inductive GQ(aH:Array kq)(st:gq):Nat->AscSt->gq->Prop
 |mk {P:List (Int×Nat)} {l:Int×Nat} (H:Sd aH st (P++[l])) (hs:iq (P++[l])):GQ aH st (P++[l]).length (aj,(P++[l]).length) st
inductive BQ(aH:Array kq):Nat->DescSt->gq->Prop
 |mk {X Y:List (Int×Nat)} {d:Int} {m:Nat} {st:gq} (hY:Y.length=m+1) (H:Sd aH st (X++Y)) (hD:Dn X Y d):BQ aH (X.length+Y.length) (aj,X.length+Y.length,m) st
theorem ND{a fI:Nat}{Q:AscSt->gq->Prop}{l:Int×Nat}(hn:fI<=aH.size)(ha:(P++[l]).length=a)(han:a<=fI)(H:Sd aH st (P++[l]))(hs:iq (P++[l]))
  (h:∀P l,(P++[l]).length<=fI->Sd aH st (P++[l])->iq (P++[l])->((P++[l]).length=fI\/K aH (P++[l]).length<l.1)->Q (aj,(P++[l]).length) st):wpS (ar prog w) A E s (ascLoop a fI) Q st:=by
 unfold ascLoop
 refine xJ (GQ aH st) (λx c bV hax zI hI=>?_) (λc bV hI=>?_) (ha▸.mk H hs)
 ·induction hI with
  |@mk P l H hs=>
   have hk:=d9 zI hn
   exact(H.snoc hk).cmp (AS _ _) (Es _ (K5 P l)) (λc=>iE (h P l (ee zI) H hs (.inr c))) λc=>
    iE ((aX (bs:=[_]))▸GQ.mk (H.snoc hk) (XK hs (λq hq=>(H.tag.low hq).1) (gA.mp c)))
 ·rw[z8 han] at hI
  induction hI with
  |mk H hs=>exact h _ _ (aQ _) H hs (.inl rfl)
theorem abf(hn:fI<=aH.size)(ha:(l::P).length=n)(r8:n<=fI)(H:Sd aH st (l::P))(hs:BV (l::P))
  (h:∀P bV,P≠[]->P.length<=fI->Sd aH bV P->iq P->Q (U P.length) bV):wpS (ar prog w) A E s (tail3 n fI) Q st:=by
 unfold tail3
 refine gn (Sd.rev (X:=[]) H rfl (ha.symm.trans (fx _).symm) λbV H'=>?_)
 rw[gk,uM] at H'
 refine gn (ND hn (by rw[<-ha,aX,ph];rfl) r8 H' (by rw[<-uM];exact Jh.mpr hs) λP l h1 h2 h3 j=>iE ?_)
 exact h _ _ (I3 _ (uO _ _)) h1 h2 h3
theorem Mn(hY:Y.length=m+1)(c:¬m>0):Y=Y.reverse:=by
 obtain⟨y,rfl⟩:=List.length_eq_one_iff.mp (hY.trans (by rw[Jf c]))
 rfl
theorem Dn.last{m k:Nat}{d v:Int}(hD:Dn X Y d)(hY:Y.length=m+1):∃b,b.1=d/\(X++Y++[(v,k)])[X.length+Y.length-1]?=U b:=by
 obtain⟨b,hb⟩:∃b,Y[m]?=U b:=⟨_,gi (hY▸nT m)⟩
 refine⟨b,hD.same _ (List.mem_of_getElem? hb),Es _ ?_⟩
 rw[hY,show X.length+(m+1)-1=X.length+m from rfl,mQ (fe _ _),xh]
 exact hb
theorem BQ.mk'(hx:X.length+Y.length=x)(hY:Y.length=m+1)(H:Sd aH st (X++Y))(hD:Dn X Y d):BQ aH x (aj,x,m) st:=hx▸.mk hY H hD
theorem EX(X Y:List (Int×Nat)):(X++Y.reverse).length=X.length+Y.length:=by rw[aX,ph]
theorem Z0(hn:fI<=aH.size)(hl:X.length+Y.length=n)(hY:Y.length=1)(r8:n<=fI)(H:Sd aH st (X++Y))(hD:Dn X Y c)
  (h:∀X Y c m bV,Y.length=m+1->X.length+Y.length<=fI->Sd aH bV (X++Y)->Dn X Y c->Q (aj,X.length+Y.length,m) bV):wpS (ar prog w) A E s (descLoop n fI) Q st:=by
 unfold descLoop
 refine xJ (BQ aH) (λx c bV hax zI hI=>?_) (λc bV hI=>?_) (.mk' hl hY H hD)
 ·cases hI with
  |@mk X Y d m _ hY H hD=>
   have hl:(X++Y).length=X.length+Y.length:=aX
   have hk:(X++Y).length<aH.size:=hl▸d9 zI hn
   have g1:(X++Y++[(K aH (X++Y).length,(X++Y).length)])[X.length+Y.length]?=U (K aH (X++Y).length,(X++Y).length):=hl▸AS _ _
   refine(hD.last hY).elim λb hb=>(H.snoc hk).cmp g1 hb.2 (λc1=>?_) λc1=>(H.snoc hk).cmp hb.2 g1 (λj=>iE (h X Y d m bV hY (ee zI) H hD)) λc2=>
    iE (.mk' ((congrArg (X.length+·) aX).trans (j9 ..).symm) (aX.trans (congrArg (·+1) hY)) (aN ..▸H.snoc hk) (hD.alike ((JH (gA.mp c2) (gA.mp c1)).trans hb.1) λq hq=>(H.tag.low (cy _ hq)).1))
   have D1:=hD.less (k:=(X++Y).length) (hb.1▸c1)
   have e2:=(EX X Y).trans hl.symm
   show wpS _ _ _ _ (if m>0 then _ else _) _ _
   refine pH (λc2=>?_) λc2=>iE (.mk' (congrArg (·+1) (EX X Y)) rfl (Mn hY c2▸H.snoc hk) D1)
   exact gn (H.rev (by rw[<-hY];exact Jx ..) rfl λrQ H2=>iE (.mk' (congrArg (·+1) (EX X Y)) rfl (e2▸H2.snoc (e2▸hk)) D1))
 ·rw[z8 r8] at hI
  induction hI with
  |mk hY H hD=>exact h _ _ _ _ _ hY (aQ _) H hD
theorem J3(hn:fI<=aH.size)(hl:X.length+Y.length=n+1)(hY:Y.length=1)(r8:n+1<=fI)(H:Sd aH st (X++Y))(hD:Dn X Y c)
  (h:∀P bV,P≠[]->P.length<=fI->Sd aH bV P->iq P->Q (U P.length) bV):wpS (ar prog w) A E s (descPart n fI) Q st:=by
 unfold descPart
 refine gn (wpS_lift (wpAny_rule ⟨rfl,?_⟩))
 refine gn (Z0 hn hl hY r8 H hD λX Y c m bV hY hl H hD=>?_)
 have el:(X++Y.reverse).length=X.length+Y.length:=by rw[aX,ph]
 have fin:∀bV,Sd aH bV (X++Y.reverse)->wpS (ar prog w) A E s (tail3 (X.length+Y.length) fI) Q bV:=λbV H'=>by
  have hD:=hD.turn
  generalize X++Y.reverse=Z at hD el H'
  induction Z with
  |nil=>exact absurd (el.trans (congrArg (X.length+·) hY)) (hJ (uX _))
  |cons z Z=>exact abf hn el hl H' hD h
 exact pH (λc=>gn (H.rev (by rw[<-hY];exact Jx ..) rfl fin)) λc=>fin bV (Mn hY c▸H)
end
end
section
section
variable {prog:Program}{w:aE}{A:bj}{E:ae->aw->Prop}{s:aw}{aH:Array kq}{st:gq}{P:List (Int×Nat)}{l:Int×Nat}{v:Int}{k:Nat}
theorem Fy(h:iq P){i j:Nat}{p q:Int×Nat}(hi:P[i]?=U p)(hj:P[j]?=U q)(hij:i<=j):p.1<=q.1:=by
 rcases Nat.lt_or_eq_of_le hij with c|rfl
 ·obtain⟨i',rfl⟩:=g7.mp hi
  obtain⟨j',rfl⟩:=g7.mp hj
  exact(List.pairwise_iff_getElem.mp h i j i' j' c).le
 ·rw[hi] at hj;cases hj;exact gz _
theorem L1(hD:BV D)(h:∀a∈D,v<a.1):Dn D [(v,k)] v:=⟨hD,h,λb hb=>by rw[cK.mp hb],su ..⟩
theorem Yy{fI:Nat}{Q:Option Nat->gq->Prop}(hn:fI<=aH.size)(h1:1<=fI)(H:Sd aH st [l])
  (h:∀P bV,P≠[]->P.length<=fI->Sd aH bV P->iq P->Q (U P.length) bV):wpS (ar prog w) A E s (countRun' 0 fI) Q st:=by
 rw[countRun0_eq]
 refine gn (ND (P:=[]) hn rfl h1 H (su ..) λP l h1 H hs hor=>?_)
 have ne:P++[l]≠[]:=I3 _ (uO _ _)
 refine pH (λj=>iE (h _ _ ne h1 H hs)) λc1=>?_
 have r8:=λe:(P++[l]).length=fI=>c1 (e▸beq_self_eq_true (P++[l]).length)
 have cX:=hor.resolve_left r8
 have hk:(P++[l]).length<fI:=Nat.lt_of_le_of_ne h1 r8
 have zd:=d9 hk hn
 refine pH (λc2=>?_) λc2=>?_
 ·obtain⟨f,hf⟩:∃f,(P++[l])[0]?=U f:=⟨_,gi (ct Nat.zero_lt_one c2)⟩
  refine H.cmp hf (K5 P l) (λj=>iE (h _ _ ne h1 H hs)) λc3=>?_
  refine gn (Sd.rev (X:=[]) H rfl (fx _).symm λbV H'=>?_)
  have el:(P++[l]).reverse.length=(P++[l]).length:=ph
  have e2:(P++[l]).reverse.length+1=(P++[l]).length+1:=congrArg (·+1) el
  refine J3 hn e2 rfl hk (H'.snoc (el.symm▸zd)) (L1 (Jh.mpr hs) λa ha=>?_) h
  obtain⟨i,hi⟩:=zU (Dt.mp ha)
  exact uK (el.symm▸cX) (gO (gA.mp c3) (Fy hs hf hi (eO _)))
 ·have e0:P=[]:=C6 (Jf λq=>c2 (by rw[aX];exact qI q))
  subst e0
  exact J3 hn rfl rfl hk (H.snoc zd) (L1 (su ..) λa ha=>by rw[cK.mp ha];exact cX) h
structure nC(P:List (Int×Nat))(v:Int)(l r:Nat):Prop where
 le:l<=r
 top:r<=P.length
 lo:∀i q,i<l->P[i]?=U q->q.1<=v
 hi:∀i q,r<=i->P[i]?=U q->v<q.1
inductive Ql(P:List (Int×Nat))(v:Int)(st:gq):Nat->Option Bool×Nat×Nat->gq->Prop
 |mk {x l r:Nat} (hm:x+(r-l)<=P.length) (hc:nC P v l r):Ql P v st x (aj,l,r) st
inductive PE(P:List (Int×Nat))(v:Int)(st:gq):Option Bool×Nat×Nat->gq->Prop
 |mk {l r:Nat} (hc:nC P v l l):PE P v st (aj,l,r) st
theorem nC.mid{l r x:Nat}(hc:nC P v l r)(hlr:¬l>=r)(hm:x+(r-l)<=P.length)(hs:iq P){q:Int×Nat}(hq:P[(l+r)/2]?=U q):
  (v<q.1->nC P v l ((l+r)/2)/\x+1+((l+r)/2-l)<=P.length)/\(¬v<q.1->nC P v ((l+r)/2+1) r/\x+1+(r-((l+r)/2+1))<=P.length):=by
 have cX:=Nat.lt_of_not_le hlr
 have m1:l<=(l+r)/2:=(Sw Nat.two_pos).mpr (J8 l▸gd hc.le l)
 have m2:(l+r)/2<r:=SE (Nat.two_mul r▸Jm cX r)
 generalize (l+r)/2=m at m1 m2 hq
 have go:∀{d},d<r-l->x+1+d<=P.length:=λhd=>bf (eA (R6 ..)) (bf (gd hd x) hm)
 exact⟨λc=>⟨⟨m1,bf (ee m2) hc.top,hc.lo,λi p h1 h2=>uK c (Fy hs hq h2 h1)⟩,go (Nat.sub_lt_sub_right m1 m2)⟩,
  λc=>⟨⟨m2,hc.top,λi p h1 h2=>gO (Fy hs h2 hq (pk h1)) (gA.mp c),hc.hi⟩,go (Nat.sub_lt_sub_left cX (Nat.lt_succ_of_le m1))⟩⟩
theorem nC.same{l r:Nat}(hc:nC P v l r)(h:l>=r):nC P v l l:=me h hc.le▸hc
theorem nC.ins{l:Nat}(hc:nC P v l l)(hs:iq P)(ht:∀q∈P,q.2<k):iq (P.take l++(v,k)::P.drop l):=by
 refine Z7 (by rw[jm];exact hs) (by rw[jm];exact ht) (λa ha=>?_) λb hb=>?_
 ·obtain⟨i,hi⟩:=zU ha
  have hl:i<l:=d9 (g7.mp hi).1 (Jq ..)
  rw[Jb hl] at hi
  exact hc.lo i a hl hi
 ·obtain⟨i,hi⟩:=zU hb
  rw[Ju] at hi
  exact hc.hi _ b (fe _ _) hi
theorem Sd.move{l:Nat}(H:Sd aH st P)(hk:P.length<aH.size):Sd aH (setArr st (bubble (jL st) P.length (P.length-l))) (P.take l++(K aH P.length,P.length)::P.drop l):=by
 have e:=jm l P
 have e1:(P.take l).length+(P.drop l).length=P.length:=by rw[<-aX,e]
 have e2:(P.take l++P.drop l).length=P.length:=congrArg _ e
 have T:=(e.symm▸H.tag:Tag aH (jL st) (P.take l++P.drop l)).bubble (by rw[e2];exact hk)
 rw[e2,e1,mU] at T
 exact⟨H.toSBase.setArr (bubble_perm ..),H.int,T⟩
theorem QM(h:P[i]?=U q):P[0+i]?=U q:=by rw[fx];exact h
theorem Sd.mv{l i j:Nat}{Q:Unit->gq->Prop}(H:Sd aH st P)(hk:P.length<aH.size)(hi:i=P.length)(hj:j=l)(h:∀bV,Sd aH bV (P.take l++(K aH P.length,P.length)::P.drop l)->Q () bV):wpS (ar prog w) A E s (moveDown' i j) Q st:=by
 subst hi hj
 rw[moveDown'_eq]
 exact wpS_modify (h _ (H.move hk))
inductive GD(aH:Array kq):Nat->Option Bool×Unit->gq->Prop
 |mk {st:gq} {P:List (Int×Nat)} (H:Sd aH st P) (hs:iq P):GD aH P.length (aj,()) st
theorem UT{l:Nat}{x:Int×Nat}(P:List (Int×Nat)):(P.take l++x::P.drop l).length=P.length+1:=by
 rw[aX,fP,<-j9,<-aX,jm]
theorem Wa(hn:n<=aH.size)(h1:P≠[])(oY:P.length<=n)(H:Sd aH st P)(hs:iq P)
  (h:∀P bV,P.length=n->Sd aH bV P->iq P->Q J bV):wpS (ar prog w) A E s (binarySort' 0 n P.length) Q st:=by
 have em:max P.length 1=P.length:=Nat.max_eq_left (SI.mpr h1)
 rw[binarySort'_eq,em]
 refine gn (wpS_mono (xJ (GD aH) (λk c bV hak hkn hI=>?_) (λc bV hI=>z8 oY▸hI) (.mk H hs)) λc bV hI=>?_)
 rotate_left
 ·generalize en:n=m at hI
  induction hI with
  |mk H hs=>exact iE (h _ _ en.symm H hs)
 clear H hs
 cases hI with
 |@mk _ P H hs=>
  have hk:=d9 hkn hn
  refine gn (wpS_mono (xJ (Ql P (K aH P.length) bV) (Q:=PE P (K aH P.length) bV) (λx c rQ j hx hI=>?_) (λc rQ hI=>?_) (.mk (fx _▸qP ..) ⟨eO _,aQ _,λj j q=>absurd q (Nat.not_lt_zero _),λi q h1 h2=>absurd (g7.mp h2).1 (iD.mpr h1)⟩)) λc rQ hE=>?_)
  ·induction hI with
   |@mk l r hm hc=>
    refine pH (λc=>iE (.mk (hc.same c))) λc=>?_
    have m2:(l+r)/2<P.length:=d9 (SE (Nat.two_mul r▸Jm (Nat.lt_of_not_le c) r)) hc.top
    obtain⟨q,hq⟩:∃q,P[(l+r)/2]?=U q:=⟨_,gi m2⟩
    have M:=hc.mid c hm hs hq
    exact(H.snoc hk).cmp (QM (AS _ _)) (QM (Es _ hq)) (λd=>iE (.mk (M.1 d).2 (M.1 d).1)) λd=>iE (.mk (M.2 d).2 (M.2 d).1)
  ·generalize ex:max 0 P.length=x at hI
   induction hI with
   |@mk l r hm hc=>exact .mk (hc.same (Nat.le_of_sub_eq_zero (Sk (Nat.le_of_add_le_add_left ((ex.symm.trans (z8 (eO _)))▸hm)))))
  ·induction hE with
   |@mk l r hc=>
    exact gn (H.mv hk (fx _) (fx l) λbV H'=>iE (UT P▸GD.mk H' (hc.ins hs λq hq=>(H.tag.low hq).1)))
end
end
section
section
variable {prog:Program}{w:aE}{A:bj}{E:ae->aw->Prop}{s:aw}{aH:Array kq}{st:gq}
structure Done(aH:Array kq)(st:gq):Prop where
 failed:failedOf st=aj
 pend:pendingOf st=#[(0,aH.size,0)]
 out:(jL st).toList=(jb (iO aH)).map (mO aH)
theorem Sd.done(H:Sd aH st P)(h:P.length=aH.size)(hs:iq P):Done aH (setPending st ((pendingOf st).push (0,aH.size,0))):=
 ⟨H.failed,by show(pendingOf st).push _=_;rw[H.pend];rfl,H.tag.all h hs⟩
inductive BW(aH:Array kq)(st:gq):Nat->Option PUnit×Nat->gq->Prop
 |zero:BW aH st 0 (aj,0) st
 |more {x:Nat} {bV:gq} (D:Done aH bV):BW aH st (x+1) (aj,aH.size) bV
theorem Sd.fin(H:Sd aH st P)(h:P.length=aH.size)(hs:iq P)(hn:n=aH.size):BW aH l8 1 (aj,0+n) (setPending st ((pendingOf st).push (0,n,0))):=by
 subst hn
 rw[fx]
 exact .more (H.done h hs)
theorem Tp(h:n<64):minRun' n n 0=n:=by
 induction n with
 |zero=>rfl
 |succ f=>rw[minRun'_succ,if_pos h]
theorem Zs(h0:IntKeys aH)(hB:SBase aH st)(ha:jL st=aH)(h2:2<=aH.size)(dy:aH.size<64)
  (h:∀bV,Done aH bV->Q () bV):wpS (ar prog w) A E s sortRuns' Q st:=by
 have v5:1<=aH.size:=z6 h2
 have Rt:minRun' (jL st).size (jL st).size 0=aH.size:=by rw[hB.size,Tp dy]
 rw[sortRuns'_eq]
 refine gn (wpS_get (gn (wpS_mono (xJ (BW aH st) (Q:=λc bV=>c=(aj,aH.size)/\Done aH bV) (λx c bV j hx hI=>?_) (λc bV hI=>?_) .zero) λc bV hE=>?_)))
 ·induction hI with
  |zero=>
   have hP:Sd aH st [(K aH 0,0)]:=⟨hB,h0,ha.symm▸M3 v5⟩
   refine pH (λc=>absurd (hB.size▸c) (Nat.not_le.mpr v5)) λj=>gn (Yy (eA hB.size) (hB.size▸v5) hP λP rQ ne hm H hs=>?_)
   refine pH (λj=>gn (wpS_lift (wpAny_rule ⟨rfl,?_⟩))) λc=>?_
   ·rw[show(min ((jL st).size-0) (minRun' (jL st).size (jL st).size 0))=aH.size by rw[Rt,hB.size];exact Nat.min_self _]
    refine gn (Wa (aQ _) ne (hB.size▸hm) H hs λP st3 hl H hs=>?_)
    refine gn (wpS_get ?_)
    rw[H.pend]
    exact gn (wpS_modify (iE (H.fin hl hs rfl)))
   ·refine gn (wpS_get ?_)
    rw[H.pend]
    have hl:P.length=aH.size:=me (hB.size▸hm) (Rt▸iD.mp c)
    exact gn (wpS_modify (iE (H.fin hl hs hl)))
  |more D=>exact pH (λj=>iE ⟨rfl,D⟩) λc=>absurd (eA hB.size) c
 ·generalize hz:max 0 (jL st).size=z at hI
  induction hI with
  |zero=>exact absurd (hB.size▸(z8 (eO _)).symm.trans hz) (mh v5)
  |more D=>exact⟨rfl,D⟩
 ·obtain⟨rfl,D⟩:=hE
  refine gn (wpS_mono (xJ (λj c rQ=>rQ=bV/\c=(aj,())) (λx c rQ j j hI=>?_) (λj j q=>q) ⟨rfl,rfl⟩) λc rQ hI=>?_)
  ·obtain⟨rfl,rfl⟩:=hI
   exact gn (wpS_get (pH (λj=>iE ⟨rfl,rfl⟩) λc=>absurd (by rw[D.pend];exact aQ 1) c))
  ·obtain⟨rfl,rfl⟩:=hI
   exact iE (h _ D)
end
end
section
noncomputable def lQ(kz:List Int):List (Int×Nat):=(cb kz.length).map λj=>(kz.getD j 0,j)
section
variable {w:aE}{A:bj}{σ s s':aw}{a kS:ag}{e e1:Nat}{keys:Array ae}{kz:List Int}{vs:List ae}{P:AF->aw->Prop}
theorem Ep{h:az}{b:ag}{xs:Array ae}(ho:h.get? b=U (i7 "list" xs n))(f:Array ae->Array ae):∃c,(h.update b (mi f)).get? b=U (i7 "list" (f xs) c):=⟨_,get?_update_seq ho f⟩
theorem yD{h:az}{b c:ag}(f:aP->aP)(eD:c≠b):(h.update b f).get? c=h.get? c:=(nQ h b f).2 c eD
theorem vY(h:n<=64):n<=sizeLine:=bf h (by rw[sizeLine_eq];decide)
theorem Mf{st:gq}(hk:s.heap.get? kS=U (i7 "list" keys e))(ha:s.heap.get? a=U (i7 "list" #[] e1))(p6:kS≠a)(qo:keys.size<=64)(mL:(jL st).size<=64)(hfl:failedOf st=aj)
  (h:∀h' c,(∀b,b≠kS->b≠a->h'.get? b=s.heap.get? b)->h'.get? a=U (bg ((jL st).map (·.2)) c)->P (.done (.ret .none)) {s with heap:=h'}):
  ax (ar ao w) A (ksk_tail a ah e1 (.ref kS) st) P aC s:=by
 have H7:(s.heap.update kS (mi λj=>(#[]:Array ae))).get? a=U (i7 "list" #[] e1):=(yD _ (mu p6)).trans ha
 obtain⟨c2,w0⟩:=Ep H7 λj=>(jL st).map (·.2)
 have e2:((jL st).map (·.2)).size<=64:=bf (eA Array.size_map) mL
 unfold ksk_tail
 refine au (listUpdate_at hk rfl ?_ (vY qo) (eO _))
 refine au (wpAny_letGo ?_)
 refine au (seqEpoch_at H7 rfl ?_)
 rw[bne_self_eq_false]
 refine au (listUpdate_at H7 rfl ?_ (eO _) (sC (vY e2)))
 rw[hfl]
 exact aI (h _ c2 (λb h1 h2=>(yD _ h2).trans (yD _ h1)) w0)
theorem ints_size(hk:dO keys.toList kz):keys.size=kz.length:=hk.length▸(fO).symm
theorem LX(hk:dO keys.toList kz)(hlen:kz.length=vs.length):(keys.zip vs.toArray).size=vs.length:=by rw[Array.size_zip,ints_size hk,uL,hlen,Nat.min_self]
theorem N5(hk:dO keys.toList kz)(hlen:kz.length=vs.length)(hj:j<vs.length):∃u,(keys.zip vs.toArray)[j]?=U (u,vs.getD j .none)/\numOf u=kz.getD j 0:=by
 have RI:j<keys.size:=by rw[ints_size hk,hlen];exact hj
 refine⟨keys[j],?_,?_⟩
 ·rw[Array.getElem?_zip_eq_some]
  exact⟨xg RI,by rw[Ss,j6,gi hj];rfl⟩
 ·rw[<-hk.nums,j6,gj,dG,xg RI]
  rfl
theorem aat(hk:dO keys.toList kz)(hlen:kz.length=vs.length):iO (keys.zip vs.toArray)=lQ kz:=by
 unfold iO lQ
 rw[LX hk hlen,hlen]
 refine zW λj hj=>?_
 obtain⟨u,e1,e2⟩:=N5 hk hlen (lr.mp hj)
 unfold K
 rw[e1,<-e2]
theorem NV{xs:Array kq}(hk:dO keys.toList kz)(hlen:kz.length=vs.length)(h:xs.toList=(jb (iO (keys.zip vs.toArray))).map (mO (keys.zip vs.toArray))):(xs.map (·.2)).toList=(jb (lQ kz)).map (λq=>vs.getD q.2 .none):=by
 rw[Array.toList_map,h,nW,aat hk hlen]
 refine zW λq hq=>?_
 obtain⟨j,hj,rfl⟩:=i4.mp ((sN _).mem_iff.mp hq)
 obtain⟨u,e1,e2⟩:=N5 hk hlen (hlen▸lr.mp hj)
 show(mO _ _).2=_
 unfold mO
 rw[Array.getD_eq_getD_getElem?,e1]
 rfl
theorem Done.size{aH:Array kq}{st:gq}(D:Done aH st):(jL st).size=aH.size:=by
 rw[<-fO,D.out,aO,(sN _).length_eq,xK]
theorem Ti(h:aH.size<2):aH.toList=(jb (iO aH)).map (mO aH):=by
 by_cases h0:1<=aH.size
 ·exact(M3 h0).all (me h0 (pk h)) (su ..)
 ·have e:aH=#[]:=Array.size_eq_zero_iff.mp (Jf h0)
  subst e
  rfl
theorem aap(hk:s.heap.get? kS=U (i7 "list" keys e))(ha:s.heap.get? a=U (i7 "list" #[] e1))(p6:kS≠a)(hI:dO keys.toList kz)(hlen:kz.length=vs.length)(dy:vs.length<64)
  (h:∀h' tk c (out:Array ae),(∀b,b≠kS->b≠a->h'.get? b=s.heap.get? b)->h'.get? a=U (bg out c)->out.toList=(jb (lQ kz)).map (λq=>vs.getD q.2 .none)->P (.done (.ret .none)) {s with heap:=h',toks:=tk}):
  ax (ar ao w) A (ksk_end a ah vs.toArray e1 (.ref kS) keys) P aC s:=by
 have zA:=LX hI hlen
 have Cy:keys.size<=64:=ints_size hI▸hlen▸ee dy
 unfold ksk_end
 by_cases h2:vs.toArray.size<2
 ·simp only[Jw,if_false]
  rw[if_pos h2,if_pos h2]
  refine au (aI ?_)
  rw[StateT.run_pure]
  refine au (aI ?_)
  exact Mf hk ha p6 Cy (zA▸ee dy:(keys.zip vs.toArray).size<=64) rfl λh' c k1 k2=>h h' s.toks c _ k1 k2 (NV hI hlen (Ti (zA▸uL▸h2)))
 ·simp only[Jw,if_false]
  rw[if_neg h2,if_neg h2]
  have h2:2<=vs.length:=iD.mp (uL▸h2)
  rw[ksk_kind hI (ints_size hI▸hlen▸h2)]
  refine au (aI ?_)
  refine au (aW (Zs
   (Q:=λj bV=>Done (keys.zip vs.toArray) bV) (ksk_intKeys hI) ⟨.refl _,rfl,rfl,rfl⟩ rfl (zA▸h2) (zA▸dy) λbV D=>D) ?_)
  rintro ⟨u,bV⟩ s2 ⟨rfl,D⟩
  exact Mf hk ha p6 Cy (D.size▸zA▸ee dy) D.failed λh' c k1 k2=>h h' _ c _ k1 k2 (NV hI hlen D.out)
end
end
section
section
variable {w:aE}{A:bj}{σ s s':aw}{a kS:ag}{e e1:Nat}{keys:Array ae}{kz:List Int}{vs:List ae}{f:ae}
theorem Lh(G:cU σ s)(hb:σ.heap.get? b=aj)(g:aP->aP):cU σ {s with heap:=s.heap.update b g}:=
 ⟨λc o q=>(yD g (λh=>by rw[h,hb] at q;cases q)).trans (G.heap c o q),G.gens,G.os⟩
inductive tS(σ:aw)(a kS:ag)(e1:Nat)(kz:List Int):Nat->aw->Prop
 |mk {i e:Nat} {s1:aw} {kA:Array ae} (G:cU σ s1) (a1:s1.heap.get? a=U (i7 "list" #[] e1)) (k1:s1.heap.get? kS=U (i7 "list" kA e)) (hI:dO kA.toList (kz.take i)):tS σ a kS e1 kz i s1
theorem tS.to(h:tS σ a kS e1 kz i s)(e:i=j):tS σ a kS e1 kz j s:=e▸h
theorem Ya(G:cU σ s)(hk:s.heap.get? kS=U (i7 "list" #[] 0))(ha:s.heap.get? a=U (i7 "list" #[] e1))(p6:kS≠a)(fk:σ.heap.get? kS=aj)(fa:σ.heap.get? a=aj)(hlen:kz.length=vs.length)(dy:vs.length<64)
  (turn:∀(i:Nat) (v:ae) (k:Int),vs[i]?=U v->kz[i]?=U k->∀s1,cU σ s1->ax (ar ao w) A (call f [v]) (λr s2=>(∃t,r=.int k t)/\cU s1 s2) aC s1)
  (h:∀s1 c (out:Array ae),cU σ s1->s1.heap.get? a=U (bg out c)->out.toList=(jb (lQ kz)).map (λq=>vs.getD q.2 .none)->P (.done (.ret .none)) s1):
  ax (ar ao w) A (ksk_rest a f ah vs.toArray e1 (.ref kS)) P aC s:=by
 unfold ksk_rest
 refine au (wpAny_rule ?_)
 rw[List.forIn_toArray]
 refine au (ksk_fold (tS σ a kS e1 kz) vs 0 s (.mk G ha hk dO.nil) (λj x s1 hx hI=>?_) λs1 hI=>?_)
 ·cases hI.to (fx j) with
  |@mk e _ kA G1 a1 k1 hI=>
   have hj:j<vs.length:=(g7.mp hx).1
   obtain⟨k,Qt⟩:∃k,kz[j]?=U k:=⟨_,gi (hlen.symm▸hj)⟩
   have hz:kA.size+1<=64:=bf (gM (ints_size hI▸Jq ..)) (bf hj (ee dy))
   refine au (wpAny_attempt (jn (turn j x k hx Qt s1 G1) (λv s2 he=>?_) λy y hF=>hF.elim))
   obtain⟨⟨t2,rfl⟩,G2⟩:=he
   obtain⟨c2,w0⟩:=Ep (G2.heap _ _ k1) (·.push (.int k t2))
   refine au (listUpdate_at (G2.heap _ _ k1) rfl ?_ (vY (z6 hz)) (bf (eA (xC ..)) (sC (vY hz))))
   refine aI ⟨rfl,(tS.mk (Lh (G1.trans G2) fk _) ((yD _ (mu p6)).trans (G2.heap _ _ a1)) w0 ?_:tS σ a kS e1 kz (j+1) _).to (congrArg (·+1) (fx j).symm)⟩
   rw[xr,Dp,Qt]
   exact ksk_snoc hI
 ·cases hI.to (fx vs.length) with
  |@mk e _ kA G1 a1 k1 hI=>
   rw[<-hlen,List.take_length] at hI
   refine au (listItems_at k1 rfl ?_)
   refine aap k1 a1 p6 hI hlen dy λh' tk c out q1 q2 q3=>h _ c out ⟨λb o q=>?_,G1.gens,G1.os⟩ q2 q3
   exact(q1 b (λz=>by rw[z,fk] at q;cases q) (λz=>by rw[z,fa] at q;cases q)).trans (G1.heap b o q)
theorem J4{h:az}(hh:∀b o,σ.heap.get? b=U o->h.get? b=U o)(hn:h.objs.size<=n):σ.heap.get? n=none:=by
 cases q:σ.heap.get? n with
 |none=>rfl
 |some o=>exact absurd (gy (hh _ _ q)) (iD.mpr hn)
theorem X9(G:cU σ s)(ha:s.heap.get? a=U (i7 "list" vs.toArray 0))(fa:σ.heap.get? a=aj)(hlen:kz.length=vs.length)(dy:vs.length<64)
  (turn:∀(i:Nat) (v:ae) (k:Int),vs[i]?=U v->kz[i]?=U k->∀s1,cU σ s1->ax (ar ao w) A (call f [v]) (λr s2=>(∃t,r=.int k t)/\cU s1 s2) aC s1)
  (h:∀s1 c (out:Array ae),cU σ s1->s1.heap.get? a=U (bg out c)->out.toList=(jb (lQ kz)).map (λq=>vs.getD q.2 .none)->P (.done (.ret .none)) s1):
  ax (ar ao w) A (ksk_tree a f ah) P aC s:=by
 unfold ksk_tree
 refine au (listItems_at ha rfl ?_)
 obtain⟨c1,IE⟩:=Ep ha λj=>(#[]:Array ae)
 refine au (listUpdate_at ha rfl ?_ (vY (uL▸ee dy)) (eO _))
 refine au (seqEpoch_at IE rfl ?_)
 refine au (lh ?_ (by first|size_fits|(show _<=_;simp;omega)))
 refine au (wpAny_newList ?_)
 have G1:=Lh G fa (mi λj=>(#[]:Array ae))
 refine gN (Ya ⟨λb o q=>?_,G.gens,G.os⟩ (eM _ rfl) ?_ ?_ ?_ fa hlen dy turn h)
 ·have q1:=G1.heap b o q
  exact dX _ (dX _ q1)
 ·exact dX _ (dX _ IE)
 ·rw[Ae]
  exact mh (xu (gy IE))
 ·refine J4 G1.heap ?_
  rw[Ae]
  exact dm _
theorem U5(hT:T="list"\/T="tuple")(hl:σ.heap.get? l=U ⟨.type T,aj,.seq vs.toArray m,#[]⟩)(hlen:kz.length=vs.length)(dy:vs.length<64)
  (turn:∀(i:Nat) (v:ae) (k:Int),vs[i]?=U v->kz[i]?=U k->∀s1,cU σ s1->ax (ar ao w) A.in1.in1 (call (.ref q) [v]) (λr s2=>(∃t,r=.int k t)/\cU s1 s2) aC s1)
  (h:∀s1 D c (out:Array ae),cU σ s1->σ.heap.get? D=aj->s1.heap.get? D=U (bg out c)->out.toList=(jb (lQ kz)).map (λq=>vs.getD q.2 .none)->Q (.ref D) s1):
  ax (ar ao w) A (call (.builtin "sorted") [.ref l] [(uW "key",.ref q)]) Q aC σ:=by
 refine call_function_entry_kw kind_sorted plain_sorted entry_sorted (ksk_s1 _ _) ?_
 unfold dD.«sorted»
 refine au (aI ?_)
 refine au (wpAny_collect_seq l hT hl rfl rfl λh' hk=>?_)
 refine au (wpAny_newList ?_ (by rw[Jp];exact vY (ee dy)))
 have wQ:(h'.push (i7 "list" vs.toArray.toList.toArray 0)).get? h'.objs.size=U (i7 "list" vs.toArray 0):=by
  rw[Jp];exact eM _ rfl
 have fr:=J4 hk (aQ _)
 show ax _ _ _ _ _ {σ with heap:=h'.push (i7 "list" vs.toArray.toList.toArray 0)}
 refine au (gN (wpAny_call_entry_kw slot_list_sort ⟨_,wQ,rfl⟩ entry_list_sort ?_ (ksk_l1 _ _)))
 show ax (ar ao w) A.in1.in1 (dD.«list.sort» ⟨[.ref h'.objs.size],[(uW "key",.ref q)]⟩) _ _ _
 rw[ksk_t1]
 refine X9 ⟨λb o q=>dX _ (hk b o q),rfl,rfl⟩ wQ fr hlen dy turn λs1 c out k1 k2 k3=>⟨_,rfl,?_⟩
 exact aI ⟨_,rfl,h s1 _ c out k1 fr k2 k3⟩
noncomputable abbrev th:Str:=n! "pair"
noncomputable abbrev s9(ap:aY):Arguments:=⟨[],[⟨th,aj,ap⟩],aj,[],[],aj,[]⟩
noncomputable abbrev s7(np cp sp:aY)(ck:Nat):Expr:=.Subscript (.Name th np) (.Constant (.int 0) ck cp) sp
structure yM(sc:gE):Prop where
 kind:sc.kind=.function
 names:sc.names=[(th,.local)]
 gen:sc.isGenerator=ah
 co:sc.isCoroutine=ah
theorem VQ:bindArgs (kla_fn "<lambda>" qual (s9 ap) (s7 np cp sp ck) sc [] pm cd qv) ⟨[v],[]⟩=pure [(th,v)]:=by rfl
theorem Yz{ap np cp sp:aY}{sc:gE}{pm qv cd:ae}{qual:af}{q p:ag}{o:aP}{R:jq->aw->Prop}{xs:Array ae}{t:gY}(Gu:A.depth<recursionLimit)(hs:yM sc)
  (ho:σ.heap.get? q=U o) (hd:o.data=.func (kla_fn "<lambda>" qual (s9 ap) (s7 np cp sp ck) sc [] pm cd qv))
  (HB:σ.heap.CodeRec cd qual) (agd:σ.heap.NoLimit) (hp:σ.heap.get? p=U (i6 xs m)) (h0:xs[0]?=U (.int k t))
  (h:∀s1,cU σ s1->R (.ok (.ret (.int k t))) s1):ic (ar ao w) A (.call (.ref q) ⟨[.ref p],[]⟩) R σ:=by
 refine kla_callFunE Gu ho hd hs.co hs.gen rfl HB ?_
 rw[VQ]
 have QH:sc.names.lookup th=U .local:=by rw[hs.names];rfl
 refine aI (wpAny_newFunctionEnv (λy hy=>by rw[hs.names] at hy;rw[cK.mp hy];exact λz=>by cases z) (λy hy=>by rw[cK.mp hy];exact QH) (λBZ p5 uw=>⟨agd.fresh _ uw,?_⟩) hs.kind)
 have Ga:∀b o,σ.heap.get? b=U o->BZ.get? b=U o:=λb o q=>uw.extBut b o (hJ (gy q)) (dX _ q)
 refine kla_codeExpr ?_
 generalize hE:newEnv _ _ _ _ _ _ _ _ _=env
 have e1:env.scope=sc:=by rw[<-hE];rfl
 have e2:env.locals=σ.heap.objs.size:=by rw[<-hE];rfl
 have jy:env.kindOf th=U .local:=by unfold D2;rw[e1];exact QH
 refine Subscript_ (wpAny_Name (wpAny_loadName_local (by rw[e1];exact hs.kind) jy (e2▸p5) rfl ?_) (by decide))
 refine wpAny_Constant_int ?_
 refine jn (A4 ⟨_,Ga _ _ hp,rfl⟩ zX.lookup ?_) (λx x y=>y) λx x y=>y.elim
 have h0':0<xs.size:=(sj.mp h0).1
 refine getItem_tuple (pq (Ga _ _ hp)) (by decide) (by decide) ?_ h0 (h _ ⟨Ga,rfl,rfl⟩)
 unfold seqIndex?
 simp [h0']
end
end
section
section
variable {w:aE}{K:aS}{mg mb:af->Option ae}{F:Fm}{s s':S}{g:Gh}{x:List ag}{σ σ':aw}{A:bj}{cx:Cx}{n:Nat}{G:bR}{B:Fm}{z ρ:Z}{ps:Array ae}
noncomputable abbrev afq(ap np cp sp:aY)(ck:Nat)(sc:gE)(pm cd qv:ae):FuncData:=kla_fn "<lambda>" rd (s9 ap) (s7 np cp sp ck) sc [] pm cd qv
theorem FJ{h:az}{a b:ag}{o o':aP}(ha:h.get? a=U o)(hb:h.get? b=U o')(eD:o.data≠o'.data):a≠b:=λq=>by
 subst q
 exact eD (congrArg aP.data (aA (ha.symm.trans hb)))
theorem dN.hb(H:dN w B m z ρ cs om σ):∀a o,B.hb.get? a=U o->σ.heap.get? a=U o:=λa o e=>H.zi _ _ (H.zb _ _ (H.base _ _ e))
theorem ac4(Ba:Base w K B.hb mg mb)(H:dN w B [] z ρ [] [] σ)(e:ρ B.tab=U (mw ps)):σ.heap.BuiltinsAt mg B.tab/\jE≠B.tab:=by
 obtain⟨o,es,ep,e1,e2,_⟩:=Ba.g
 obtain⟨bm,ob,b1,b2,b3,b4,b5,b6⟩:=Ba.bm
 have zf:=H.ri _ _ e
 have np:ob.data≠(mw ps).data:=λq=>by rw[b6] at q;cases q
 exact⟨⟨bm,ob,b1,b2,FJ b3 e1 (λq=>by rw[b6,e2] at q;cases q),FJ (H.hb _ _ b3) zf np,H.hb _ _ b3,b4,b5,b6⟩,FJ (H.hb _ _ e1) zf λq=>by rw[e2] at q;cases q⟩
theorem dN.tab(H:dN w B [] z ρ [] [] σ){o0 o1 oc q:aP}{c':ag}{h':az}{tk:Nat}(e:ρ B.tab=U o0)(hx:uZ B.tab σ.heap h')(zx:σ.heap.objs.size<=c')(HE:h'.get? B.tab=U o1)(hoc:h'.get? c'=U oc)
  (ht:oB (z.put c' oc) (ρ.put B.tab o1) B.tab B.lp B.lq):Z.le z (z.put c' oc)/\dN w B [] (z.put c' oc) (ρ.put B.tab o1) [] [] {σ with heap:=h'.push q,toks:=tk}:=by
 have up:∀{b:ag} {o:aP},h'.get? b=U o->(h'.push q).get? b=U o:=λe=>dX _ e
 have old:∀b o,σ.heap.get? b=U o->b≠B.tab->(h'.push q).get? b=U o:=λb o e eD=>up (hx b o eD e)
 have ne:∀{b:ag} {o:aP},σ.heap.get? b=U o->b≠c':=λq y=>absurd (gy q) (iD.mpr (y▸zx))
 have Rk:∀{y:Z},(∀a o,y a=U o->σ.heap.get? a=U o)->y c'=none:=λ{y} hy=>by
  cases q:y c' with
  |none=>rfl
  |some o=>exact absurd rfl (ne (hy _ _ q))
 have hr:=H.rz _ _ e
 have off:∀{y:Z} {a:ag} {o:aP},y B.tab=aj->y a=U o->a≠B.tab:=λh k q=>by rw[q,h] at k;cases k
 have hle:=Z.lH oc (Rk H.zi)
 refine⟨hle,{zi:=λa o k=>?_,ki:=λa o k=>old a o (H.ki a o k) (off hr.2 k),ri:=λa o k=>?_,rz:=λa o k=>?_,zk:=λa o k=>?_,zb:=Z.le_trans H.zb hle,base:=H.base,gens:=H.gens,os:=H.os,tb:=ht,mem:=.nil,nd:=H.nd}⟩
 ·by_cases ha:a=c'
  ·rw[ha,Z.dp] at k;rw[ha,<-aA k];exact up hoc
  ·rw[Z.df _ _ ha] at k;exact old a o (H.zi a o k) (off hr.1 k)
 ·by_cases ha:a=B.tab
  ·rw[ha,Z.dp] at k;rw[ha,<-aA k];exact up HE
  ·rw[Z.df _ _ ha] at k;exact old a o (H.ri a o k) ha
 ·by_cases ha:a=B.tab
  ·rw[ha,Z.df _ _ (ne (H.ri _ _ e))];exact hr
  ·rw[Z.df _ _ ha] at k
   rw[Z.df _ _ (ne (H.ri _ _ k))];exact H.rz _ _ k
 ·by_cases ha:a=c'
  ·exact .inl (ha▸Rk H.ki)
  ·rw[Z.df _ _ ha] at k;exact H.zk a o k
theorem dN.up(H:dN w B [] z ρ [] [] σ){h':az}{tk:Nat}(hk:∀b o,σ.heap.get? b=U o->h'.get? b=U o):dN w B [] z ρ [] [] {σ with heap:=h',toks:=tk}:=
 {zi:=λa o q=>hk _ _ (H.zi a o q),ki:=λa o q=>hk _ _ (H.ki a o q),ri:=λa o q=>hk _ _ (H.ri a o q),rz:=H.rz,zk:=H.zk,zb:=H.zb,base:=H.base,gens:=H.gens,os:=H.os,tb:=H.tb,mem:=H.mem,nd:=H.nd}
inductive BP(h:az)(ap np cp sp:aY)(ck:Nat)(sc:gE):ae->Prop
 |mk {q:ag} {o:aP} {pm qv cd:ae} (ho:h.get? q=U o) (hd:o.data=.func (afq ap np cp sp ck sc pm cd qv)) (hc:h.CodeRec cd rd):BP h ap np cp sp ck sc (.ref q)
theorem Kn{h:az}{c:ag}{oc:aP}{vs:Array ae}{t:gY}{q:af}(h1:h.get? c=U oc)(h2:oc.data=.fields vs)(h3:vs[1]?=U (.str q t)):h.CodeRec (.ref c) q:=⟨c,oc,vs,t,rfl,h1,h2,h3⟩
theorem TB{h:az}{c:ag}{q:af}{Q:Prop}(r:h.CodeRec (.ref c) q)(k:∀(oc:aP) (vs:Array ae) (t:gY),h.get? c=U oc->oc.data=.fields vs->vs[1]?=U (.str q t)->Q):Q:=by
 obtain⟨c2,oc,vs,t,e,h1,h2,h3⟩:=r
 exact k oc vs t (uQ e▸h1) h2 h3
theorem S9{h h':az}{v:ae}{q:af}(r:h.CodeRec v q)(k:∀a o,h.get? a=U o->h'.get? a=U o):h'.CodeRec v q:=by
 obtain⟨c2,oc,vs,t,e,h1,h2,h3⟩:=r
 exact⟨c2,oc,vs,t,e,k _ _ h1,h2,h3⟩
theorem XO(h:oB z ρ P lp lq)(k:∀ps,ρ P=U (mw ps)->P=dY->lp=pM->lq=rd->TriplesOk ps.toList->
  (codeAmong lp ps.toList=aj->Q)/\(∀c o vs t,codeAmong lp ps.toList=U (.ref c)->z c=U o->o.data=.fields vs->vs[1]?=U (.str lq t)->Q)):Q:=by
 obtain⟨ps,e,⟨h1,h2,h3⟩,ht,h⟩:=h
 have k:=k ps e h1 h2 h3 ht
 rcases h with h|⟨c,o,vs,t,a,b,d,f⟩
 ·exact k.1 h
 ·exact k.2 c o vs t a b d f
theorem WD(h1:P=dY)(h2:lp=pM)(h3:lq=rd)(ht:TriplesOk ps.toList)(hn:codeAmong lp ps.toList=aj)(e2:oc.data=.fields vs)(e3:vs[1]?=U (.str lq t)):
  oB (z.put c oc) (ρ.put P (mw (ps++#[gQ pM.line,gQ pM.col,.ref c]))) P lp lq:=by
 subst h2
 exact⟨_,Z.dp _ _ _,⟨h1,rfl,h3⟩,by rw[Dg];exact TriplesOk_snoc _ _ _ _ ht,.inr ⟨c,oc,vs,t,by rw[Dg];exact codeAmong_snoc _ ht hn,Z.dp _ _ _,e2,e3⟩⟩
theorem YL{env:dh}{ap np cp sp:aY}{ck:Nat}{sc:gE}{Q:ae->aw->Prop}(Ba:Base w K B.hb mg mb)(H:dN w B [] z ρ [] [] σ)(hg:env.globals=jE)(hc:env.code=.ref pJ)(hq:env.qual=yO++".<locals>.")(hsn:sc.names=[(th,.local)])
  (hQ:∀u z' ρ' σ',Z.le z z'->dN w B [] z' ρ' [] [] σ'->BP σ'.heap ap np cp sp ck sc u->Q u σ'):ax (ar ao w) A (eval (.Lambda (s9 ap) (s7 np cp sp ck) sc pM) env) Q aC σ:=by
 have CL:closureFor sc env=pure []:=by unfold closureFor;rw[hsn];rfl
 have hqq:env.qual++"<lambda>"=rd:=by rw[hq];rfl
 refine kla_eval rfl ?_
 rw[hqq]
 refine XO H.tb λps e h1 h2 h3 ht=>?_
 have zf:=H.ri _ _ e
 have X:=ac4 Ba H e
 have C:CodeHd σ.heap pJ B.tab:=h1▸Ba.lam.keeps H.hb
 have Ry:σ.heap.Ns jE mg:=Ba.g.keeps H.hb
 refine⟨λQu=>?_,λc o vs t hf r1 r2 r3=>?_⟩
 ·refine kla_makeFunction CL hg Ry hc C zf ht (h2▸Qu) X.2 X.1 λc' qv h' tk hx zx cX hrec HE=>TB hrec λoc vs t r1 r2 r3=>?_
  have T:=H.tab (q:=kla_obj "<lambda>" rd (s9 ap) (s7 np cp sp ck) sc [] ((mg "__name__").getD .none) c' qv) (tk:=tk) e hx zx HE r1 (WD h1 h2 h3 ht Qu r2 (h3▸r3))
  exact hQ _ _ _ _ T.1 T.2 (.mk (eM _ rfl) rfl (Kn (dX _ r1) r2 r3))
 ·refine kla_makeFunctionHit CL hg Ry hc C zf ht (h2▸hf) X.1 λqv h' tk hk hsz=>?_
  have up:∀(q:aP) (b:ag) (o:aP),σ.heap.get? b=U o->(h'.push q).get? b=U o:=λq b o e=>dX _ (hk _ _ e)
  exact hQ _ _ _ _ (Z.le_refl _) (H.up (up _)) (.mk (eM _ rfl) rfl (Kn (up _ _ _ (H.zi _ _ r1)) r2 (h3▸r3)))
end
end
section
section
variable {w:aE}{K:aS}{mg mb:af->Option ae}{F:Fm}{s s':S}{g g':Gh}{σ σ':aw}{A:bj}{cx:Cx}{z:Z}{cs:List ag}
def ab6(w:aE)(z:Z)(k:Int)(y:ae):Prop:=∀C:Prop,(∀(a:ag) (vs:Array ae) (m:Nat) (t:gY) (e:y=.ref a) (h:z a=U (i6 vs m)) (h0:vs[0]?=U (.int k t)),C)->C
theorem XP(h:v.GI=U k)(d:Den w z cs v y):ab6 w z k y:=
 (bN.mp h).elim λl q=>(bN.mp q.2).elim λu q1=>by
  exact(x9 q.1▸d:Den w z cs (.tup l) y).inv _ λa vs m e0 e1 e2 e3=>(e2.get (List.head?_eq_getElem?.symm.trans q1.1)).elim λy0 h0=>(nZ q1.2▸h0.2:Den w z cs (.int k) y0).inv.elim λt ht Q_ k_=>k_ a vs m t e0 e1 (dG.symm.trans (h0.1.trans (congrArg U ht)))
theorem Ww:∀{l:List (Int×V)},vF xs=U l->xs=l.map (·.2)/\∀(i:Nat) (p:Int×V),l[i]?=U p->p.2.GI=U p.1:=by
 induction xs with
 |nil=>exact λh=>aA h▸⟨rfl,λj j e=>ay e⟩
 |cons v r ih=>
  refine λh=>(bN.mp h).elim λk q=>(dw.mp q.2).elim λl q2=>q2.2▸⟨congrArg (v::·) (ih q2.1).1,λi p e=>?_⟩
  induction i with
  |zero=>rw[<-aA e];exact q.1
  |succ i=>exact(ih q2.1).2 i p e
theorem Yt(l:List (Int×V)):(lQ (l.map (·.1))).map (λq=>(q.1,(l.map (·.2)).getD q.2 .none))=l:=by
 unfold lQ
 rw[nW,aO]
 refine List.ext_getElem? λi=>?_
 rw[gj]
 by_cases hi:i<l.length
 ·rw[Dh hi,gi hi]
  show U ((l.map (·.1)).getD i 0,(l.map (·.2)).getD i .none)=_
  rw[j6,j6,gj,gj,gi hi]
  rfl
 ·rw[kZ (mV hi),kZ (by rw[g8];exact mV hi)]
  rfl
theorem YB{α:Type}{f:α->V}{u:α->ae}{L:List α}(h:∀q∈L,Den w z cs (f q) (u q)):aF w z cs (L.map f) (L.map u):=by
 induction L with
 |nil=>exact .nil
 |cons q r ih=>exact .cons (h q (.head _)) (ih λp hp=>h p (.tail _ hp))
theorem abw(h:q∈jb (lQ kz)):q.2<kz.length:=
 (i4.mp ((sN _).mem_iff.mp h)).elim λj hj=>hj.2▸lr.mp hj.1
theorem Ub{l:List (Int×V)}{us out:List ae}(d:aF w z cs xs us)(hx:xs=l.map (·.2))(ho:out=(jb (lQ (l.map (·.1)))).map λq=>us.getD q.2 .none):aF w z cs ((kC l).map (·.2)) out/\out.length=l.length:=by
 subst hx
 have e9:(kC l).map (·.2)=(jb (lQ (l.map (·.1)))).map λq=>(l.map (·.2)).getD q.2 .none:=
  (congrArg (λl=>(kC l).map (·.2)) (Yt l).symm).trans ((congrArg (cA (·.2)) (K3 (λj=>(l.map (·.2)).getD j .none) _)).trans (nW ..))
 rw[e9,ho]
 refine⟨YB λq hq=>?_,?_⟩
 ·have hj:q.2<(l.map (·.2)).length:=by rw[aO,<-aO];exact abw hq
  refine(d.get (gi hj)).elim λy h=>?_
  rw[j6,j6,h.1,gi hj]
  exact h.2
 ·rw[aO,(sN _).length_eq]
  unfold lQ
  rw[aO,g8,aO]
theorem Yw(C:cz w K mg mb cx F)(hl:cx.lam=J)(hc:cx.comp=ah)(H:Full w F s g [] σ)(hs:yM sc)
  (hQ:∀u σ' g',g.le g'->Full w F s g' [] σ'->BP σ'.heap ap np cp sp ck sc u->Q u σ'):ax (ar ao w) A (eval (.Lambda (s9 ap) (s7 np cp sp ck) sc pM) F.env) Q aC σ:=
 have e:=C.lam hl (C.cmp.symm.trans hc)
 YL (B:=nu F g.ρ []) C.base H.apart C.glob e.1 e.2 hs.names λu z' ρ' σ' hz hH hL=>by
  exact H.Kj hz hH _ λg' h1 h2 h3 h4=>hQ u σ' g' h1 h4 hL
end
end
section
section
variable (w:aE)(K:aS)(mg mb:af->Option ae)(n:Nat)
def At(w:aE)(F:Fm)(g:Gh)(s:S)(P:Gh->Prop)(σ:aw):Prop:=∃g',g.le g'/\Full w F s g' [] σ/\P g'
structure cc(cx:Cx)(s:S)(F:Fm)(g:Gh)(σ:aw)(A:bj)(k:Nat):Prop where
 C:cz w K mg mb cx F
 A:cJ k A
 H:Full w F s g [] σ
def bJ(cx:Cx)(e:ai)(s:S)(r:R)(s':S):Prop:=∀F g σ A,cc w K mg mb cx s F g σ A n->ax (ar ao w) A (eval e F.env) (cO w F g s' r) aC σ
def dF(cx:Cx)(e:ai)(s:S)(r:R)(s':S):Prop:=∀F g σ A,cc w K mg mb cx s F g σ A n->ax (ar ao w) A (eval e F.env) (λy=>At w F g s' λg'=>cg w g' r y []) aC σ
def gh(cx:Cx)(e:ai)(s:S)(v:V)(s':S):Prop:=∀F g σ A,cc w K mg mb cx s F g σ A n->ax (ar ao w) A (eval e F.env) (λy=>At w F g s' λg'=>Den w g'.z g'.cs v y) aC σ
def wJ(cx:Cx)(e:ai)(s:S)(b:Bool)(s':S):Prop:=∀F g σ A,cc w K mg mb cx s F g σ A n->
 ax (ar ao w) A (eval e F.env) (λy=>ax (ar ao w) A (Al y) (λc σ'=>c=b/\At w F g s' (λj=>True) σ') aC) aC σ
def fL(cx:Cx)(e:ai)(s:S)(b:Bool)(s':S):Prop:=∀F g σ A,cc w K mg mb cx s F g σ A n->ax (ar ao w) A (isTrue e F.env (eval e F.env)) (λc σ'=>c=b/\At w F g s' (λj=>True) σ') aC σ
def pI(es:List ai):Prop:=∀pos env,(i8 pos (gC es env)).any (·.1)=ah
def nL(cx:Cx)(es:List ai)(s:S)(vs:List V)(s':S):Prop:=vs.length=es.length/\pI es/\∀pos F g σ A,cc w K mg mb cx s F g σ A n->
 ax (ar ao w) A (spliced (i8 pos (gC es F.env))) (λxs=>At w F g s' λg'=>aF w g'.z g'.cs vs xs) aC σ
end
section
variable {w:aE}{K:aS}{mg mb:af->Option ae}{F:Fm}{s s' s0 s1 s2:S}{g g':Gh}{x:List ag}{σ σ':aw}{A:bj}{cx:Cx}{n:Nat}{G:bR}
theorem At.of(k:g.le g')(H:Full w F s g' [] σ)(h:P g'):At w F g s P σ:=⟨g',k,H,h⟩
theorem At.seq{P:Gh->Prop}{Q:Prop}(h:At w F g s P σ)(k:∀g',g.le g'->Full w F s g' [] σ->P g'->Q):Q:=let ⟨g',a,b,c⟩:=h;k g' a b c
theorem At.le{P:Gh->Prop}(h:At w F g' s P σ)(k:g.le g'):At w F g s P σ:=h.seq λj a b c=>.of (k.le_trans a) b c
theorem cO.seq{r:R}{y:ae}{Q:Prop}(h:cO w F g s r y σ)(k:∀g' x',g.le g'->Full w F s g' x' σ->cg w g' r y x'->Q):Q:=h _ λg' x' a b c=>k g' x' a b c
theorem cc.to(M:cc w K mg mb cx s F g σ A k)(H:Full w F s' g' [] σ')(h:j<=k):cc w K mg mb cx s' F g' σ' A j:=⟨M.C,M.A.le h,H⟩
theorem cc.on(M:cc w K mg mb cx s F g σ A k)(H:Full w F s' g' [] σ'):cc w K mg mb cx s' F g' σ' A k:=⟨M.C,M.A,H⟩
theorem cc.dn(M:cc w K mg mb cx s F g σ A (k+1)):cc w K mg mb cx s F g σ A k:=⟨M.C,M.A.three,M.H⟩
theorem Qy{e:ai}{r:R}(h:bJ w K mg mb n cx e s r s'):dF w K mg mb n cx e s r.fix s':=λF g σ A M=>aW (h F g σ A M) λj j p=>p.seq λj j a b c=>
 let ⟨_,a2,b2,c2⟩:=abQ b c;.of (a.le_trans a2) b2 c2
theorem HQ{e:ai}{r:R}{v:V}(h:bJ w K mg mb n cx e s r s0)(q:s0.nJ r=U (v,s')):gh w K mg mb n cx e s v s':=λF g σ A M=>aW (h F g σ A M) λj j p=>p.seq λj j a b c=>
 rp b c q _ λ_ a2 b2 c2=>.of (a.le_trans a2) b2 c2
theorem dF.go{e:ai}{r:R}{k:Nat}(h:dF w K mg mb n cx e s r s')(M:cc w K mg mb cx s F g σ A k)(hk:n<=k){Q:ae->aw->Prop}
  (c:∀y σ' g',g.le g'->Full w F s' g' [] σ'->cg w g' r y []->Q y σ'):ax (ar ao w) A (eval e F.env) Q aC σ:=aW (h F g σ A (M.to M.H hk)) λy σ' h=>h.seq (c y σ')
theorem gh.go{e:ai}{r:V}{k:Nat}(h:gh w K mg mb n cx e s r s')(M:cc w K mg mb cx s F g σ A k)(hk:n<=k){Q:ae->aw->Prop}
  (c:∀y σ' g',g.le g'->Full w F s' g' [] σ'->Den w g'.z g'.cs r y->Q y σ'):ax (ar ao w) A (eval e F.env) Q aC σ:=aW (h F g σ A (M.to M.H hk)) λy σ' h=>h.seq (c y σ')
theorem bJ.go{e:ai}{r:R}{k:Nat}(h:bJ w K mg mb n cx e s r s')(M:cc w K mg mb cx s F g σ A k)(hk:n<=k){Q:ae->aw->Prop}
  (c:∀y σ' g' x',g.le g'->Full w F s' g' x' σ'->cg w g' r y x'->Q y σ'):ax (ar ao w) A (eval e F.env) Q aC σ:=aW (h F g σ A (M.to M.H hk)) λy σ' h=>h.seq (c y σ')
theorem bJ.val(h:bJ w K mg mb n cx e s (.val v) s')(M:cc w K mg mb cx s F g σ A k)(hk:n<=k)
  (c:∀y σ' g',g.le g'->Full w F s' g' [] σ'->Den w g'.z g'.cs v y->Q y σ'):ax (ar ao w) A (eval e F.env) Q aC σ:=h.go M hk λy σ' g' x' a b d=>c y σ' g' a ((ly d).2▸b) (ly d).1
theorem nL.go{es:List ai}{vs:List V}{k:Nat}{pos:aY}(h:nL w K mg mb n cx es s vs s')(M:cc w K mg mb cx s F g σ A k)(hk:n<=k){Q:List ae->aw->Prop}
  (c:∀y σ' g',g.le g'->Full w F s' g' [] σ'->aF w g'.z g'.cs vs y->Q y σ'):ax (ar ao w) A (spliced (i8 pos (gC es F.env))) Q aC σ:=aW (h.2.2 pos F g σ A (M.to M.H hk)) λy σ' h=>h.seq (c y σ')
theorem wJ.go{e:ai}{b:Bool}{k:Nat}(h:wJ w K mg mb n cx e s b s')(M:cc w K mg mb cx s F g σ A k)(hk:n<=k){Q:Bool->aw->Prop}
  (c:∀σ' g',g.le g'->Full w F s' g' [] σ'->Q b σ'):ax (ar ao w) A (eval e F.env) (λy=>ax (ar ao w) A (Al y) Q aC) aC σ:=
 aW (h F g σ A (M.to M.H hk)) λy σ' h=>aW h λd bH p=>p.1▸p.2.seq λg' a b j=>c bH g' a b
theorem fL.go{e:ai}{b:Bool}{k:Nat}(h:fL w K mg mb n cx e s b s')(M:cc w K mg mb cx s F g σ A k)(hk:n<=k){Q:Bool->aw->Prop}
  (c:∀σ' g',g.le g'->Full w F s' g' [] σ'->Q b σ'):ax (ar ao w) A (isTrue e F.env (eval e F.env)) Q aC σ:=
 aW (h F g σ A (M.to M.H hk)) λd σ' p=>p.1▸p.2.seq λg' a b j=>c σ' g' a b
theorem atT(k:g.le g')(H:Full w F s g' [] σ):At w F g s (λj=>True) σ:=.of k H trivial
theorem mY:noStar v=J->∀(r:List ai) (env:dh),gC (v::r) env=(ah,eval v env)::gC r env:=
 ai.casesOn (motive_1:=λv=>noStar v=J->∀(r:List ai) (env:dh),gC (v::r) env=(ah,eval v env)::gC r env) v (λa b c=>(λj j j=>rfl)) (λa b c=>(λj j j=>rfl)) (λa b c d=>(λj j j=>rfl)) (λa b c=>(λj j j=>rfl)) (λa b c d=>(λj j j=>rfl)) (λa b c d=>(λj j j=>rfl)) (λa b c=>(λj j j=>rfl)) (λa b c=>(λj j j=>rfl)) (λa b c d=>(λj j j=>rfl)) (λa b c d=>(λj j j=>rfl)) (λa b c d e=>(λj j j=>rfl)) (λa b c d=>(λj j j=>rfl)) (λa b=>(λj j j=>rfl)) (λa b=>(λj j j=>rfl)) (λa b=>(λj j j=>rfl)) (λa b c d=>(λj j j=>rfl)) (λa b c d=>(λj j j=>rfl)) (λa b c d=>(λj j j=>rfl)) (λa b=>(λj j j=>rfl)) (λa b c=>(λj j j=>rfl)) (λa b c=>(λj j j=>rfl)) (λa b c=>(λj j j=>rfl)) (λa b=>bo) (λa b=>(λj j j=>rfl)) (λa b=>(λj j j=>rfl)) (λa b c=>(λj j j=>rfl)) (λa b c d=>(λj j j=>rfl))
theorem qJ(h:noStar e=J)(k:pI r):pI (e::r):=λpos env=>by
 rw[mY h]
 exact k pos env
theorem adT:nL w K mg mb n cx [] s [] s:=⟨rfl,λj j=>rfl,λj j j j j M=>aI (.of (Gh.le_refl _) M.H .nil)⟩
theorem abF(hs:noStar e=J)(h:gh w K mg mb n cx e s v s0)(k:nL w K mg mb n cx r s0 vs s'):nL w K mg mb n cx (e::r) s (v::vs) s':=
 ⟨by rw[fP,fP,k.1],qJ hs k.2.1,λpos F g σ A M=>by
  rw[mY hs]
  exact au (h.go M (aQ _) λu aG g1 a b c=>au (aI (au (gN (k.go (M.on b) (aQ _) λxs bH g2 a2 b2 c2=>aI (.of (a.le_trans a2) b2 (.cons (c.mono a2.z a2.cs) c2)))))))⟩
theorem afW:bJ w K mg mb n cx (.Constant .none k p) s (.val .none) s:=λF g σ A M=>wpAny_Constant_none (ib M.H .none)
theorem ae8:bJ w K mg mb n cx (.Constant (.bool b) k p) s (.val (.bool b)) s:=λF g σ A M=>wpAny_Constant_bool (ib M.H (.bool b))
theorem ahx:bJ w K mg mb n cx (.Constant (.int b) k p) s (.val (.int b)) s:=λF g σ A M=>wpAny_Constant_int (ib (M.H.toks _) (.int b _))
theorem af9:bJ w K mg mb n cx (.Constant (.str b) k p) s (.val (.str b)) s:=λF g σ A M=>wpAny_Constant_str (ib (M.H.toks _) (.str b _))
theorem aez(T:eG w K mg mb G)(q:dU G cx y s=U r):bJ w K mg mb n cx (.Name y p) s r s:=λF g σ A M=>
 wpAny_Name (yo T M.C M.H q λv hv j Q_ k_=>k_ g [] g.le_refl M.H hv) (beq_eq_false_iff_ne.mpr λe=>by unfold dU at q;rw[if_pos e] at q;cases q)
theorem nL.size(h:nL w K mg mb n cx es s vs s')(hz:es.length<=100)(c:aF w z cs vs xs):xs.length<=sizeLine:=by
 rw[<-c.length,h.1]
 exact bf hz (by decide)
theorem ahR(hz:es.length<=100)(h:nL w K mg mb n cx es s vs s'):bJ w K mg mb n cx (.Tuple es k p) s (.val (.tup vs)) s':=λF g σ A M=>
 wpAny_Tuple_spliced (h.go M (aQ _) λxs aG g1 a b c=>⟨h.size hz c,by refine cO.le ?_ a;exact LA b c (h.size hz c) rfl rfl rfl⟩)
theorem aeI(hz:es.length<=100)(h:nL w K mg mb n cx es s vs s'):bJ w K mg mb n cx (.List es p) s (.list vs) s':=λF g σ A M=>
 wpAny_List_spliced (h.go M (aQ _) λxs aG g1 a b c=>⟨h.size hz c,by refine cO.le ?_ a;exact Eg b c (h.size hz c) rfl rfl rfl⟩)
theorem ag4(h1:dF w K mg mb n cx l s a s0)(h2:dF w K mg mb n cx r s0 b s1)(q2:s1.peek a=U u)(q3:s1.peek b=U v)(q4:fg o u v=U rr):bJ w K mg mb n cx (.BinOp l o r p) s rr s1:=
 λF g σ A M=>wpAny_BinOp (h1.go M (aQ _) λy aG g1 a1 a2 a3=>h2.go (M.on a2) (aQ _) λy2 bH g2 b1 b2 b3=>aW (aaK b2 (gp b2 (a3.mono b1) q2) (gp b2 b3 q3) q4) λj j e=>(e.le b1).le a1)
theorem trR(h:dF w K mg mb n cx e s r s')(q1:s'.peek r=U v)(q2:truthy v=U b):wJ w K mg mb n cx e s b s':=λF g σ A M=>
 h.go M (aQ _) λy aG g1 a b c=>VU b (gp b c q1) q2 λt=>⟨rfl,atT a (b.toks t)⟩
theorem ahM(h:wJ w K mg mb n cx e s b s'):bJ w K mg mb n cx (.UnaryOp .Not e p) s (.val (.bool (!b))) s':=λF g σ A M=>
 UnaryOp_ (aW (h.go M (aQ _) fun σ' g' a b=>(ib b (.bool _)).le a) λj j h=>not_of h)
theorem agL(h:bJ w K mg mb n cx e s (.val (.int i)) s'):bJ w K mg mb n cx (.UnaryOp .USub e p) s (.val (.int (-i))) s':=λF g σ A M=>
 UnaryOp_ (h.val M (aQ _) λy aG g1 a b c=>c.inv.elim λt e=>e▸neg_int ((ib (b.toks _) (.int _ _)).le a))
theorem rIf(h:fL w K mg mb n cx t s J s0)(k:bJ w K mg mb n cx b s0 r s'):bJ w K mg mb n cx (.IfExp t b o p) s r s':=λF g σ A M=>
 IfExp_ (h.go M (aQ _) λaG g1 a b=>aW (k F g1 aG A (M.on b)) λj j e=>e.le a)
theorem aey(h:fL w K mg mb n cx t s ah s0)(k:bJ w K mg mb n cx o s0 r s'):bJ w K mg mb n cx (.IfExp t b o p) s r s':=λF g σ A M=>
 IfExp_ (h.go M (aQ _) λaG g1 a b=>aW (k F g1 aG A (M.on b)) λj j e=>e.le a)
end
end
section
section
variable (w:aE)(K:aS)(mg mb:af->Option ae)(n:Nat)
def nO(cx:Cx)(o:rj)(es:List ai)(s:S)(b:Bool)(s':S):Prop:=∀p,bJ w K mg mb n cx (.BoolOp o es p) s (.val (.bool b)) s'
def kM(cx:Cx)(o:rj)(es:List ai)(s:S)(b:Bool)(s':S):Prop:=∀p whole F g σ A,cc w K mg mb cx s F g σ A n->ax (ar ao w) A (isTrue (.BoolOp o es p) F.env whole) (λc σ'=>c=b/\At w F g s' (λj=>True) σ') aC σ
def nF(cx:Cx)(os:List gR)(es:List ai)(l:R)(s:S)(b:Bool)(s':S):Prop:=∀p F g σ A u,cc w K mg mb cx s F g σ A (n+1)->cg w g l u []->
  ax (ar ao w) A (compareChain p u os (evalEach es F.env)) (cO w F g s' (.val (.bool b))) aC σ/\ax (ar ao w) A (testChain p u os (evalEach es F.env)) (λc σ'=>c=b/\At w F g s' (λj=>True) σ') aC σ
def kW(cx:Cx)(e:Option ai)(s:S)(oi:Option Int)(s':S):Prop:=∀F g σ A,cc w K mg mb cx s F g σ A n->ax (ar ao w) A (evalPart e F.env) (λy=>At w F g s' λj=>pL y oi) aC σ
end
section
variable {w:aE}{K:aS}{mg mb:af->Option ae}{F:Fm}{s s' s0 s1 s2 s3 s4:S}{g g':Gh}{x:List ag}{σ σ':aw}{A:bj}{cx:Cx}{n:Nat}{G:bR}
theorem AR(h:Den w z cs (.bool b) y):y=.bool b:=h.inv
theorem aaG(h:Den w z cs (.int b) y):∃t,y=.int b t:=h.inv
theorem aer(h:bJ w K mg mb n cx e s (.val (.bool b)) s'):nO w K mg mb n cx o [e] s b s':=λp F g σ A M=>BoolOp_one (h F g σ A M)
theorem aex(h:bJ w K mg mb n cx e s (.val (.bool J)) s0)(k:nO w K mg mb n cx .And (e2::r) s0 b s'):nO w K mg mb n cx .And (e::e2::r) s b s':=λp F g σ A M=>
 BoolOp_and (h.val M (aQ _) λy aG g1 a b c=>AR c▸pj (aW (k p F g1 aG A (M.on b)) λj j e=>e.le a))
theorem ahq(h:bJ w K mg mb n cx e s (.val (.bool ah)) s0)(k:nO w K mg mb n cx .Or (e2::r) s0 b s'):nO w K mg mb n cx .Or (e::e2::r) s b s':=λp F g σ A M=>
 BoolOp_or (h.val M (aQ _) λy aG g1 a b c=>AR c▸pj (aW (k p F g1 aG A (M.on b)) λj j e=>e.le a))
theorem ab9(h:bJ w K mg mb n cx e s (.val (.bool ah)) s'):nO w K mg mb n cx .And (e::e2::r) s ah s':=λp F g σ A M=>
 BoolOp_and (h.val M (aQ _) λy aG g1 a b c=>AR c▸pj ((ib b (.bool _)).le a))
theorem afo(h:bJ w K mg mb n cx e s (.val (.bool J)) s'):nO w K mg mb n cx .Or (e::e2::r) s J s':=λp F g σ A M=>
 BoolOp_or (h.val M (aQ _) λy aG g1 a b c=>AR c▸pj ((ib b (.bool _)).le a))
theorem aci:kM w K mg mb n cx .And [] s J s:=λp j F g σ A M=>isTrue_and_nil ⟨rfl,atT g.le_refl M.H⟩
theorem af4:kM w K mg mb n cx .Or [] s ah s:=λp j F g σ A M=>isTrue_or_nil ⟨rfl,atT g.le_refl M.H⟩
theorem afp(h:fL w K mg mb n cx e s J s0)(k:kM w K mg mb n cx .And r s0 b s'):kM w K mg mb n cx .And (e::r) s b s':=λp wh F g σ A M=>
 isTrue_and (h.go M (aQ _) λaG g1 a b=>aW (k p wh F g1 aG A (M.on b)) λj j e=>⟨e.1,e.2.le a⟩)
theorem agt(h:fL w K mg mb n cx e s ah s0)(k:kM w K mg mb n cx .Or r s0 b s'):kM w K mg mb n cx .Or (e::r) s b s':=λp wh F g σ A M=>
 isTrue_or (h.go M (aQ _) λaG g1 a b=>aW (k p wh F g1 aG A (M.on b)) λj j e=>⟨e.1,e.2.le a⟩)
theorem abu(h:fL w K mg mb n cx e s ah s'):kM w K mg mb n cx .And (e::r) s ah s':=λp wh F g σ A M=>
 isTrue_and (h.go M (aQ _) λaG g1 a b=>⟨rfl,atT a b⟩)
theorem afi(h:fL w K mg mb n cx e s J s'):kM w K mg mb n cx .Or (e::r) s J s':=λp wh F g σ A M=>
 isTrue_or (h.go M (aQ _) λaG g1 a b=>⟨rfl,atT a b⟩)
theorem ab3(h:dF w K mg mb n cx e s r s')(q1:s'.peek l=U a)(q2:s'.peek r=U c)(q3:bC o a c=U d):nF w K mg mb n cx [o] [e] l s d s':=λp F g σ A u M hl=>
 ⟨chain_last (h.go M (dm _) λy aG g1 a1 a2 a3=>vq M.A a2 (gp a2 (hl.mono a1) q1) (gp a2 a3 q2) q3 λt=>(ib (a2.toks t) (.bool _)).le a1),
  test_last (h.go M (dm _) λy aG g1 a1 a2 a3=>vq M.A a2 (gp a2 (hl.mono a1) q1) (gp a2 a3 q2) q3 λt=>pj ⟨rfl,atT a1 (a2.toks t)⟩)⟩
theorem abY{o o2:gR}{e e2:ai}{os:List gR}{es:List ai}{l r:R}(h:dF w K mg mb n cx e s r s0)(q1:s0.peek l=U a)(q2:s0.peek r=U c)(q3:bC o a c=U J)(k:nF w K mg mb n cx (o2::os) (e2::es) r s0 b s'):
  nF w K mg mb n cx (o::o2::os) (e::e2::es) l s b s':=λp F g σ A u M hl=>
 ⟨chain_link (h.go M (dm _) λy aG g1 a1 a2 a3=>vq M.A a2 (gp a2 (hl.mono a1) q1) (gp a2 a3 q2) q3 λt=>pj (aW (k p F g1 _ A y (M.on (a2.toks t)) a3).1 λj j e=>e.le a1)),
  test_link (h.go M (dm _) λy aG g1 a1 a2 a3=>vq M.A a2 (gp a2 (hl.mono a1) q1) (gp a2 a3 q2) q3 λt=>pj (aW (k p F g1 _ A y (M.on (a2.toks t)) a3).2 λj j e=>⟨e.1,e.2.le a1⟩))⟩
theorem ac3{o o2:gR}{e e2:ai}{os:List gR}{es:List ai}{l r:R}(h:dF w K mg mb n cx e s r s')(q1:s'.peek l=U a)(q2:s'.peek r=U c)(q3:bC o a c=U ah):
  nF w K mg mb n cx (o::o2::os) (e::e2::es) l s ah s':=λp F g σ A u M hl=>
 ⟨chain_link (h.go M (dm _) λy aG g1 a1 a2 a3=>vq M.A a2 (gp a2 (hl.mono a1) q1) (gp a2 a3 q2) q3 λt=>pj ((ib (a2.toks t) (.bool _)).le a1)),
  test_link (h.go M (dm _) λy aG g1 a1 a2 a3=>vq M.A a2 (gp a2 (hl.mono a1) q1) (gp a2 a3 q2) q3 λt=>pj ⟨rfl,atT a1 (a2.toks t)⟩)⟩
theorem ahQ{l:ai}{os:List gR}{es:List ai}{p:aY}{a:R}(hm:lastMarks os es=ah)(h:dF w K mg mb n cx l s a s0)(k:nF w K mg mb n cx os es a s0 b s'):bJ w K mg mb (n+1) cx (.Compare l os es p) s (.val (.bool b)) s':=λF g σ A M=>by
 show ax _ _ (do compareChain p (<-eval l F.env) os (markedEach os es (evalEach es F.env))) _ _ _
 rw[markedEach_of_false _ _ _ hm]
 exact au (h.go M (dm _) λy aG g1 a1 a2 a3=>aW (k p F g1 aG A y (M.on a2) a3).1 λj j e=>e.le a1)
theorem agn{l:ai}{os:List gR}{es:List ai}{p:aY}{a:R}(hm:lastMarks os es=ah)(h:dF w K mg mb n cx l s a s0)(k:nF w K mg mb n cx os es a s0 b s'):fL w K mg mb (n+1) cx (.Compare l os es p) s b s':=λF g σ A M=>by
 show ax _ _ (do testChain p (<-eval l F.env) os (markedEach os es (evalEach es F.env))) _ _ _
 rw[markedEach_of_false _ _ _ hm]
 exact au (h.go M (dm _) λy aG g1 a1 a2 a3=>aW (k p F g1 aG A y (M.on a2) a3).2 λj j e=>⟨e.1,e.2.le a1⟩)
theorem aft(h:kM w K mg mb n cx o es s b s'):fL w K mg mb n cx (.BoolOp o es p) s b s':=λF g σ A M=>h p _ F g σ A M
theorem ahI(h:fL w K mg mb n cx e s b s'):fL w K mg mb n cx (.UnaryOp .Not e p) s (!b) s':=λF g σ A M=>
 isTrue_not (h.go M (aQ _) λaG g1 a b=>⟨rfl,atT a b⟩)
noncomputable def plainT(v:ai):Bool:=by
 apply ai.casesOn (motive_1:=λj=>Bool) v
 case BoolOp=>exact λa b c=>ah
 case UnaryOp=>exact λa b c=>ah
 case IfExp=>exact λa b c d=>ah
 case Compare=>exact λa b c d=>ah
 all_goals exists J
theorem Xn(env:dh)(t:Sem ae):plainT v=J->isTrue v env t=(do let u <-t;standAt v.pos;holding [u] (Al u)):=
 ai.casesOn (motive_1:=λv=>plainT v=J->isTrue v env t=(do let u <-t;standAt v.pos;holding [u] (Al u))) v (λa b c=>bo) (λa b c=>(λj=>rfl)) (λa b c d=>(λj=>rfl)) (λa b c=>bo) (λa b c d=>(λj=>rfl)) (λa b c d=>bo) (λa b c=>(λj=>rfl)) (λa b c=>(λj=>rfl)) (λa b c d=>(λj=>rfl)) (λa b c d=>(λj=>rfl)) (λa b c d e=>(λj=>rfl)) (λa b c d=>(λj=>rfl)) (λa b=>(λj=>rfl)) (λa b=>(λj=>rfl)) (λa b=>(λj=>rfl)) (λa b c d=>bo) (λa b c d=>(λj=>rfl)) (λa b c d=>(λj=>rfl)) (λa b=>(λj=>rfl)) (λa b c=>(λj=>rfl)) (λa b c=>(λj=>rfl)) (λa b c=>(λj=>rfl)) (λa b=>(λj=>rfl)) (λa b=>(λj=>rfl)) (λa b=>(λj=>rfl)) (λa b c=>(λj=>rfl)) (λa b c d=>(λj=>rfl))
theorem gf(hp:plainT e=J)(h:wJ w K mg mb n cx e s b s'):fL w K mg mb n cx e s b s':=λF g σ A M=>
 isTrue_plain (h F g σ A M) (Xn _ _ hp)
noncomputable def BU(v:V):Bool:=V.casesOn (motive_1:=λj=>Bool) v ah (λj=>ah) (λj=>ah) (λj=>ah) (λj=>ah) (λa=>J) (λj=>ah) (λj=>ah) (λj=>ah) (λj j=>ah) (λj j j=>ah) (λj=>ah)
theorem Vq(h:Den w z cs v y):BU v=ah->handedIn y=true:=
 Den.casesOn (motive_1:=λv y j=>BU v=ah->handedIn y=J) h (λj=>rfl) (λj j=>rfl) (λj j j=>rfl) (λj j j=>rfl) (λj j=>rfl) (λj=>jk) (λj j=>rfl) (λj j j j=>rfl) (λj j j j=>rfl) (λj j j j j=>rfl) (λj j j j j=>rfl) (λj j=>rfl)
theorem afB(T:eG w K mg mb G)(hp:qS o=J)(h:dF w K mg mb n cx o s (.val v) s')(q1:s'.view v=U (.inst c ns vs))(q2:G.cls c=U k)(hc:k.atts.contains a=J)
  (q3:lk a (ns.zip vs)=U u) (hbi:BU u=ah):bJ w K mg mb n cx (.Attribute o a p) s (.val u) s':=λF g σ A M=>
 Attribute_any_ (h.go M (aQ _) λy aG g1 a1 a2 a3=>by
  have k1:=(T.cls c k q2).att a (xk.mp hc)
  refine(vw a2 (ly a3).1 q1).Od a2.zi _ λb d es m e0 e1 e2 e3 e4=>?_
  subst e0
  exact(Ot e3 q3).elim λy k5=>k1.2.2.elim λattr k2=>get_value (a2.wX M.C) (E4 e1 e2) (plainGet_of k1.1).1 (findObj_own k1.2.1 k2.1 k2.2 k5.1) (Vq k5.2 hbi) ((ib (a2.toks _) k5.2).le a1)) (by
  show(do let o <-sI o a F.env (eval o F.env);_)=_
  rw[Jo hp])
theorem Xf(H:Full w F s g x σ)(hb:bw w g.z g.cs σ.heap b u)(q:cC b k=U v):∃T id,σ.TypeIs u T/\typeLookup (.type T) "__getitem__"=pure (U (.builtin id)):=by
 cases b with
 |list xs=>exact hb.isList H.zi _ λp vs m e0 e1 _ _=>⟨_,_,e0▸⟨_,e1,rfl⟩,slot_list_getitem.lookup⟩
 |tup xs=>exact hb.isTup H.zi _ λp vs m e0 e1 _ _=>⟨_,_,e0▸⟨_,e1,rfl⟩,zX.lookup⟩
 |dict xs ys=>exact hb.tm H.zi _ λp vs m e0 e1 _ _ _ _=>⟨_,_,e0▸⟨_,e1,rfl⟩,slot_dict_getitem.lookup⟩
 |_=>exact ay q
theorem agQ(h:dF w K mg mb n cx o s b s0)(h2:gh w K mg mb n cx i s0 k s')(q2:s'.peek b=U w')(q3:cC w' k=U v):bJ w K mg mb (n+1) cx (.Subscript o i p) s (.val v) s':=λF g σ A M=>
 Subscript_ (h.go M (dm _) λy aG g1 a1 a2 a3=>h2.go (M.on a2) (dm _) λz bH g2 b1 b2 b3=>
  have hb:=gp b2 (a3.mono b1) q2
  (Xf b2 hb q3).elim λT h=>h.elim λid h=>A4 h.1 h.2 (Nh M.A b2 hb (.den b3) q3 λu t hu=>(ib (b2.toks t) hu).le (a1.le_trans b1)))
theorem abv:kW w K mg mb n cx aj s aj s:=λF g σ A M=>wpAny_evalPart_none (.of g.le_refl M.H .none)
theorem acD(h:bJ w K mg mb n cx e s (.val (.int i)) s'):kW w K mg mb n cx (U e) s (U i) s':=λF g σ A M=>
 wpAny_evalPart_some (h.val M (aQ _) λy aG g1 a b c=>(aaG c).elim λt ht=>ht▸.of a b (.int _ _))
theorem kW.go(h:kW w K mg mb n cx e s r s')(M:cc w K mg mb cx s F g σ A k)(hk:n<=k)
  (c:∀y σ' g',g.le g'->Full w F s' g' [] σ'->pL y r->Q y σ'):ax (ar ao w) A (evalPart e F.env) Q aC σ:=aW (h F g σ A (M.to M.H hk)) λy σ' h=>h.seq (c y σ')
theorem QZ(h:dF w K mg mb n cx o s b s0)(h1:kW w K mg mb n cx l s0 l' s1)(h2:kW w K mg mb n cx u s1 u' s2)(h3:kW w K mg mb n cx t s2 t' s')
  (M:cc w K mg mb cx s F g σ A n) (c:∀y σ' g' sl z1 z2 z3,g.le g'->Full w F s' g' [] σ'->cg w g' b y []->σ'.heap.IsSliceOf sl z1 z2 z3->pL z1 l'->pL z2 u'->pL z3 t'->ax (ar ao w) A (subscriptTail o (.Slice l u t p0) y (.ref sl)) Q aC σ'):
  ax (ar ao w) A (eval (.Subscript o (.Slice l u t p0) p) F.env) Q aC σ:=
 Subscript_ (h.go M (aQ _) λy aG g1 a1 a2 a3=>wpAny_Slice (h1.go (M.on a2) (aQ _) λz1 bH g2 b1 b2 b3=>h2.go (M.on b2) (aQ _) λz2 jY g3 c1 c2 c3=>h3.go (M.on c2) (aQ _) λz3 gv g4 d1 d2 d3=>
  c y _ g4 gv.heap.objs.size z1 z2 z3 (((a1.le_trans b1).le_trans c1).le_trans d1) (d2.grow (λa o e=>dX _ e) rfl rfl)
   (((a3.mono b1).mono c1).mono d1) ⟨_,eM _ rfl,rfl,rfl⟩ b3 c3 d3))
theorem Zu(h:dF w K mg mb n cx o s b s0)(h1:kW w K mg mb n cx l s0 l' s1)(h2:kW w K mg mb n cx u s1 u' s2)(h3:kW w K mg mb n cx t s2 t' s')
  (q4:s'.peek b=U (.list xs)) (q5:Bu xs l' u' t'=U ys):bJ w K mg mb n cx (.Subscript o (.Slice l u t p0) p) s (.list ys) s':=λF g σ A M=>
 QZ h h1 h2 h3 M λy gv g4 sl z1 z2 z3 a d2 b hs b3 c3 d3=>by
  exact(gp d2 b q4).isList d2.zi _ λpa vs m e0 e1 e2 e3=>e0▸A4 ⟨_,e1,rfl⟩ slot_list_getitem.lookup (W7 e1 e2 e3 hs b3 c3 d3 q5 λus hu hl=>cO.le (by exact Eg d2 hu hl rfl rfl rfl) a)
theorem Lm(h:pL y aj):y=.none:=by
 cases h with
 |none=>rfl
theorem Xa(h:pL y (U i)):∃t,y=.int i t:=by
 cases h with
 |int=>exact⟨_,rfl⟩
theorem aaU(h:dF w K mg mb n cx o s b s0)(h1:kW w K mg mb n cx l s0 aj s1)(h2:kW w K mg mb n cx u s1 aj s2)(h3:kW w K mg mb n cx t s2 (U (-1)) s')
  (q4:s'.peek b=U (.tup xs)):bJ w K mg mb n cx (.Subscript o (.Slice l u t p0) p) s (.val (.tup xs.reverse)) s':=λF g σ A M=>
 QZ h h1 h2 h3 M λy gv g4 sl z1 z2 z3 a d2 b hs b3 c3 d3=>(Xa d3).elim λt ht=>by
  rw[Lm b3,Lm c3,ht] at hs
  exact(gp d2 b q4).isTup d2.zi _ λpa vs m e0 e1 e2 e3=>e0▸A4 ⟨_,e1,rfl⟩ zX.lookup (Vf e1 e2 e3 hs λus hu hl=>cO.le (by exact LA d2 hu hl rfl rfl rfl) a)
end
end
section
def Rn(w:aE)(F:Fm)(s':S)(g:Gh)(v:V)(r:jq)(σ':aw):Prop:=∀C:Prop,(∀(y:ae) (g':Gh) (e:r=.ok (.ret y)) (h1:g.le g') (h2:Full w F s' g' [] σ') (h3:Den w g'.z g'.cs v y),C)->C
section
variable (w:aE)(K:aS)(mg mb:af->Option ae)(n:Nat)
def mJ(cx:Cx)(es:List ai)(s:S)(rs:List R)(s':S):Prop:=pI es/\∀pos F g σ A,cc w K mg mb cx s F g σ A n->
 ax (ar ao w) A (spliced (i8 pos (gC es F.env))) (λxs=>At w F g s' λg'=>oq w g' rs xs) aC σ
def se(cx:Cx)(es:List ai)(s:S)(vs:List V)(s':S):Prop:=pI es/\∀pos F g σ A,cc w K mg mb cx s F g σ A n->
 ax (ar ao w) A (spliced (i8 pos (gC es F.env))) (λxs=>At w F g s' λg'=>aF w g'.z g'.cs vs xs) aC σ
def uu(a:Nat)(vs:List V)(m:List M)(v:V)(m':List M):Prop:=keepIn K (.ref a)=J/\∀(B:Fm) (z ρ:Z) (cs om:List ag) (σ:aw) (A:bj) (ys:List ae),Base w K B.hb mg mb->cJ n A->dN w B m z ρ cs om σ->aF w z cs vs ys->
 ic (ar ao w) A (.call (.ref a) ⟨ys,[]⟩) (OF w B z cs v m') σ
def oW(a:Nat)(vs:List V)(s:S)(v:V)(s':S):Prop:=keepIn K (.ref a)=J/\∀F g σ A ys,Base w K F.hb mg mb->cJ n A->Full w F s g [] σ->aF w g.z g.cs vs ys->
 ic (ar ao w) A (.call (.ref a) ⟨ys,[]⟩) (Rn w F s' g v) σ
end
section
variable {w:aE}{K:aS}{mg mb:af->Option ae}{F:Fm}{s s' s0 s1 s2:S}{g g':Gh}{x:List ag}{σ σ':aw}{A:bj}{cx:Cx}{n:Nat}{G:bR}
theorem mJ.go(h:mJ w K mg mb n cx es s rs s')(M:cc w K mg mb cx s F g σ A k)(hk:n<=k)
  (c:∀y σ' g',g.le g'->Full w F s' g' [] σ'->oq w g' rs y->Q y σ'):ax (ar ao w) A (spliced (i8 pos (gC es F.env))) Q aC σ:=aW (h.2 pos F g σ A (M.to M.H hk)) λy σ' h=>h.seq (c y σ')
theorem se.go(h:se w K mg mb n cx es s vs s')(M:cc w K mg mb cx s F g σ A k)(hk:n<=k)
  (c:∀y σ' g',g.le g'->Full w F s' g' [] σ'->aF w g'.z g'.cs vs y->Q y σ'):ax (ar ao w) A (spliced (i8 pos (gC es F.env))) Q aC σ:=aW (h.2 pos F g σ A (M.to M.H hk)) λy σ' h=>h.seq (c y σ')
theorem Gj:mJ w K mg mb n cx [] s [] s:=⟨λj j=>rfl,λj j j j j M=>aI (.of (Gh.le_refl _) M.H .nil)⟩
theorem Fx(hs:noStar e=J)(h:dF w K mg mb n cx e s v s0)(k:mJ w K mg mb n cx r s0 vs s'):mJ w K mg mb n cx (e::r) s (v::vs) s':=
 ⟨qJ hs k.1,λpos F g σ A M=>by
  rw[mY hs]
  exact au (h.go M (aQ _) λu aG g1 a b c=>au (aI (au (gN (k.go (M.on b) (aQ _) λxs bH g2 a2 b2 c2=>aI (.of (a.le_trans a2) b2 (.cons (c.mono a2) c2)))))))⟩
theorem ae9:se w K mg mb n cx [] s [] s:=⟨λj j=>rfl,λj j j j j M=>aI (.of (Gh.le_refl _) M.H .nil)⟩
theorem ac2(hs:noStar e=J)(h:gh w K mg mb n cx e s v s0)(q:vV v s0=U (v',s1))(k:se w K mg mb n cx r s1 vs s'):se w K mg mb n cx (e::r) s (v'::vs) s':=
 ⟨qJ hs k.1,λpos F g σ A M=>by
  rw[mY hs]
  exact au (h.go M (aQ _) λu aG g1 a b c=>WM b c q _ λg9 a9 b9 c9=>au (aI (au (gN (k.go (M.on b9) (aQ _) λxs bH g2 a2 b2 c2=>aI (.of ((a.le_trans a9).le_trans a2) b2 (.cons (c9.mono a2.z a2.cs) c2)))))))⟩
theorem ij(h:uu w K mg mb n a vs s.mem v m'):oW w K mg mb n a vs s v {s with mem:=m'}:=⟨h.1,λF g σ A ys Ba hA H hd=>
 ka (h.2 (nu F g.ρ g.om) _ _ _ _ σ A ys Ba hA H.half hd) λr σ' h=>by
  refine h _ λy e z' ρ' aV fo h1 h2 h3 h4=>?_
  exact H.back h1 h2 h3 _ λg' b1 b2 b3 b4 Q_ k_=>k_ y g' e b1 b4 (b2▸b3▸h4)⟩
theorem Kw(H:Full w F s g [] σ)(hz:Z.le g.z z1)(B:dN w (nu F g.ρ []) m z1 fb dE zq σ')(d:Den w z1 dE v y)(q:deep 20 v m=U (v',m'))(e:r=.ok (.ret y)):Rn w F s g v' r σ':=by
 refine MA 20 _ _ _ _ q _ _ _ _ _ _ _ B d _ λz2 Qr HN c1 c2 c3 c4=>?_
 exact H.Kj (Z.le_trans hz c1) c2 _ λg' b1 b2 b3 b4 Q_ k_=>k_ y g' e b1 b4 (b2▸c3.free c4)
theorem A7(hf:V.bI vs=J)(h:uu w K mg mb n a vs [] v m)(q2:deep 20 v m=U (v',m')):oW w K mg mb n a vs s v' s:=⟨h.1,λF g σ A ys Ba hA H hd=>
 ka (h.2 (nu F g.ρ []) _ _ _ _ σ A ys Ba hA H.apart (hd.free hf)) λr σ' h=>by
  exact h _ λy e z' ρ' aV fo h1 h2 h3 h4=>Kw H h1 h3 h4 q2 e⟩
theorem Ly(hA:cJ (n+1) A)(c:Nat)(ys:List ae):cJ n (A.under (.builtin "type.__call__" ⟨.ref c::ys,[]⟩)):=
 have up:∀{a k i:Nat},1<=i->a+1+k<=a+(k+i):=λ{a k i} h=>bf (eA (qE a 1 k)) (bf (eA (j9 a k 1)) (gd (gd h k) a))
 ⟨hA.handled,bq (up (by decide)) hA.depth,bq (up (by decide)) hA.units⟩
theorem af3(O:yI K c k)(h:uu w K mg mb n k.init (.cell s.mem.length::vs) (s.mem++[.inst c [] []]) .none m'):oW w K mg mb (n+1) c vs s (.cell s.mem.length) {s with mem:=m'}:=⟨O.keep,λF g σ A ys Ba hA H hd=>by
 have X:K.In σ.heap:=Ba.k.keeps H.hb
 refine(H.half.made (σ':={σ with heap:=(σ.heap.push emptyDict).push (kj c σ.heap.objs.size)}) c rfl rfl rfl).elim λfb H1=>H1.elim λzq H1=>?_
 have hl:=H.mem.length
 refine make_core (makes_of X O.makes) (looks_findIn X O.init) (λself=>bind_fn X self O.initfn) (.inl rfl) (ka (h.2 (nu F g.ρ g.om) _ _ _ _ _ _ _ Ba (Ly hA _ _) H1 (.cons (.cell (hl▸DI (bz _))) (hd.mono (Z.le_refl _) (u4 _ _)))) λr σ' hr=>K9 hr λz' ρ' aV fo h1 h2 h3=>?_)
 exact H.back h1 (Uk h2) h3 _ λg' b1 b2 b3 b4 Q_ k_=>k_ _ g' rfl b1 b4 (.cell (b3▸hl▸DI h2))⟩
theorem aaN(O:yI K c k)(hf:V.bI vs=J)(h:uu w K mg mb n k.init (.cell 0::vs) [.inst c [] []] .none m)(q2:deep 20 (.cell 0) m=U (v,m')):oW w K mg mb (n+1) c vs s v s:=⟨O.keep,λF g σ A ys Ba hA H hd=>by
 have X:K.In σ.heap:=Ba.k.keeps H.hb
 refine(H.apart.made (σ':={σ with heap:=(σ.heap.push emptyDict).push (kj c σ.heap.objs.size)}) c rfl rfl rfl).elim λfb H1=>H1.elim λzq H1=>?_
 exact make_core (makes_of X O.makes) (looks_findIn X O.init) (λself=>bind_fn X self O.initfn) (.inl rfl) (ka (h.2 (nu F g.ρ []) _ _ _ _ _ _ _ Ba (Ly hA _ _) H1 (.cons (.cell rfl) ((hd.free hf).mono (Z.le_refl _) (u4 _ _)))) λr σ' hr=>K9 hr λz' ρ' aV fo h1 h2 h3=>
  Kw H h1 h3 (.cell (DI h2)) q2 rfl)⟩
theorem vv(T:eG w K mg mb G)(C:cz w K mg mb cx F)(H:Full w F s g [] σ)(h:dU G cx y s=U (.val v))(hx:∀u',Den w g.z g.cs v u'->u'=u)(k:Q u σ):ax (ar ao w) A (eval (.Name y p) F.env) Q aC σ:=
 KP T C H h λu' hu=>hx u' hu▸k
theorem afX(T:eG w K mg mb G)(hn:dU G cx y s=U (.val (.fn a)))(h:se w K mg mb n cx args s vs s0)(k:oW w K mg mb (n+1) a vs s0 v s'):bJ w K mg mb (n+1) cx (.Call (.Name y p) args [] pos) s (.val v) s':=λF g σ A M=>
 Call_Name rfl (vv T M.C M.H hn (λj d=>d.inv)<|JQ k.1 (h.1 _ _) (h.go M (dm _) λys aG g1 a1 a2 a3=>⟨a2.wX M.C,ka (k.2 F g1 aG A ys M.C.base M.A a2 a3) λr σ' h=>h _ λy g2 e b1 b2 b3=>⟨y,e,(ib b2 b3).le (a1.le_trans b1)⟩⟩))
theorem oW.up(h:oW w K mg mb n a vs s v s'):oW w K mg mb (n+1) a vs s v s':=⟨h.1,λF g σ A ys Ba hA=>h.2 F g σ A ys Ba hA.three⟩
theorem rBi(T:eG w K mg mb G){f:af}{p pos:aY}{id:String}{args:List ai}{rs:List R}{r:R}(hn:dU G cx f s=U (.val (.bi id)))(h:mJ w K mg mb n cx args s rs s')(q1:vU s' rs=U vs)(q2:AY id vs=U r):bJ w K mg mb (n+1) cx (.Call (.Name f p) args [] pos) s r s':=λF g σ A M=>
 Call_Name rfl (vv T M.C M.H hn (λj d=>d.inv)<|callWith_builtin (h.1 _ _) (uU (h.1 _ _) (h.go M (dm _) λys aG g1 a1 a2 a3=>aW (Ul M.A a2 (Lr a2 q1 a3) q2) λj j e=>e.le a1)))
theorem rTy(T:eG w K mg mb G){f:af}{p pos:aY}{id:String}{args:List ai}{rs:List R}{r:R}(hn:dU G cx f s=U (.val (.ty id)))(h:mJ w K mg mb n cx args s rs s')(q1:vU s' rs=U vs)(q2:BO id vs=U r):bJ w K mg mb (n+1) cx (.Call (.Name f p) args [] pos) s r s':=λF g σ A M=>
 Call_Name rfl (vv T M.C M.H hn (λj d=>d.inv)<|I6 (h.1 _ _) (uU (h.1 _ _) (h.go M (dm _) λys aG g1 a1 a2 a3=>aW (WZ M.C.base M.A a2 (Lr a2 q1 a3) q2) λj j e=>e.le a1)))
end
end
section
section
variable {w:aE}{K:aS}{mg mb:af->Option ae}{F:Fm}{s s' s0 s1 s2:S}{g g':Gh}{x:List ag}{σ σ':aw}{A:bj}{cx:Cx}{n:Nat}{G:bR}
def HeldAt(w:aE)(F:Fm)(xs:List V)(st:List V->S)(g:Gh)(σ:aw)(y:ae):Prop:=∀C:Prop,(∀(p:ag) (us:Array ae) (k:Nat) (e0:y=.ref p) (e1:σ.heap.get? p=U (bg us k)) (e2:aF w g.z g.cs xs us.toList) (e3:us.size<=bQ) (e4:∀iC l4 k' bH,mB p (bg l4 k') σ bH->aF w g.z g.cs iC l4.toList->iC.length<=bQ->Full w F (st iC) {g with ρ:=g.ρ.put p (bg l4 k')} [] bH),C)->C
def Holds(w:aE)(s:S)(r:R)(xs:List V)(st:List V->S):Prop:=∀F g σ y,Full w F s g [] σ->cg w g r y []->HeldAt w F xs st g σ y
theorem Gh.lH:g.le {g with ρ:=g.ρ.put p o}:=⟨Z.le_refl _,bz _,rfl,rfl,rfl⟩
theorem pC(h:cg w g (.var y) u x):lk y g.vl=U u:=(E8 h).1
theorem Nb(q:lk y s.vars=U (.list xs)):Holds w s (.var y) xs λl=>s.set y (.list l):=λF g σ u H h=>
 (AV H q (pC h)).elim λp k=>by
  exact k.2 _ λus m e1 e2 e3 Q_ k_=>k_ p us m k.1 (H.ri _ _ e1) e2 (e2.size▸e3) (λiC l4 k' bH P hL hz=>H.MW q (k.1▸pC h) (λv e=>ay (congrArg Sl.v? e)) P.1 P.2 P.3 P.4 (.list (Z.dp _ _ _) hL hz))
theorem WU(q:s.mem[i]?=U (.list xs)):Holds w s (.val (.cell i)) xs λl=>{s with mem:=s.mem.set i (.list l)}:=λF g σ u H h=>
 (LK rfl (ly h).1).elim λp hc=>by
  exact D5 H q hc.2 _ λus m e1 e2 e3 Q_ k_=>k_ p us m hc.1 (H.ri _ _ e1) e2 (e2.size▸e3) (λiC l4 k' bH P hL hz=>H.EN q hc.2 (λos hm=>have k:=hm.inv.2;k▸⟨.head _,.list (Z.dp _ _ _) hL hz⟩) P.1 P.2 P.3 P.4)
theorem Uj(f:Array ae->Array ae)(e:σ.heap.get? p=U (bg us k)):∃k',mB p (bg (f us) k') σ {σ with heap:=σ.heap.update p (mi f)}:=
 ⟨_,λb ob hb e=>(uF _ _ (mu hb)).trans e,qA (mi f) e rfl,rfl,rfl⟩
theorem VI(h:0<n):seqIndex? 0 n=U 0:=by
 have e:(aJ ((0:Int)<=0)&&aJ ((0:Int)<n))=true:=ak rfl (decide_eq_true (hO.mpr h))
 exact if_pos e
noncomputable def jh(o:ai)(ap pos:aY)(args:List ai):Bool:=qS o&&((ap.endLine==pos.line)&&aJ (args.length<30))
theorem yV(hp:jh o ap pos args=J)(hs:pI args)(h:dF w K mg mb n cx o s r s0)(M:cc w K mg mb cx s F g σ A (n+1))
  (k:∀y aG g1,g.le g1->Full w F s0 g1 [] aG->cg w g1 r y []->ax (ar ao w) A (getMethod y m (do return (<-importBound o F.env).getD J)) (λp kF=>ax (ar ao w) A (sS pos p.1 p.2 (i8 pos (gC args F.env)) []) Q aC kF) aC aG):ax (ar ao w) A (eval (.Call (.Attribute o m ap) args [] pos) F.env) Q aC σ:=
 Vm (bl hp) (bl (aU hp)) (of_decide_eq_true (aU (aU hp))) (hs pos F.env) (h.go M (dm _) k)
theorem OU{o:ai}{m:af}{id:String}{ap pos:aY}{args:List ai}{r:R}{l8:List V->S}{Q:ae->aw->Prop}(hp:jh o ap pos args=J)(hs:pI args)(sl:Slot "list" m id)(ty:typeOf (.builtin id)=pure (.type "method_descriptor"))
  (h:dF w K mg mb n cx o s r s0) (h0:Holds w s0 r uA l8) (M:cc w K mg mb cx s F g σ A (n+1))
  (k:∀p aG g1,g.le g1->Full w F s0 g1 [] aG->cg w g1 r (.ref p) []->ax (ar ao w) A (sS pos (.builtin id) [.ref p] (i8 pos (gC args F.env)) []) Q aC aG):ax (ar ao w) A (eval (.Call (.Attribute o m ap) args [] pos) F.env) Q aC σ:=
 yV hp hs h M λy aG g1 a1 a2 a3=>by
  refine h0 F g1 aG y a2 a3 _ λp us c e0 e1 _ _ _=>?_
  subst e0;exact Vk e1 sl ty (k p aG g1 a1 a2 a3)
theorem A8{st:List V->S}{p:ag}{us:Array ae}{y:ae}{f:Array ae->Array ae}(e1:σ.heap.get? p=U (bg us k))
  (e4:∀iC l4 k' bH,mB p (bg l4 k') σ bH->aF w g.z g.cs iC l4.toList->iC.length<=bQ->Full w F (st iC) {g with ρ:=g.ρ.put p (bg l4 k')} [] bH)
  (hv:Den w g.z g.cs v y) (hz:iC.length<=bQ) (hL:aF w g.z g.cs iC (f us).toList):cO w F g (st iC) (.val v) y {σ with heap:=σ.heap.update p (mi f)}:=
 (Uj f e1).elim λk' P Q_ k_=>k_ _ [] Gh.lH (e4 iC (f us) k' _ P hL hz) (.val hv)
def afZ(w:aE)(F:Fm)(s1:S)(xs:List V)(st:List V->S)(v:V)(g:Gh)(p:ag)(y:ae)(bH:aw):Prop:=∀C:Prop,(∀(g2:Gh) (us:Array ae) (c:Nat) (le:g.le g2) (H:Full w F s1 g2 [] bH) (d:Den w g2.z g2.cs v y) (e1:bH.heap.get? p=U (bg us c)) (e2:aF w g2.z g2.cs xs us.toList) (e3:us.size<=bQ) (e4:∀iC l4 k' jY,mB p (bg l4 k') bH jY->aF w g2.z g2.cs iC l4.toList->iC.length<=bQ->Full w F (st iC) {g2 with ρ:=g2.ρ.put p (bg l4 k')} [] jY),C)->C
theorem Ft{o e:ai}{m:af}{id:String}{ap pos:aY}{r:R}{l8 st:List V->S}{Q:ae->aw->Prop}(hp:jh o ap pos [e]=J)(he:noStar e=J)(sl:Slot "list" m id)(ty:typeOf (.builtin id)=pure (.type "method_descriptor"))
  (h:dF w K mg mb n cx o s r s0) (h0:Holds w s0 r uA l8) (h1:gh w K mg mb n cx e s0 v s1) (h2:Holds w s1 r xs st) (M:cc w K mg mb cx s F g σ A (n+1))
  (k:∀p aG,ax (ar ao w) A (eval e F.env) (afZ w F s1 xs st v g p) aC aG->ax (ar ao w) A (sS pos (.builtin id) [.ref p] [(ah,eval e F.env)] []) Q aC aG):ax (ar ao w) A (eval (.Call (.Attribute o m ap) [e] [] pos) F.env) Q aC σ:=
 OU hp (qJ he λj j=>rfl) sl ty h h0 M λp aG g1 a1 a2 a3=>by
  rw[mY he]
  refine k p aG (h1.go (M.to a2 (aQ _)) (dm _) λy bH g2 b1 b2 b3=>?_)
  refine h2 F g2 bH _ b2 (a3.mono b1) _ λp' us c e0 e1 e2 e3 e4=>?_
  have ep:p=p':=uQ e0
  subst ep
  exact λQ_ k_=>k_ g2 us c (a1.le_trans b1) b2 b3 e1 e2 e3 e4
theorem Zg{o e:ai}{ap pos:aY}{r:R}{l8 st:List V->S}(hp:jh o ap pos [e]=J)(he:noStar e=J)(h:dF w K mg mb n cx o s r s0)(h0:Holds w s0 r uA l8)(h1:gh w K mg mb n cx e s0 v s1)(h2:Holds w s1 r xs st)(hz:xs.length<cG):
  bJ w K mg mb (n+1) cx (.Call (.Attribute o (n! "append") ap) [e] [] pos) s (.val .none) (st (xs++[v])):=λF g σ A M=>
 Ft hp he PySem.F.slot_list_append PySem.F.type_list_append h h0 h1 h2 M λp aG k=>P.append_list (aW k λy bH k=>by
  exact k _ λg2 us c le H d e1 e2 e3 e4=>⟨us,c,e3,e1,(A8 e1 e4 .none (by rw[aX];exact bf hz (by decide)) (by rw[xr];exact e2.append (.cons d .nil))).le le⟩)
theorem aaD{o e:ai}{ap pos:aY}{r:R}{l8 st:List V->S}(hp:jh o ap pos [e]=J)(he:noStar e=J)(h:dF w K mg mb n cx o s r s0)(h0:Holds w s0 r uA l8)(h1:gh w K mg mb n cx e s0 (.list ys) s1)(h2:Holds w s1 r xs st)(hz:xs.length+ys.length<=cG):
  bJ w K mg mb (n+1) cx (.Call (.Attribute o (n! "extend") ap) [e] [] pos) s (.val .none) (st (xs++ys)):=λF g σ A M=>
 Ft hp he PySem.F.slot_list_extend PySem.F.type_list_extend h h0 h1 h2 M λp aG k=>P.extend_list (aW k λy bH k=>by
  refine k _ λg2 us c le H d e1 e2 e3 e4=>?_
  refine(bw.den d).isList H.zi _ λb pb k2 f0 f1 f2 f3=>?_
  have qo:us.size+pb.size<=sizeLine:=e2.size▸f2.size▸bf hz (by decide)
  exact⟨b,us,pb,c,k2,e3,sC qo,extend_door qo,f0,e1,f1,(A8 e1 e4 .none (by rw[aX];exact bf hz (by decide)) (by rw[Dg];exact e2.append f2)).le le⟩)
theorem ahO{o:ai}{ap pos:aY}{r:R}{st:List V->S}(hp:jh o ap pos []=J)(h:dF w K mg mb n cx o s r s0)(h0:Holds w s0 r xs st)(q:xs.getLast?=U v):
  bJ w K mg mb (n+1) cx (.Call (.Attribute o (n! "pop") ap) [] [] pos) s (.val v) (st xs.dropLast):=λF g σ A M=>
 OU hp (λj j=>rfl) Sq So h h0 M λp aG g1 a1 a2 a3=>by
  refine h0 F g1 aG _ a2 a3 _ λp' us c e0 e1 e2 e3 e4=>?_
  have ep:p=p':=uQ e0
  subst ep
  refine(e2.get (List.getLast?_eq_getElem?▸q)).elim λy k=>?_
  refine P.pop_list e1 (by rw[<-dG,<-e2.size];exact k.1) ((A8 e1 e4 k.2 (by rw[SA];exact bf (qP _ _) (e2.size▸e3)) ?_).le a1) e3
  rw[RQ,<-List.eraseIdx_length_sub_one,e2.size]
  exact e2.eraseIdx _
theorem afh{o e:ai}{ap pos:aY}{r:R}{l8 st:List V->S}(hp:jh o ap pos [e]=J)(he:noStar e=J)(h:dF w K mg mb n cx o s r s0)(h0:Holds w s0 r uA l8)(h1:gh w K mg mb n cx e s0 (.int 0) s1)(h2:Holds w s1 r (v::xs) st):
  bJ w K mg mb (n+1) cx (.Call (.Attribute o (n! "pop") ap) [e] [] pos) s (.val v) (st xs):=λF g σ A M=>
 Ft hp he Sq So h h0 h1 h2 M λp aG k=>P.pop_at_list (aW k λy bH k=>by
  refine k _ λg2 us c le H d e1 e2 e3 e4=>?_
  refine d.inv.elim λt ht=>(e2.get (i:=0) rfl).elim λy1 k=>?_
  have e5:us[0]?=U y1:=dG.symm.trans k.1
  exact⟨us,c,0,t,0,y1,e3,ht,e1,rfl,VI (sj.mp e5).1,e5,(A8 e1 e4 k.2 (bf (dm _) (show(v::xs).length<=bQ from e2.size▸e3)) (by rw[RQ];exact e2.eraseIdx 0)).le le⟩)
theorem aaz(h:yK w z cs .none y r):Den w z cs (r.getD .none) y:=by
 induction r with
 |some v=>exact h
 |none=>exact(show y=.none from h)▸.none
theorem XY(h:yK w z cs u y r)(hd:Den w z cs d u):Den w z cs (r.getD d) y:=by
 induction r with
 |some v=>exact h
 |none=>exact(show y=u from h)▸hd
theorem O9(hp:jh o ap pos args=J)(hs:pI args)(h:dF w K mg mb n cx o s (.val v) s0)(h0:s0.view v=U (.dict wO Rp))(M:cc w K mg mb cx s F g σ A (n+1))
  (k:∀p aG g1,g.le g1->Full w F s0 g1 [] aG->Den w g1.z g1.cs v (.ref p)->(p==kf)=ah->ax (ar ao w) A (sS pos (.builtin "dict.get") [.ref p] (i8 pos (gC args F.env)) []) Q aC aG):ax (ar ao w) A (eval (.Call (.Attribute o (n! "get") ap) args [] pos) F.env) Q aC σ:=
 yV hp hs h M λy aG g1 a1 a2 a3=>by
  have d:=(ly a3).1
  refine(vw a2 d h0).tm a2.zi _ λp es m e0 e1 e2 e3 e4 e5=>?_
  subst e0;exact Vz e1 PySem.F.slot_dict_get PySem.F.type_dict_get (k p aG g1 a1 a2 d e4)
theorem OA{p:ag}{u dflt:ae}{Q:ae->aw->Prop}(H:Full w F s g [] σ)(hv:Den w g.z g.cs v (.ref p))(h2:s.view v=U (.dict ks ws))(hk:Den w g.z g.cs k u)
  (h:∀y t,yK w g.z g.cs dflt y ((dJ k ks).bind λi=>ws[i]?)->Q y {σ with toks:=t}):Gn w k ks p σ u dflt Q:=λQ_ k_=>k_ g.z g.cs ws H.zi ((vw H hv h2).tm H.zi) hk h
theorem aeZ(hp:jh o ap pos [e]=J)(he:noStar e=J)(h:dF w K mg mb n cx o s (.val v) s0)(h0:s0.view v=U (.dict wO Rp))(h1:gh w K mg mb n cx e s0 k s')
  (h2:s'.view v=U (.dict ks ws)) (hk:dz k ks=J) (q:gs k ks ws=U r):bJ w K mg mb (n+1) cx (.Call (.Attribute o (n! "get") ap) [e] [] pos) s (.val (r.getD .none)) s':=λF g σ A M=>
 O9 hp (qJ he λj j=>rfl) h h0 M λp aG g1 a1 a2 a3 hs=>by
  rw[mY he,<-aA q]
  exact(tC hk).get1 M.A.rF hs (h1.go (M.to a2 (aQ _)) (dm _) λu bH g2 b1 b2 b3=>OA b2 (a3.mono b1.z b1.cs) h2 b3 λy t hy=>(ib (b2.toks t) (aaz hy)).le (a1.le_trans b1))
theorem aeA(hp:jh o ap pos [e,e2]=J)(he:noStar e=J)(CT:noStar e2=J)(h:dF w K mg mb n cx o s (.val v) s0)(h0:s0.view v=U (.dict wO Rp))(h1:gh w K mg mb n cx e s0 k s1)(h3:gh w K mg mb n cx e2 s1 d s')
  (h2:s'.view v=U (.dict ks ws)) (hk:dz k ks=J) (q:gs k ks ws=U r):bJ w K mg mb (n+1) cx (.Call (.Attribute o (n! "get") ap) [e,e2] [] pos) s (.val (r.getD d)) s':=λF g σ A M=>
 O9 hp (qJ he (qJ CT λj j=>rfl)) h h0 M λp aG g1 a1 a2 a3 hs=>by
  rw[mY he,mY CT,<-aA q]
  exact(tC hk).get2 M.A.rF hs (h1.go (M.to a2 (aQ _)) (dm _) λu bH g2 b1 b2 b3=>h3.go (M.to b2 (aQ _)) (dm _) λu2 jY g3 c1 c2 c3=>
   OA c2 ((a3.mono b1.z b1.cs).mono c1.z c1.cs) h2 (b3.mono c1.z c1.cs) λy t hy=>(ib (c2.toks t) (XY hy c3)).le (a1.le_trans (b1.le_trans c1)))
theorem ad6(T:eG w K mg mb G)(hp:jh o ap pos args=J)(h:dF w K mg mb n cx o s (.val v) s0)(q0:s0.view v=U (.inst c ns ws))(qc:G.cls c=U k)
  (ql:lk m (ns.zip ws)=aj) (qm:lk m k.meths=U a) (h1:se w K mg mb n cx args s0 vs s1) (h2:oW w K mg mb n a (v::vs) s1 u s'):bJ w K mg mb (n+1) cx (.Call (.Attribute o m ap) args [] pos) s (.val u) s':=λF g σ A M=>
 yV hp h1.1 h M λy aG g1 a1 a2 a3=>by
  have k1:=(T.cls c k qc).yV m a qm
  have dv:=(ly a3).1
  refine(vw a2 dv q0).Od a2.zi _ λb d es m2 e0 e1 e2 e3 e4=>?_
  subst e0
  refine method_fn (a2.wX M.C) (E4 e1 e2) (plainGet_of k1.1).1 (plainGet_of k1.1).2 k1.2.1 (beq_iff_eq.mp k1.2.2) (by show(lookIn m (dictOf es.toList m2)).map _=_;rw[lookIn_dict,Kx e3 ql];rfl) ?_
  exact JQ h2.1 (h1.1 _ _) (h1.go (M.to a2 (aQ _)) (dm _) λys bH g2 b1 b2 b3=>⟨b2.wX M.C,ka (h2.2 F g2 bH A (.ref b::ys) M.C.base M.A.three b2 (.cons (dv.mono b1.z b1.cs) b3)) λr σ' h=>
   h _ λy g3 e c1 c2 c3=>⟨y,e,(ib c2 c3).le ((a1.le_trans b1).le_trans c1)⟩⟩)
end
end
section
section
variable (w:aE)(K:aS)(mg mb:af->Option ae)(n:Nat)
def qj(cx:Cx)(t:ai)(r:R)(s s':S):Prop:=∀F g x σ A y,cz w K mg mb cx F->cJ n A->Full w F s g x σ->cg w g r y x->ax (ar ao w) A (assign t F.env y) (λj=>gg w F g s') aC σ
def afn(w:aE)(F:Fm)(ks vs:List V)(st:List V->List V->S)(g:Gh)(σ:aw)(y:ae):Prop:=∀C:Prop,(∀(p:ag) (e0:y=.ref p) (e1:iK w σ.heap.get? g.z g.cs ks vs (.ref p)) (e4:∀cH bM eL m' bH,mB p (cB eL m') σ bH->cn w g.z g.cs cH bM eL.toList->cH.Nodup->cH.length<=bQ->Full w F (st cH bM) {g with ρ:=g.ρ.put p (cB eL m')} [] bH),C)->C
def yC(w:aE)(s:S)(r:R)(ks vs:List V)(st:List V->List V->S):Prop:=∀F g σ y,Full w F s g [] σ->cg w g r y []->afn w F ks vs st g σ y
structure zc(cx:Cx)(ke:List (Option ai))(ve:List ai)(s:S)(ps:List (V×V))(s':S):Prop where
 all:ke.all (·.isSome)=J
 len:ke.length=ve.length
 num:ps.length=ke.length
 run:∀pos F g σ A,cc w K mg mb cx s F g σ A n->ax (ar ao w) A (evalPairs (pairTrees ke ve F.env pos)) (vL w F s' g ps) aC σ
end
section
variable {w:aE}{K:aS}{mg mb:af->Option ae}{F:Fm}{s s' s0 s1 s2:S}{g g':Gh}{x:List ag}{σ σ':aw}{A:bj}{cx:Cx}{n:Nat}{G:bR}
theorem yH.at(k:yH w ρ z cs ks vs p)(hr:∀b o,ρ b=U o->σ.heap.get? b=U o):iK w σ.heap.get? z cs ks vs (.ref p)/\(p==kf)=false:=by
 exact k _ λes m h d hn l=>⟨λQ_ k_=>k_ p es m rfl (hr _ _ h) d hn.1 hn.2 l,hn.2⟩
theorem WX(q:lk y s.vars=U (.dict ks vs)):yC w s (.var y) ks vs λa b=>s.set y (.dict a b):=λF g σ u H h=>
 (Be H q).elim λu' k=>k.elim λo k=>(k.2.inv:∃p,_).elim λp d=>by
  have e:u=.ref p:=(aA (k.1.symm.trans (pC h))).symm.trans d.1
  have dd:=d.2.1.at H.ri
  exact λQ_ k_=>k_ p e dd.1 (λcH bM eL m' bH P hL hn hz=>H.MW q (e▸pC h) (λv e=>ay (congrArg Sl.v? e)) P.1 P.2 P.3 P.4 (.dict (Z.dp _ _ _) hL ⟨hn,dd.2⟩ hz))
theorem Wg(q:s.mem[i]?=U (.dict ks vs)):yC w s (.val (.cell i)) ks vs λa b=>{s with mem:=s.mem.set i (.dict a b)}:=λF g σ u H h=>
 (LK rfl (ly h).1).elim λp hc=>by
  refine H.mem.get q _ λp' o1 o2 o3 f1 f2 f3 f4=>?_
  have d:=(aA (f1.symm.trans hc.2)▸f2.inv.1:yH w g.ρ g.z g.cs ks vs p).at H.ri
  exact λQ_ k_=>k_ p hc.1 d.1 (λcH bM eL m' bH P hL hn hz=>H.EN q hc.2 (λos hm=>have k:=hm.inv.2;k▸⟨.head _,.dict (Z.dp _ _ _) hL ⟨hn,d.2⟩ hz⟩) P.1 P.2 P.3 P.4)
theorem adG(q:nt cx y r s=U s'):qj w K mg mb n cx (.Name y p) r s s':=λF g x σ A u C hA H hr=>zQ (vf C H q hr).2
theorem acQ(T:eG w K mg mb G)(q:cellOf r s=U (v,s0))(h:bJ w K mg mb n cx o s0 (.val (.cell i)) s1)(q2:s1.mem[i]?=U (.inst c ns vs))(q3:G.cls c=U k)(hk:k.atts.contains a=J)(hl:ns.length<100):
  qj w K mg mb (n+1) cx (.Attribute o a p) r s {s1 with mem:=s1.mem.set i (.inst c (wV ns vs a v).1 (wV ns vs a v).2)}:=λF g x σ A u C hA H hr=>
 (Ll H hr q).elim λg1 a1 a2 a3=>kas_attr (h.val ⟨C,hA,a2⟩ (dm _) λy aG g2 b1 b2 b3=>b3.inv.elim λb hb=>
  hb.2▸aW (UL T C hA b2 q2 hb.1 q3 (xk.mp hk) hl (a3.mono b1.z b1.cs)) λj j e=>e.le (a1.le_trans b1).ext)
theorem Pb(q:s.nJ r=U (v,s0))(h:dF w K mg mb n cx o s0 b s1)(h1:gh w K mg mb n cx i s1 k s2)
  (fin:∀F g σ A y ku vu,cJ (n+1) A->Full w F s2 g [] σ->cg w g b y []->Den w g.z g.cs k ku->Den w g.z g.cs v vu->ax (ar ao w) A (setItem y ku vu) (λj=>gg w F g s') aC σ):qj w K mg mb (n+1) cx (.Subscript o i p) r s s':=λF g x σ A u C hA H hr=>
 (rp H hr q).elim λg1 a1 a2 a3=>kas_sub (h.go ⟨C,hA,a2⟩ (dm _) λy aG g2 b1 b2 b3=>h1.go ⟨C,hA,b2⟩ (dm _) λku bH g3 c1 c2 c3=>
  aW (fin F g3 bH A y ku u hA c2 (b3.mono c1) c3 ((a3.mono b1.z b1.cs).mono c1.z c1.cs)) λj j e=>e.le ((a1.le_trans b1).le_trans c1).ext)
theorem Uv(q:setAt xs j v=U ys):(0<=j/\j<xs.length)/\xs.set j.toNat v=ys:=have k:=ei (show(if 0<=j/\j<xs.length then U (xs.set j.toNat v) else aj)=U ys from q);⟨k.1,aA k.2⟩
theorem LO{st:List V->S}{y vu:ae}{t:gY}(hd:HeldAt w F xs st g σ y)(q:setAt xs j v=U ys)(hv:Den w g.z g.cs v vu)(hs:st ys=s0):ax (ar ao w) A (setItem y (.int j t) vu) (λx=>gg w F g s0) aC σ:=by
 refine hd _ λp us c e0 e1 e2 e3 e4=>?_
 have k:=Uv q
 rw[e0]
 refine UG e1 k.1.1 (e2.size▸k.1.2) e3 λh' c' he iA=>?_
 rw[<-hs,<-k.2]
 exact λQ_ k_=>k_ _ Gh.lH.ext (e4 _ _ c' {σ with heap:=h'} ⟨iA,he,rfl,rfl⟩ (by rw[Array.toList_setIfInBounds];exact e2.set _ hv) (by rw[sF,e2.size];exact e3))
theorem adw{o i:ai}{p:aY}{r b:R}{st:List V->S}(q:s.nJ r=U (v,s0))(h:dF w K mg mb n cx o s0 b s1)(h1:gh w K mg mb n cx i s1 (.int j) s2)(h2:Holds w s2 b xs st)(q5:setAt xs j v=U ys):
  qj w K mg mb (n+1) cx (.Subscript o i p) r s (st ys):=Pb q h h1 λF g σ A y ku vu hA H hb hk hv=>hk.inv.elim λt ht=>ht▸LO (h2 F g σ y H hb) q5 hv rfl
theorem acB{o i:ai}{p:aY}{r b:R}{st:List V->List V->S}(q:s.nJ r=U (v,s0))(h:dF w K mg mb n cx o s0 b s1)(h1:gh w K mg mb n cx i s1 k s2)(h2:yC w s2 b ks vs st)(hk:dz k ks=J)(hz:ks.length<cG)(q5:dput k v ks vs=U (cH,bM)):
  qj w K mg mb (n+1) cx (.Subscript o i p) r s (st cH bM):=Pb q h h1 λF g σ A y ku vu hA H hb hku hv=>by
 refine h2 F g σ y H hb _ λpa e0 e1 e4=>?_
 rw[e0]
 refine(tC hk).put (it:=J) hA.rF H.zi e1 q5 hku hv λh' t eL m' iA he mN kY=>?_
 have hl:cH.length<=sizeLine:=bf (EF q5) (bf hz (by decide))
 exact λQ_ k_=>k_ _ Gh.lH.ext (e4 cH bM eL m' {σ with heap:=h',toks:=t} ⟨iA,he,rfl,rfl⟩ mN kY hl)
theorem afg:zc w K mg mb n cx [] [] s [] s:=⟨rfl,rfl,rfl,λj j j j j M=>evalPairs_nil (λQ_ k_=>k_ _ (Gh.le_refl _) M.H .nil)⟩
theorem adq(h:gh w K mg mb n cx k s a s0)(h1:gh w K mg mb n cx v s0 b s1)(h2:zc w K mg mb n cx ke ve s1 ps s'):zc w K mg mb n cx (U k::ke) (v::ve) s ((a,b)::ps) s':=
 ⟨ak rfl h2.all,congrArg (·+1) h2.len,congrArg (·+1) h2.num,λpos F g σ A M=>
  evalPairs_cons (h.go M (aQ _) λku aG g1 a1 a2 a3=>au (h1.go (M.on a2) (aQ _) λvu bH g2 b1 b2 b3=>au (wpAny_standAt (aI (aW (h2.run pos F g2 bH A (M.on b2)) λvals jY h3=>by
   exact h3 _ λg3 c1 c2 c3 Q_ k_=>k_ g3 ((a1.le_trans b1).le_trans c1) c2 (.cons ((a3.mono b1.z b1.cs).mono c1.z c1.cs) (b3.mono c1.z c1.cs) c3))))))⟩
theorem cc.no(M:cc w K mg mb cx s F g σ A n):(σ.heap.objs.size==kf)=false:=M.C.base.low M.H.hb (aQ _)
theorem ach:bJ w K mg mb n cx (.Dict [] [] pos) s (.dict [] []) s:=λF g σ A M=>
 wpAny_Dict_empty (λQ_ k_=>k_ _ _ Gh.lH (M.H.alloc (cB #[] 0) rfl rfl rfl rfl) (cg.dict (Z.dp _ _ _) .nil ⟨nU,M.no⟩ (eO _)))
theorem KQ(M:cc w K mg mb cx s F g σ A (n+1))(hall:ke.all (·.isSome)=J)(hl:ke.length=ve.length)(h0:ke≠[])(QG:ke.length<=15)(hp:ps.length<=ke.length)(q1:nX ps [] []=U (ks,vs))
  (h:∀ρ x g' σ',cz w K mg mb cx (gH F ρ x)->Full w (gH F ρ x) s g' [] σ'->ax (ar ao w) A (evalPairs (pairTrees ke ve F.env pos)) (vL w (gH F ρ x) s' g' ps) aC σ'):ax (ar ao w) A (eval (.Dict ke ve pos) F.env) (cO w F g s' (.dict ks vs)) aC σ:=by
 have H1:=M.H.alloc (σ':={σ with heap:=σ.heap.push (cB #[] 0)}) (cB #[] 0) rfl rfl rfl rfl
 refine wpAny_Dict_any hall hl h0 QG (aW (h _ _ _ _ (M.C.gH _ _) H1.Fo) λvals aG h1=>?_)
 refine h1 _ λg1 a1 a2 a3=>?_
 refine aW (VY M.A.rF M.no ps (H1.AM a2) (D8 (vB (.head _)) (Z.dp _ _ _)) .nil nU (bf (eA (fx _)) (bf hp (bf QG (by decide)))) a3 q1) λj bH h2=>?_
 exact h2 _ λg3 es3 m3 c1 c2 c3 c4 c5 c6 Q_ k_=>k_ g3 _ ⟨Z.le_trans a1.z c1.z,kh a1.cs c1.cs,c1.vl.trans a1.vl,c1.cl.trans a1.cl,c1.tv.trans a1.tv⟩ c2 (.dict c3 c4 ⟨c5,M.no⟩ c6)
theorem aek(h0:ke≠[])(hl:ke.length<=15)(h:zc w K mg mb n cx ke ve s ps s')(q1:nX ps [] []=U (ks,vs)):bJ w K mg mb (n+1) cx (.Dict ke ve pos) s (.dict ks vs) s':=λF g σ A M=>
 KQ M h.all h.len h0 hl (eA h.num) q1 fun ρ x g' σ' C H=>h.run pos (gH F ρ x) g' σ' A ⟨C,M.A.three,H⟩
end
end
section
structure yB(t:ai):Prop where
 each:∀ts env,qN (t::ts) env=(ah,assign t env)::qN ts env
 swap:∀e env,uP [t] e env=pure aj
def Turn(more:S->Prop)(fl:Fl)(s':S)(f:Fl)(s2:S):Prop:=match f with
 |.next=>more s2
 |.cont=>more s2
 |.brk=>fl=.next/\s'=s2
 |.ret v=>fl=.ret v/\s'=s2
section
variable (w:aE)(K:aS)(mg mb:af->Option ae)(n:Nat)
structure rY(cx:Cx)(ts:List ai)(vs:List V)(s s':S):Prop where
 len:∀env,(qN ts env).length=vs.length
 star:∀env,(qN ts env).findIdx? (·.1)=aj
 run:∀F g σ A ys,cc w K mg mb cx s F g σ A n->aF w g.z g.cs vs ys->ax (ar ao w) A (xH ((qN ts F.env).map (·.2)) ys) (λj=>gg w F g s') aC σ
def wR(cx:Cx)(p:Bool)(t:ai)(v:V)(s s':S):Prop:=∀F g σ A y,cc w K mg mb cx s F g σ A n->js w g σ.heap p v y->ax (ar ao w) A (assign t F.env y) (λj=>gg w F g s') aC σ
def fN(cx:Cx)(b:br)(s:S)(fl:Fl)(s':S):Prop:=∀F g σ A,cc w K mg mb cx s F g σ A n->ax (ar ao w) A (exec b F.env) (ky w F g s' fl) aC σ
def nK(cx:Cx)(b:List br)(s:S)(fl:Fl)(s':S):Prop:=∀F g σ A,cc w K mg mb cx s F g σ A n->ax (ar ao w) A (execs b F.env) (ky w F g s' fl) aC σ
inductive Oy(cx:Cx)(it:It)(t:ai)(b:List br)(fl:Fl)(s':S)(more:S->Prop)(i:Nat)(s:S):Prop
 |stop (q:it.at i s=U aj) (e:fl=.next) (e2:s'=s)
 |item (v:V) (s1:S) (f:Fl) (s2:S) (q:it.at i s=U (U v)) (hb:wR w K mg mb (n+1) cx it.pair t v s s1) (hx:nK w K mg mb n cx b s1 f s2) (ht:Turn more fl s' f s2)
def l6(cx:Cx)(it:It)(t:ai)(b:List br)(fl:Fl)(s':S):Nat->Nat->S->Prop
 |0,_,_=>False
 |m+1,i,s=>Oy w K mg mb n cx it t b fl s' (l6 cx it t b fl s' m (i+1)) i s
inductive Oh(cx:Cx)(t:ai)(b:List br)(fl:Fl)(s':S)(more:S->Prop)(s:S):Prop
 |stop (h:fL w K mg mb n cx t s ah s') (e:fl=.next)
 |turn (s1:S) (f:Fl) (s2:S) (h:fL w K mg mb n cx t s J s1) (hx:nK w K mg mb n cx b s1 f s2) (ht:Turn more fl s' f s2)
def uf(cx:Cx)(t:ai)(b:List br)(fl:Fl)(s':S):Nat->S->Prop
 |0,_=>False
 |m+1,s=>Oh w K mg mb n cx t b fl s' (uf cx t b fl s' m) s
def WhI(cx:Cx)(t:ai)(b:List br)(fl:Fl)(s':S)(F:Fm)(g:Gh)(m:Nat)(σ:aw):Prop:=∀C:Prop,(∀(s1:S) (g1:Gh) (le:g.ext g1) (h:uf w K mg mb n cx t b fl s' m s1) (H:Full w F s1 g1 [] σ),C)->C
end
section
variable {w:aE}{K:aS}{mg mb:af->Option ae}{F:Fm}{s s' s0 s1 s2:S}{g g':Gh}{x:List ag}{σ σ':aw}{A:bj}{cx:Cx}{n:Nat}{G:bR}
theorem aeX:rY w K mg mb n cx [] [] s s:=⟨λj=>rfl,λj=>rfl,λF g σ A ys M h=>by rw[iF h];exact assignInOrder_nil (λQ_ k_=>k_ g g.qX M.H)⟩
theorem K4{a:ae->Sem Unit}{l:List (Bool×(ae->Sem Unit))}(h:l.findIdx? (·.1)=aj):((ah,a)::l).findIdx? (·.1)=none:=by rw[qD,h];rfl
theorem ado{t:ai}{ts:List ai}(hp:yB t)(h:qj w K mg mb n cx t (.val v) s s1)(k:rY w K mg mb n cx ts vs s1 s'):rY w K mg mb n cx (t::ts) (v::vs) s s':=
 ⟨λenv=>by rw[hp.each];exact congrArg (·+1) (k.len env),λenv=>by rw[hp.each];exact K4 (k.star env),λF g σ A ys M hd=>by
  rw[hp.each]
  exact gB (P:=λys=>ax (ar ao w) A (xH (((ah,assign t F.env)::qN ts F.env).map (·.2)) ys) (λj=>gg w F g s') aC σ) hd λy ys hv hd=>
   zY (aW (h F g [] σ A y M.C M.A M.H (.val hv)) λj aG h1=>by
    exact h1 _ λg1 a1 a2=>aW (k.run F g1 aG A ys (M.on a2) (hd.mono a1.z a1.cs)) λj j e=>e.le a1)⟩
theorem Ml(h:rY w K mg mb n cx ts vs s s')(M:cc w K mg mb cx s F g σ A n)(ht:IsTup σ.heap a us)(hd:aF w g.z g.cs vs us.toList):
  ax (ar ao w) A (assign (.Tuple ts k p) F.env (.ref a)) (λj=>gg w F g s') aC σ:=
 assign_Tuple_tuple M.A.handled ht ((h.len F.env).trans hd.size) (h.star F.env) λh' he=>
  h.run F g _ A us.toList (M.on (M.H.grow (λb o e=>he b o (hJ (gy e)) e) rfl rfl)) hd
theorem Nx(h:rY w K mg mb n cx ts vs s s')(M:cc w K mg mb cx s F g σ A n)(hd:Den w g.z g.cs (.tup vs) y):ax (ar ao w) A (assign (.Tuple ts k p) F.env y) (λj=>gg w F g s') aC σ:=by
 exact hd.inv _ λa us m e0 e1 e2 e3=>e0▸Ml h M (pq (M.H.zi _ _ e1)) e2
theorem ab0(q:nt cx z (.val v) s=U s'):wR w K mg mb n cx ah (.Name z p) v s s':=λF g σ A y M hd=>zQ (vf M.C M.H q (.val hd)).2
theorem afj(h:rY w K mg mb n cx ts vs s s'):wR w K mg mb n cx b (.Tuple ts k p) (.tup vs) s s':=λF g σ A y M hd=>by
 induction b with
 |true=>
  exact(show tB w g σ.heap (.tup vs) y from hd) _ λa us bM e1 e2 ht hd=>e2▸Ml h M ht (V.tup.inj e1▸hd)
 |false=>exact Nx h M hd
theorem tM:nK w K mg mb n cx [] s .next s:=λF g σ A M=>wpAny_execs_nil (λQ_ k_=>k_ g g.qX M.H .next)
theorem aea:fN w K mg mb n cx (.Pass p) s .next s:=λF g σ A M=>wpAny_Pass (λQ_ k_=>k_ g g.qX M.H .next)
theorem ab4:fN w K mg mb n cx (.Break p) s .brk s:=λF g σ A M=>wpAny_Break (λQ_ k_=>k_ g g.qX M.H .brk)
theorem af5:fN w K mg mb n cx (.Continue p) s .cont s:=λF g σ A M=>wpAny_Continue (λQ_ k_=>k_ g g.qX M.H .cont)
noncomputable def ro(v:ai):Bool:=by
 apply ai.casesOn (motive_1:=λj=>Bool) v
 case ListComp=>exact λa b c d=>ah
 case SetComp=>exact λa b c d=>ah
 case DictComp=>exact λa b c d e=>ah
 all_goals exists J
theorem DN:ro v=J->∀(t:Option ai) (l:Nat) (env:dh),swapsWith v t l env=pure false:=
 ai.casesOn (motive_1:=λv=>ro v=J->∀(t:Option ai) (l:Nat) (env:dh),swapsWith v t l env=pure ah) v (λa b c=>(λj j j j=>rfl)) (λa b c=>(λj j j j=>rfl)) (λa b c d=>(λj j j j=>rfl)) (λa b c=>(λj j j j=>rfl)) (λa b c d=>(λj j j j=>rfl)) (λa b c d=>(λj j j j=>rfl)) (λa b c=>(λj j j j=>rfl)) (λa b c=>(λj j j j=>rfl)) (λa b c d=>bo) (λa b c d=>bo) (λa b c d e=>bo) (λa b c d=>(λj j j j=>rfl)) (λa b=>(λj j j j=>rfl)) (λa b=>(λj j j j=>rfl)) (λa b=>(λj j j j=>rfl)) (λa b c d=>(λj j j j=>rfl)) (λa b c d=>(λj j j j=>rfl)) (λa b c d=>(λj j j j=>rfl)) (λa b=>(λj j j j=>rfl)) (λa b c=>(λj j j j=>rfl)) (λa b c=>(λj j j j=>rfl)) (λa b c=>(λj j j j=>rfl)) (λa b=>(λj j j j=>rfl)) (λa b=>(λj j j j=>rfl)) (λa b=>(λj j j j=>rfl)) (λa b c=>(λj j j j=>rfl)) (λa b c d=>(λj j j j=>rfl))
theorem afc(hs:ro e=J)(h:bJ w K mg mb n cx e s (.val v) s'):fN w K mg mb n cx (.Expr e p) s .next s':=λF g σ A M=>
 wpAny_Expr_any (h.val M (aQ _) λy aG g1 a b c Q_ k_=>k_ g1 a.ext b .next) M.C.interactive (DN hs _ _ _)
theorem Rj(h:fL w K mg mb n cx t s J s1)(k:nK w K mg mb n cx b s1 fl s'):fN w K mg mb n cx (.If t b o p) s fl s':=λF g σ A M=>
 wpAny_If (h.go M (aQ _) λaG g1 a b=>aW (k F g1 aG A (M.on b)) λj j e=>e.ext a.ext)
theorem ael(h:fL w K mg mb n cx t s ah s1)(k:nK w K mg mb n cx o s1 fl s'):fN w K mg mb n cx (.If t b o p) s fl s':=λF g σ A M=>
 wpAny_If (h.go M (aQ _) λaG g1 a b=>aW (k F g1 aG A (M.on b)) λj j e=>e.ext a.ext)
theorem agv(h:gh w K mg mb n cx e s v s'):fN w K mg mb n cx (.Return (U e) p) s (.ret v) s':=λF g σ A M=>wpAny_Return_some (h.go M (aQ _) λy aG g1 a b c Q_ k_=>k_ g1 a.ext b (.ret c))
theorem ae2:fN w K mg mb n cx (.Return aj p) s (.ret .none) s:=λF g σ A M=>wpAny_Return_none (λQ_ k_=>k_ g g.qX M.H (.ret .none))
theorem agA(ht:yB t)(hs:ro e=J)(h:bJ w K mg mb n cx e s r s1)(k:qj w K mg mb (n+1) cx t r s1 s'):fN w K mg mb (n+1) cx (.Assign [t] e p) s .next s':=λF g σ A M=>
 wpAny_Assign_stores (h.go M (dm _) λv aG g1 x1 a1 a2 a3=>by
  rw[ht.each]
  exact aW (k F g1 x1 aG A v M.C M.A a2 a3) λj j e=>(e.le a1.ext).toX) (DN hs _ _ _) (ht.swap _ _)
theorem Uz:vE v=ah->∀env:dh,uP [.Tuple ts k p] v env=pure none:=
 ai.casesOn (motive_1:=λv=>vE v=ah->∀env:dh,uP [.Tuple ts k p] v env=pure aj) v (λa b c=>(λj j=>rfl)) (λa b c=>(λj j=>rfl)) (λa b c d=>(λj j=>rfl)) (λa b c=>(λj j=>rfl)) (λa b c d=>(λj j=>rfl)) (λa b c d=>(λj j=>rfl)) (λa b c=>(λj j=>rfl)) (λa b c=>(λj j=>rfl)) (λa b c d=>(λj j=>rfl)) (λa b c d=>(λj j=>rfl)) (λa b c d e=>(λj j=>rfl)) (λa b c d=>(λj j=>rfl)) (λa b=>(λj j=>rfl)) (λa b=>(λj j=>rfl)) (λa b=>(λj j=>rfl)) (λa b c d=>(λj j=>rfl)) (λa b c d=>(λj j=>rfl)) (λa b c d=>(λj j=>rfl)) (λa b=>(λj j=>rfl)) (λa b c=>(λj j=>rfl)) (λa b c=>(λj j=>rfl)) (λa b c=>(λj j=>rfl)) (λa b=>(λj j=>rfl)) (λa b=>(λj j=>rfl)) (λa b=>(λj j=>rfl)) (λa b c=>jk) (λa b c d=>(λj j=>rfl))
theorem aaO(hs:ro e=J)(he:vE e=ah)(h:gh w K mg mb n cx e s (.tup vs) s1)(h2:rY w K mg mb (n+1) cx ts vs s1 s'):fN w K mg mb (n+1) cx (.Assign [.Tuple ts k p1] e p) s .next s':=λF g σ A M=>
 Assign_Tuple (h.go M (dm _) λv aG g1 a1 a2 a3=>aW (Nx h2 (M.on a2) a3) λj j e=>(e.le a1.ext).toX) (DN hs (U (.Tuple ts k p1)) p.line F.env:) (Uz he _)
theorem agK(T:eG w K mg mb G)(q:dU G cx z s=U (.val (.int a)))(h:bJ w K mg mb n cx e s (.val (.int b)) s1)(q2:fg o (.int a) (.int b)=U r)(q3:nt cx z r s1=U s'):fN w K mg mb n cx (.AugAssign (.Name z p1) o e p) s .next s':=λF g σ A M=>
 wpAny_AugAssign_Name (yo T M.C M.H q λv hv j=>(ly hv).1.inv.elim λt ht=>h.val M (aQ _) λu aG g1 a1 a2 a3=>a3.inv.elim λt2 hu=>by
  rw[ht,hu]
  refine aW (Ks q2) λv bH h2=>?_
  refine h2 _ λi tk k e1 e2 e3=>?_
  rw[e2,e3]
  exact aW (vf M.C (a2.toks k) (e1▸q3) (.val (.int _ _))).2 λj j e=>(e.le a1.ext).toX)
theorem fL.Ra(h:fL w K mg mb n cx e s b s')(M:cc w K mg mb cx s F g σ A n)
  (c:∀σ' g',g.le g'->Full w F s' g' [] σ'->Q b σ'):ax (ar ao w) A (isTrue e F.env (eval e F.env)) Q E σ:=
 jn (h F g σ A M) (λd σ' p=>p.1▸p.2.seq λg' a b j=>c σ' g' a b) λj j e=>e.elim
theorem KX{more:S->Prop}{fl f:Fl}{f2:Flow}{P:Flow->Prop}(ht:Turn more fl s' f s2)(hf:kH w g f f2)(next:more s2->N)(out:∀f',s'=s2->kH w g fl f'->P f'):match (generalizing:=false) f2 with
  |.next|.cont=>N
  |.brk=>P .next
  |.ret v=>P (.ret v):=by
 induction hf with
 |next=>exact next ht
 |cont=>exact next ht
 |brk=>exact out _ ht.2 (ht.1▸.next)
 |ret hv=>exact out _ ht.2 (ht.1▸.ret hv)
theorem wy{P:Prop}(h:∀G:Prop,(P->G)->G):P:=h P id
theorem Y4(h:uf w K mg mb n cx t b fl s' m s):∃m',m'<m/\Oh w K mg mb n cx t b fl s' (uf w K mg mb n cx t b fl s' m') s:=by
 induction m with
 |zero=>exact h.elim
 |succ m=>exact⟨m,nT _,h⟩
theorem acR{t:ai}{b:List br}{p:aY}{fl:Fl}{m:Nat}(h:uf w K mg mb n cx t b fl s' m s):fN w K mg mb n cx (.While t b [] p) s fl s':=λF g σ A M=>
 wpAny_While (codeAny_whileLoop (WhI w K mg mb n cx t b fl s' F g) (λm aG hI=>wy λG_ hG=>by
  refine hI _ λs1 g1 le h H=>?_
  refine(Y4 h).elim λm' h=>?_
  cases h.2 with
  |stop h e=>exact hG<|h.Ra (M.on H) λbH g2 a1 a2=>wpAny_execs_nil (e▸(λQ_ k_=>k_ g2 (le.nY a1.ext) a2 .next))
  |turn s2 f s3 hc hx ht=>
   exact hG<|hc.Ra (M.on H) λbH g2 a1 a2=>jn (hx F g2 bH A (M.on a2)) (λf2 jY h3=>wy λG2 hG2=>by
    refine h3 _ λg3 b1 b2 b3=>?_
    have oX:=(le.nY a1.ext).nY b1
    exact hG2 (KX (P:=λf=>ky w F g s' fl f jY) ht b3 (λhm=>⟨m',h.1,λQ_ k_=>k_ s3 g3 oX hm b2⟩) λf' e hf Q_ k_=>k_ g3 oX (e▸b2) hf)) λj j e=>e.elim) m (λQ_ k_=>k_ s g g.qX h M.H))
end
end
section
noncomputable abbrev Gh.after(g1 g4:Gh)(h2:az)(x:List ag):Gh:={g4 with ρ:=ig (lV x) (jP x h2 g1.ρ) g4.ρ}
section
variable (w:aE)(K:aS)(mg mb:af->Option ae)(n:Nat)
def p9(w:aE)(F:Fm)(A:bj)(it:It)(s':S)(g:Gh)(xv:ae)(σ:aw):Prop:=∀C:Prop,(∀(g1:Gh) (h1:g.le g1) (h2:sV w F A it s' g1 xv σ),C)->C
def lY(cx:Cx)(e:ai)(s:S)(it:It)(s':S):Prop:=∀F g σ A,cc w K mg mb cx s F g σ A n->ax (ar ao w) A (eval e F.env) (p9 w F A it s' g) aC σ
def Qw(cx:Cx)(it:It)(t:ai)(b:List br)(fl:Fl)(s':S)(F:Fm)(g:Gh)(x:List ag)(Inv:Nat->S->Gh->az->Prop)(m:Nat)(σ:aw):Prop:=∀C:Prop,(∀(i:Nat) (s1:S) (g1:Gh) (le:g.ext g1) (h:l6 w K mg mb n cx it t b fl s' m i s1) (H:Full w F s1 g1 x σ) (hI:Inv i s1 g1 σ.heap),C)->C
end
section
variable {w:aE}{K:aS}{mg mb:af->Option ae}{F:Fm}{s s' s0 s1 s2 s3:S}{g g' g1 g3 g4:Gh}{x:List ag}{σ σ' aG gv:aw}{A:bj}{cx:Cx}{n:Nat}{G:bR}
noncomputable def It.isLive:It->Bool
 |.live _ _=>J
 |_=>ah
theorem kH.same(h:kH w g fl f)(hz:g'.z=g.z)(hc:g'.cs=g.cs):kH w g' fl f:=by
 induction h with
 |next=>exact .next
 |brk=>exact .brk
 |cont=>exact .cont
 |ret h=>exact .ret (hz▸hc▸h)
theorem Fs(H4:Full w (gH F (jP x h2 ρ) x) s3 g4 [] gv):∀b∈x,∀o,h2.get? b=U o->gv.heap.get? b=U o:=λb hb o e=>H4.ki b o (pE (vB hb) ((s6 hb).trans e))
theorem ZN{it:It}(hl:it.isLive=ah):¬∃y en,it=.live y en:=λh=>h.elim λy h=>h.elim λen e=>by rw[e] at hl;cases hl
theorem abo{it:It}{t:ai}{b:List br}{ab:ag}{Inv:Nat->S->Gh->az->Prop}(R:∀F,Src w F A t it ab x Inv)(hl:it.isLive=ah)(C:cz w K mg mb cx F)(hA:cJ (n+1) A){m i:Nat}{fl f:Fl}{v:V}{y:ae}{h2:az}{tk:Nat}(le:g.ext g1)
  (hb:wR w K mg mb (n+1) cx it.pair t v s s1) (hx:nK w K mg mb n cx b s1 f s2) (ht:Turn (l6 w K mg mb n cx it t b fl s' m (i+1)) fl s' f s2) (H2:Full w F s {g1 with ρ:=jP x h2 g1.ρ} x {σ with heap:=h2,toks:=tk}) (hI:Inv (i+1) s g1 h2) (hd:js w g1 h2 it.pair v y)
  {E:ae->aw->Prop} {N:aw->Prop} (hN:∀σ,Qw w K mg mb n cx it t b fl s' F g x Inv m σ->N σ):
  ax (ar ao w) A (assign t F.env y) (λj kF=>ax (ar ao w) A (execs b F.env) (λf2 σ=>match (generalizing:=false) f2 with
   |.next|.cont=>N σ
   |.brk=>ky w F g s' fl .next σ
   |.ret v=>ky w F g s' fl (.ret v) σ) E kF) E {σ with heap:=h2,toks:=tk}:=by
 refine jn (hb (gH F _ x) _ _ A y ⟨C.gH _ _,hA,H2.Fo⟩ (js.mono hd (Z.le_refl _) (bz _) λj j e=>e)) (λj jY h3=>?_) λj j e=>e.elim
 refine h3 _ λg3 oX H3=>?_
 refine jn (hx (gH F _ x) g3 jY A ⟨C.gH _ _,hA.three,H3⟩) (λf2 gv h4=>?_) λj j e=>e.elim
 refine h4 _ λg4 gu H4 hf=>?_
 have o4:g1.ext (g1.after g4 h2 x):=⟨Z.le_trans oX.z gu.z,kh oX.cs gu.cs,gu.tv.trans oX.tv⟩
 have H5:=H2.AM H4
 exact KX (P:=λf=>ky w F g s' fl f gv) ht hf (λhm=>hN _ (λQ_ k_=>k_ (i+1) s2 (g1.after g4 h2 x) (le.nY o4) hm H5 ((R F).frame (i+1) s g1 h2 s2 _ gv.heap hI o4.z o4.cs (λq=>absurd q (ZN hl)) (Fs H4))))
  λf' e hf=>e▸(λQ_ k_=>k_ ({g1.after g4 h2 x with ρ:=iI (lV x) (g1.after g4 h2 x).ρ}) (le.nY (Gh.ext.nY o4 ⟨Z.le_refl _,bz _,rfl⟩)) (H5.drop (λj j j e=>e) rfl rfl) (hf.same rfl rfl))
theorem Gk{t:ai}{it:It}{ab:ag}{Inv:Nat->S->Gh->az->Prop}(R:Src w F A t it ab x Inv)(H:Full w F s g x σ)(hI:Inv i s g σ.heap)(q:it.at i s=U (U v)){N:aw->Prop}{B:ae->aw->Prop}{E E1:ae->aw->Prop}
  (k:∀y h2 tk,Full w F s {g with ρ:=jP x h2 g.ρ} x {σ with heap:=h2,toks:=tk}->Inv (i+1) s g h2->js w g h2 it.pair v y->B y {σ with heap:=h2,toks:=tk}):
  ax (ar ao w) A (lD (.ref ab)) (λr d4=>match r with|none=>N d4|some v=>ax (ar ao w) A (z9 t (.ref ab) v) (λj s=>B v s) E1 d4) E σ:=
 R.item i s g σ v H hI q _ _ λy h1 tk lZ go=>go _ _ λh2 jy HG uc hd=>k y h2 tk (H.af8 (σ':={σ with heap:=h2,toks:=tk}) (λb o hb e=>jy b o hb (lZ b o hb e)) HG rfl rfl) uc hd
theorem OO{t:ai}{it:It}{ab:ag}{Inv:Nat->S->Gh->az->Prop}(R:Src w F A t it ab x Inv)(H:Full w F s g x σ)(hI:Inv i s g σ.heap)(q:it.at i s=U aj){N:aw->Prop}{B:ae->aw->Prop}{E:ae->aw->Prop}
  (k:∀h2 tk,Full w F s {g with ρ:=iI (lV x) g.ρ} [] {σ with heap:=h2,toks:=tk}->N {σ with heap:=h2,toks:=tk}):ax (ar ao w) A (lD (.ref ab)) (λr d4=>match r with|none=>N d4|some v=>B v d4) E σ:=
 R.stop i s g σ H hI q _ _ λh' tk hk=>k h' tk (H.drop hk rfl rfl)
theorem aaH(h:l6 w K mg mb n cx it t b fl s' m i s):∃m',m'<m/\Oy w K mg mb n cx it t b fl s' (l6 w K mg mb n cx it t b fl s' m' (i+1)) i s:=by
 induction m with
 |zero=>exact h.elim
 |succ m=>exact⟨m,nT _,h⟩
theorem Pk(C:cz w K mg mb cx F)(hA:cJ (n+1) A){t:ai}{b:List br}{it:It}{ab:ag}{Inv:Nat->S->Gh->az->Prop}(R:∀F,Src w F A t it ab x Inv)(hlive:it.isLive=ah){m:Nat}{fl:Fl}(h:l6 w K mg mb n cx it t b fl s' m 0 s)(H:Full w F s g x σ)(hI:Inv 0 s g σ.heap){E:ae->aw->Prop}:
  ic (ar ao w) A (.forLoop t (.ref ab) b [] F.env) (λr σ'=>match r with|.ok f=>ky w F g s' fl f σ'|.error e=>E e σ') σ:=by
 refine codeAny_forLoop_any (Qw w K mg mb n cx it t b fl s' F g x Inv) (λm aG hV=>wy λG_ hG=>?_) m (λQ_ k_=>k_ 0 s g g.qX h H hI)
 refine hV _ λi s1 g1 le h H hI=>?_
 refine(aaH h).elim λm' h=>?_
 cases h.2 with
 |stop q e e2=>exact hG<|OO (R F) H hI q λh' tk H'=>wpAny_execs_nil (e▸e2▸(λQ_ k_=>k_ ({g1 with ρ:=iI (lV x) g1.ρ}) (le.nY ⟨Z.le_refl _,bz _,rfl⟩) H' .next))
 |item v s2 f s3 q hb hx ht=>exact hG<|Gk (R F) H hI q λy h2 tk H2 uc hd=>abo R hlive C hA le hb hx ht H2 uc hd fun σ hv=>⟨m',h.1,hv⟩
theorem Po.ok{P:Flow->aw->Prop}{Q:Flow->aw->Prop}{r:jq}(h:match r with|.ok f=>P f σ|.error e=>False)(k:∀f,P f σ->Q f σ){E:ae->aw->Prop}:match (generalizing:=false) r with|.ok f=>Q f σ|.error e=>E e σ:=match r with
 |.ok f=>k f h
 |.error e=>bD h
theorem ahF{t i:ai}{b:List br}{p:aY}{it:It}{fl:Fl}(hs:isSet i=ah)(hl:it.isLive=ah)(h:lY w K mg mb n cx i s it s1)(oY:it.oD t=J)(k:l6 w K mg mb n cx it t b fl s' m 0 s1):fN w K mg mb (n+1) cx (.For t i b [] p) s fl s':=λF g σ A M=>
 wpAny_For (aW (h F g σ A M.dn) λxv aG h1=>by
  refine h1 _ λg1 zm h1=>?_
  refine aW (h1 t oY) λjv bH h2=>?_
  refine h2 _ λab x Inv g2 e zJ H2 R hI=>?_
  rw[e]
  exact ka (Pk M.C M.A R hl k H2 hI) λr σ' hr=>Po.ok hr λf=>ky.ext (zm.le_trans zJ).ext) (DO hs)
theorem KS(h:cg w g (.var y) u x):x=[]:=(E8 h).2
theorem Zk{t i:ai}{b:List br}{p:aY}{y:af}{fl:Fl}(hs:isSet i=ah)(h:bJ w K mg mb n cx i s (.var y) s1)(q3:lk y s1.vars=U (.list xs))
  (k:l6 w K mg mb n cx (.cell s1.mem.length) t b fl s' m 0 {s1.set y (.val (.cell s1.mem.length)) with mem:=s1.mem++[.list xs]}):fN w K mg mb (n+1) cx (.For t i b [] p) s fl s':=λF g σ A M=>
 wpAny_For (h.go M (dm _) λxv aG g1 x1 a1 a2 a3=>by
  have hx:=KS a3
  subst hx
  refine a2.M4 q3 _ λg2 a b1 b2 b3 b4=>?_
  rw[aA ((pC a3).symm.trans b3)]
  refine D5 b2 (List.getElem?_concat_length ..) b4 _ λus k9 c1 c2 c3=>?_
  refine zZ (gm (b2.ri _ _ c1)) ?_
  have H1:=b2.alloc (σ':={aG with heap:=aG.heap.push {cls:=.type "list_iterator",data:=.fields #[.ref a,.int 0 0]}}) {cls:=.type "list_iterator",data:=.fields #[.ref a,.int 0 0]} rfl rfl rfl rfl
  exact Yi (g:={g2 with ρ:=g2.ρ.put aG.heap.objs.size {cls:=.type "list_iterator",data:=.fields #[.ref a,.int 0 0]}}) M.A.handled b4 ⟨_,eM _ rfl,rfl,rfl⟩ _ λInv h1 h2=>ka (Pk M.C M.A h1 rfl k H1 h2) λr σ' hr=>Po.ok hr λf=>ky.ext (Gh.ext.nY ⟨Z.le_trans a1.z b1.z,kh a1.cs b1.cs,b1.tv.trans a1.tv⟩ Gh.lH.ext)) (DO hs)
theorem aeE(h:gh w K mg mb n cx e s v s')(q:Bx v=U xs):lY w K mg mb n cx e s (.items ah xs) s':=λF g σ A M=>h.go M (aQ _) λy aG g1 a b c Q_ k_=>k_ g1 a (UZ M.A.handled b c q)
theorem WJ(T:eG w K mg mb G)(hn:dU G cx f s=U (.val (.ty "range")))(h:mJ w K mg mb n cx args s [.val (.int b)] s')(q:ja 0 b=U it):lY w K mg mb n cx (.Call (.Name f p) args [] pos) s it s':=
 λF g σ A M=>xX T M.C M.H hn (h.1 _ _) (h.go M (aQ _) λys aG g1 a1 a2 a3=>
  sO (P:=λys=>ax (ar ao w) A (call (.type "range") ys) (p9 w F A it s' g) aC aG) a3 λy r h1 h2=>(EM h1).1.elim λt ht=>by
   rw[vc h2,ht]
   refine call_range_1 (λQ_ k_=>k_ g1 a1 (Kl M.A.handled ?_ q (IsRange.new _ _ _ _ _ _ _)))
   exact a2.grow (λj j e=>dX _ e) rfl rfl)
theorem WA(T:eG w K mg mb G)(hn:dU G cx f s=U (.val (.ty "range")))(h:mJ w K mg mb n cx args s [.val (.int a),.val (.int b)] s')(q:ja a b=U it):lY w K mg mb n cx (.Call (.Name f p) args [] pos) s it s':=
 λF g σ A M=>xX T M.C M.H hn (h.1 _ _) (h.go M (aQ _) λys aG g1 a1 a2 a3=>
  sO (P:=λys=>ax (ar ao w) A (call (.type "range") ys) (p9 w F A it s' g) aC aG) a3 λy r h1 h2=>(EM h1).1.elim λt ht=>
   sO (P:=λys=>ax (ar ao w) A (call (.type "range") (y::ys)) (p9 w F A it s' g) aC aG) h2 λy2 r2 h3 h4=>(EM h3).1.elim λt2 HA=>by
    rw[vc h4,ht,HA]
    refine call_range_2 (λQ_ k_=>k_ g1 a1 (Kl M.A.handled ?_ q (IsRange.new _ _ _ _ _ _ _)))
    exact a2.grow (λj j e=>dX _ e) rfl rfl)
end
end
section
section
variable (w:aE)(K:aS)(mg mb:af->Option ae)(n:Nat)
def oZ(cx:Cx)(ifs:List ai)(s:S)(b:Bool)(s':S):Prop:=∀F g σ A,cc w K mg mb cx s F g σ A n->ax (ar ao w) A (sY ifs F.env) (λc σ'=>c=b/\At w F g s' (λj=>True) σ') aC σ
inductive NL(cx:Cx)(it:It)(elt t:ai)(ifs:List ai)(s':S)(more:S->List V->Prop)(i:Nat)(s:S)(ys:List V):Prop
 |stop (q:it.at i s=U aj) (e:ys=[]) (e2:s'=s)
 |skip (v:V) (bs:List (af×V)) (s1:S) (q:it.at i s=U (U v)) (hb:bindC cx it.pair t v=U bs) (ht:oZ w K mg mb n cx ifs {s with cv:=bs} ah s1) (h:more s1 ys)
 |take (v:V) (bs:List (af×V)) (s1:S) (u:V) (s2:S) (pe:List V) (q:it.at i s=U (U v)) (hb:bindC cx it.pair t v=U bs) (ht:oZ w K mg mb n cx ifs {s with cv:=bs} J s1) (he:gh w K mg mb n cx elt s1 u s2) (h:more s2 pe) (e:ys=u::pe)
def jg(cx:Cx)(it:It)(elt t:ai)(ifs:List ai)(s':S):Nat->Nat->S->List V->Prop
 |0,_,_,_=>False
 |m+1,i,s,ys=>NL w K mg mb n cx it elt t ifs s' (jg cx it elt t ifs s' m (i+1)) i s ys
def Q7(cx:Cx)(it:It)(elt t:ai)(ifs:List ai)(s':S)(F:Fm)(g:Gh)(x:List ag)(Inv:Nat->S->Gh->az->Prop)(D:ag)(ys:List V)(m:Nat)(σ:aw):Prop:=∀C:Prop,(∀(i:Nat) (s1:S) (g1:Gh) (us:Array ae) (k:Nat) (zs pe:List V) (le:g.lU g1) (h:jg w K mg mb n cx it elt t ifs s' m i s1 pe) (H:Full w (eJ F D (bg us k)) s1 g1 x σ) (hI:Inv i s1 g1 σ.heap) (hd:aF w g1.z g1.cs zs us.toList) (hy:zs++pe=ys) (hsz:us.size<=i) (hi:i<=bQ),C)->C
def CmE(F:Fm)(s':S)(g:Gh)(D:ag)(ys:List V)(σ':aw):Prop:=∀C:Prop,(∀(g':Gh) (us:Array ae) (k:Nat) (le:g.lU g') (H:Full w (eJ F D (bg us k)) s' g' [] σ') (d:aF w g'.z g'.cs ys us.toList) (hz:us.size<=bQ),C)->C
end
section
variable {w:aE}{K:aS}{mg mb:af->Option ae}{F:Fm}{s s' s0 s1 s2 s3:S}{g g' g1 g4:Gh}{x:List ag}{σ σ' aG gv:aw}{A:bj}{cx:Cx}{n:Nat}{G:bR}{D:ag}
theorem oC:oZ w K mg mb n cx [] s J s:=λF g σ A M=>VC ⟨rfl,atT g.le_refl M.H⟩
theorem tD{e:ai}{r:List ai}{b:Bool}(h:fL w K mg mb n cx e s J s1)(k:oZ w K mg mb n cx r s1 b s'):oZ w K mg mb n cx (e::r) s b s':=λF g σ A M=>
 Kq (h.go M (aQ _) λaG g1 a b=>aW (k F g1 aG A (M.on b)) λj j e=>⟨e.1,e.2.le a⟩)
theorem vC{e:ai}{r:List ai}(h:fL w K mg mb n cx e s ah s'):oZ w K mg mb n cx (e::r) s ah s':=λF g σ A M=>
 Kq (h.go M (aQ _) λaG g1 a b=>⟨rfl,atT a b⟩)
theorem YX{it:It}{elt t:ai}{ifs:List ai}{m i:Nat}{ys:List V}(h:jg w K mg mb n cx it elt t ifs s' m i s ys):∃m',m'<m/\NL w K mg mb n cx it elt t ifs s' (jg w K mg mb n cx it elt t ifs s' m' (i+1)) i s ys:=by
 induction m with
 |zero=>exact h.elim
 |succ m=>exact⟨m,nT _,h⟩
section
variable {elt t:ai}{ifs:List ai}{it:It}{ab:ag}{Inv:Nat->S->Gh->az->Prop}{m i:Nat}{ys pe zs:List V}{us:Array ae}{k:Nat}{h2:az}{v:V}{y:ae}{c:Bool}{bs:List (af×V)}
theorem Na(R:∀F,Src w F A t it ab x Inv)(le:g.lU g1)(gu:g1.lU g4)(hI:Inv (i+1) s g1 h2)(hm:jg w K mg mb n cx it elt t ifs s' m (i+1) s3 pe)(H4:Full w (eJ F D (bg us k)) s3 (g1.after g4 h2 x) x gv)
  (hx:∀b∈x,∀o,h2.get? b=U o->gv.heap.get? b=U o) (hd:aF w g4.z g4.cs zs us.toList) (hy:zs++pe=ys) (hsz:us.size<=i+1) (hi:i<bQ):Q7 w K mg mb n cx it elt t ifs s' F g x Inv D ys m gv:=
 λQ_ k_=>k_ (i+1) s3 (g1.after g4 h2 x) us k zs pe (le.KV ⟨gu.z,gu.cs,gu.vl,gu.tv⟩) hm H4 ((R F).frame (i+1) s g1 h2 s3 _ gv.heap hI gu.z gu.cs (λj=>gu.vl) hx) hd hy hsz hi
theorem LD(C:cz w K mg mb cx F)(hF:F.comp=J)(hA:cJ n A){p:Bool}(H2:Full w F s {g1 with ρ:=jP x h2 g1.ρ} x σ)(hb:bindC cx p t v=U bs)(ht:oZ w K mg mb n cx ifs {s with cv:=bs} c s3)(hv:js w g1 σ.heap p v y){Q:Bool->aw->Prop}
  (k:∀g4 gv,g1.lU g4->Full w (gH F (jP x h2 g1.ρ) x) s3 g4 [] gv->Q c gv):ax (ar ao w) A (assign t F.env y) (λj kF=>ax (ar ao w) A (sY ifs F.env) Q aC kF) aC σ:=
 aW (Xs (C.gH _ _) hF hA H2.Fo hb (js.mono hv (Z.le_refl _) (bz _) λj j e=>e)) λj jY h3=>by
  refine h3 _ λg3 e1 e2 e3 e4 H3=>?_
  exact aW (ht (gH F (jP x h2 g1.ρ) x) g3 jY A ⟨C.gH _ _,hA,H3⟩) λc' gv h4=>h4.1▸h4.2.seq λg4 gu H4 j=>
   k g4 gv ⟨λa o e=>gu.z a o (e1▸e),λi a e=>gu.cs i a (e2▸e),gu.vl.trans e3,gu.tv.trans e4⟩ H4
theorem afD(C:cz w K mg mb cx F)(hF:F.comp=J)(hA:cJ n A){iter:ai}{scope:gE}{pos:aY}(R:∀F,Src w F A t it ab x Inv)(hb:F.zb D=aj)(h:jg w K mg mb n cx it elt t ifs s' m 0 s ys)(H:Full w (eJ F D (bg #[] k)) s g x σ)(hI:Inv 0 s g σ.heap){RR:jq->aw->Prop}
  (hQ:∀σ',CmE w F s' g D ys σ'->RR (.ok .next) σ'):ic (ar ao w) A (.compLoop (.ListComp elt [⟨t,iter,ifs,0⟩] scope pos) 0 (.ref ab) (.ref D) F.env) RR σ:=by
 refine Ux (Q7 w K mg mb n cx it elt t ifs s' F g x Inv D ys) (λm aG hV=>wy λG_ hG=>?_) m (λQ_ k_=>k_ 0 s g (#[]) k [] ys g.Yb h H hI .nil rfl (aQ _) (eO _))
 refine hV _ λi s1 g1 us k zs pe le h H hI hd hy hsz hi=>?_
 refine(YX h).elim λm' h=>?_
 have cX:=λv=>(R (eJ F D (bg us k))).size i s1 g1 aG v H hI
 cases h.2 with
 |stop q e e2=>
  refine hG<|OO (R _) H hI q λh' tk H'=>hQ _ (λQ_ k_=>k_ ({g1 with ρ:=iI (lV x) g1.ρ}) us k ⟨le.z,le.cs,le.vl,le.tv⟩ (e2▸H') ?_ (bf hsz hi))
  rw[<-hy,e,bx]
  exact hd
 |skip v bs s3 q IM ht hm=>
  exact hG<|Gk (R _) H hI q λy h2 tk H2 uc hv=>LD (C.eJ D (bg us k)) hF hA H2 IM ht hv λg4 gv gu H4=>⟨m',h.1,Na R le gu uc hm (H2.AM H4) (Fs H4) (hd.mono gu.z gu.cs) hy (sC hsz) (cX v q)⟩
 |take v bs s3 u s4 ys2 q IM ht he hm e=>
  refine hG<|Gk (R _) H hI q λy h2 tk H2 uc hv=>LD (C.eJ D (bg us k)) hF hA H2 IM ht hv λg4 gv gu H4=>?_
  refine aW (he (gH (eJ F D (bg us k)) (jP x h2 g1.ρ) x) g4 gv A ⟨(C.eJ D (bg us k)).gH _ _,hA,H4⟩) λyv Ia h5=>h5.seq λg5 o4 H5 d5=>?_
  have o4:=gu.KV o4.lU
  have Rx:D∉x:=λhm=>(H.xo D hm).elim λo e=>ay ((H.kept hb).1.symm.trans e)
  have hD:Ia.heap.get? D=U (bg us k):=H5.ki D _ ((xV (A3 Rx)).trans (Z.dp _ _ _))
  refine wpAny_list_append_plain ⟨k,hD⟩ (λh6 hp hs6=>hp.elim λk6 e6=>?_) (bf hsz hi)
  have eD:∀b ob,b≠D->Ia.heap.get? b=U ob->h6.get? b=U ob:=λb ob hb e=>(hs6.2 b hb).trans e
  have H6:=(H2.AM H5).Gp (σ':={Ia with heap:=h6}) hb ⟨eD,e6,rfl,rfl⟩
  refine⟨m',h.1,Na R le o4 uc hm H6 (λb hb o e=>eD b o (λq=>Rx (q▸hb)) (Fs H5 b hb o e)) (zs:=zs++[u]) ?_ (by rw[aN];exact(congrArg (zs++·) e).symm.trans hy) (by rw[xC];exact gM hsz) (cX v q)⟩
  rw[xr]
  exact(hd.mono o4.z o4.cs).append (.cons d5 .nil)
end
end
end
section
section
variable {w:aE}{K:aS}{mg mb:af->Option ae}{F:Fm}{s s' s0 s1 s2:S}{g g':Gh}{x:List ag}{σ σ':aw}{A:bj}{cx:Cx}{n:Nat}{G:bR}{D:ag}
noncomputable def wq(cx:Cx)(s:S)(sc:gE)(i:ai):Bool:=!cx.comp&&s.cv.isEmpty&&rL cx sc.names&&aJ (sc.kind=.function)&&!isSet i
noncomputable def sd(cx:Cx)(sc:gE):Cx:={cx with sc:=sc.names,comp:=J}
structure OkC(cx:Cx)(s:S)(RC:gE)(i:ai):Prop where
 comp:cx.comp=ah
 cv:s.cv=[]
 sc:rL cx RC.names=J
 kind:RC.kind=.function
 set:isSet i=ah
theorem acY(h:wq cx s sc i=J):OkC cx s sc i:=
 have h1:=bl h
 have h2:=bl h1
 have h3:=bl h2
 ⟨Bool.not_eq_true' _ |>.mp (bl h3),iZ.mp (aU h3),aU h2,of_decide_eq_true (aU h1),Bool.not_eq_true' _ |>.mp (aU h)⟩
theorem abk(h:rL cx sc=J)(hp:p∈sc)(k:p.2=.free):lk p.1 cx.sc=U .cell:=
 (yk h hp).elim (λq=>q.2.1) λq=>q.elim (λq=>nomatch k.symm.trans q.1) λq=>nomatch k.symm.trans q
theorem Yr(h:rL cx sc=J)(hp:p∈sc)(k:p.2=.local):lk p.1 sc=U .local:=
 (yk h hp).elim (λq=>nomatch k.symm.trans q.1) λq=>q.elim (λq=>q.2) λq=>nomatch k.symm.trans q
theorem acE(h:rL cx sc=J)(hp:p∈sc)(h1:sJ≠j)(h2:dC.local≠j)(h3:dC.globalImplicit≠j):p.2≠j:=
 (yk h hp).elim (λq e=>h1 (q.1.symm.trans e)) λq=>q.elim (λq e=>h2 (q.1.symm.trans e)) λq e=>h3 (q.symm.trans e)
theorem adD(h:jR w z cs a []):a=[]:=by cases h;rfl
def NX(w:aE)(F:Fm)(s2:S)(g:Gh)(ys:List V)(D c:ag)(aG:aw):Prop:=∀C:Prop,(∀(g1:Gh) (us:Array ae) (k:Nat) (oc:aP) (le:g.le g1) (H:Full w F {s2 with cv:=[]} g1 [D,c] aG) (hD:g1.ρ D=U (bg us k)) (d:aF w g1.z g1.cs ys us.toList) (hz:ys.length<=bQ) (hc:g1.ρ c=U oc) (hn:∃m,ug oc m),C)->C
theorem VA{elt t i:ai}{ifs:List ai}{scope:gE}{pos:aY}{it:It}{ab D C:ag}{x:List ag}{Inv:Nat->S->Gh->az->Prop}{cl:List (af×ag)}(Cx:cz w K mg mb (sd cx scope) (Bz F scope cl C))(hF:F.comp=ah)(hA:cJ n A)(R:∀F,Src w F A t it ab x Inv)
  (hkD:F.kp D=aj) (QI:F.zb D=aj) (hDC:C≠D) (q1:jg w K mg mb n (sd cx scope) it elt t ifs s2 m 0 s ys) (H:Full w (Bz (eJ F D (bg #[] 0)) scope cl C) s {g' with cl:=[]} x σ) (hI:Inv 0 s {g' with cl:=[]} σ.heap) (le:g.le {g' with cl:=g.cl}) (CL:g.cl=[])
  {RR:jq->aw->Prop} (hQ:∀σ',NX w F s2 g ys D C σ'->RR (.ok .next) σ'):ic (ar ao w) A (.compLoop (.ListComp elt [⟨t,i,ifs,0⟩] scope pos) 0 (.ref ab) (.ref D) (Bz F scope cl C).env) RR σ:=
 afD Cx rfl hA R QI q1 H hI fun σ' he=>by
  refine he _ λg2 us k CF H' hd hz=>?_
  have H6:=(Full.Vb (F:=eJ F D (bg us k)) hF H').rm hkD QI
  exact(H'.cmp rfl).ns.elim λoc h=>h.elim λmc h=>hQ _ (λQ_ k_=>k_ ({g2 with cl:=[],ρ:=g2.ρ.put D (bg us k)}) us k oc ⟨Z.le_trans le.z CF.z,kh le.cs CF.cs,CF.vl.trans le.vl,CL.symm,CF.tv.trans le.tv⟩ H6 (Z.dp _ _ _) hd (by rw[hd.size];exact hz) ((Z.df _ _ hDC).trans h.1) ⟨mc,h.2.1⟩)
theorem Lv(ho:wq cx s scope i=J)(h:lY w K mg mb n cx i s it s1)(oY:it.oD t=J)(q1:jg w K mg mb n (sd cx scope) it elt t ifs s2 m 0 s1 ys)(M:cc w K mg mb cx s F g σ A n)
(hQ:∀D c aG,NX w F s2 g ys D c aG->compPost (ar ao w) A aC use Q (.ref D) c (.ok .next) aG):
  ax (ar ao w) A (comprehension (.ListComp elt [⟨t,i,ifs,0⟩] scope pos) scope F.env p (newList []) ah (eval i F.env) use) Q aC σ:=by
 have O:=acY ho
 have hF:F.comp=false:=M.C.cmp.symm.trans O.comp
 have e1:=(M.C.fn hF).1
 refine wpAny_comprehension_free rfl (DO O.set) (S4 λp hp CJ=>e1▸M.C.qn hF _ (abk O.sc hp CJ)) O.kind (λp hp hl=>(qT ..).symm.trans (Yr O.sc hp hl)) (aW (h F g σ A M) λxv aG h1=>?_)
 refine h1 _ λg1 zm h1=>?_
 refine aW (h1 t oY) λjv bH h2=>?_
 refine h2 _ λab x Inv g2 e zJ H2 R hI=>?_
 subst e
 refine lh ?_
 have H3:=H2.E6 (σ':={bH with heap:=bH.heap.push (bg #[] 0)}) (bg #[] 0) rfl rfl rfl rfl
 refine wpAny_newFunctionEnv (λp hp=>acE O.sc hp nofun nofun nofun) (λy hy=>dq hy) (λh4 p5 uw=>?_) O.kind
 have sz:(bH.heap.push (bg #[] 0)).objs.size=bH.heap.objs.size+1:=xC _
 have RE:∀b o,(bH.heap.push (bg #[] 0)).get? b=U o->h4.get? b=U o:=λb o e=>(uw.2 b (hJ (gy e))).trans (dX _ e)
 have hI5:=λg' hz hc hv=>(R F).frame 0 s1 g2 bH.heap s1 g' h4 hI hz hc hv λb j o e=>RE b o (dX _ e)
 have agV:g2.cl=[]:=(zJ.cl.trans zm.cl).trans (M.H.NK O.cv)
 refine(kl.mp p5).elim λoc k=>?_
 have H4:=(H3.put (σ':={bH with heap:=h4,toks:=bH.toks+([]:List (af×ae)).length}) ⟨RE,rfl,rfl⟩ kg k.1).perm (List.perm_append_singleton _ _)
 have H5:=H4.Vl hF (env:=compEnvC scope (lI F.env.cells scope.names []) (bH.heap.push (bg #[] 0)).objs.size F.env) rfl (Z.dp _ _ _) k.2 (adD (agV▸H2.cv))
 have I5:=hI5 {g2 with ρ:=g2.ρ.put (bH.heap.push (bg #[] 0)).objs.size oc,cl:=[]} (Z.le_refl _) (bz _) λj=>rfl
 have loop:=VA (i:=i) (pos:=pos) (M.C.inComp hF O.kind O.sc _) hF M.A R H2.aab (H2.E3 H2.Fe) (sz▸Dv _) q1 H5 I5
  (Gh.le.le_trans (zm.le_trans zJ) ⟨Z.le_refl _,bz _,rfl,(zm.le_trans zJ).cl.symm,rfl⟩) (M.H.NK O.cv) fun σ' h=>hQ _ _ σ' h
 exact codeAny_compStart_list loop ((R F).self 0 s1 _ _ I5 _ _ loop)
theorem Pg(ho:wq cx s scope i=J)(h:lY w K mg mb n cx i s it s1)(oY:it.oD t=J)(q1:jg w K mg mb n (sd cx scope) it elt t ifs s2 m 0 s1 ys):
  bJ w K mg mb n cx (.ListComp elt [⟨t,i,ifs,0⟩] scope pos) s (.list ys) {s2 with cv:=[]}:=λF g σ A M=>by
 rw[eval_ListComp]
 refine Lv ho h oY q1 M λD c aG h=>?_
 refine h _ λg1 us k oc le H1 hD hd hz hc hn=>?_
 exact hn.elim λm hn=>⟨m,kl.mpr ⟨oc,H1.ri _ _ hc,hn⟩,λh' hs Q_ k_=>k_ ({g1 with ρ:=g1.ρ.del c}) [D] ⟨le.z,le.cs,le.vl,le.cl,le.tv⟩ (H1.abI hc hs) (.list ((Z.vD _ (Nf H1)).trans hD) hd hz)⟩
theorem XG(ho:wq cx s scope i=J)(h:lY w K mg mb n cx i s it s1)(oY:it.oD t=J)(q1:jg w K mg mb n (sd cx scope) it elt t ifs s2 m 0 s1 ys)(h2:nt cx z (.list ys) {s2 with cv:=[]}=U s'):
  fN w K mg mb n cx (.Assign [.Name z pz] (.ListComp elt [⟨t,i,ifs,0⟩] scope pos) p) s .next s':=λF g σ A M=>by
 have hb:∃b:Bool,swapsWith (.ListComp elt [⟨t,i,ifs,0⟩] scope pos) (U (.Name z pz)) p.line F.env=pure b:=⟨_,rfl⟩
 refine hb.elim λb hb=>?_
 induction b with
 |false=>
  exact wpAny_Assign_stores (aW (Pg ho h oY q1 F g σ A M) λv aG h1=>by
   exact h1 _ λg1 x1 a1 a2 a3=>zQ (aW (vf M.C a2 h2 a3).2 λj j e=>(e.le a1.ext).toX)) hb rfl
 |true=>
  rw[exec_Assign_Name_used _ _ _ _ hb]
  refine au (wpAny_standAt (au ?_))
  show ax _ _ (do let _ <-comprehension (.ListComp elt [⟨t,i,ifs,0⟩] scope pos) scope F.env _ (newList []) ah (eval i F.env) (U (assign (.Name z pz) F.env))) _ _ σ
  refine au (Lv ho h oY q1 M λD c aG h=>?_)
  refine h _ λg1 us k oc le H1 hD hd hz hc hn=>?_
  have H2:=(H1.perm (JJ c D [])).BH hc
  refine zQ (aW (vf (M.C.eJ c oc) H2 h2 (.list ((Z.vD _ (Nf H1)).trans hD) hd hz)).2 λj bH h3=>?_)
  exact h3 _ λg3 oX H3=>hn.elim λm hn=>⟨m,kl.mpr ⟨oc,H3.ki _ _ (Z.dp _ _ _),hn⟩,λh' hs=>aI (aI (gg.toX (λQ_ k_=>k_ g3 ⟨Z.le_trans le.z oX.z,kh le.cs oX.cs,oX.tv.trans le.tv⟩ (H3.yJ (H1.rz c oc hc).2 (H1.E3 (H1.rz c oc hc).1) (λb ob hb e=>(hs.2 b hb).trans e) rfl rfl))))⟩
end
end
section
section
variable {w:aE}{K:aS}{mg mb:af->Option ae}{F:Fm}{s s' s0 s1 s2:S}{g g' g1:Gh}{x:List ag}{σ σ' aG:aw}{A:bj}{cx:Cx}{n:Nat}{G:bR}{D:ag}
theorem adt(h:bJ w K mg mb n cx e s (.var y) s')(q:lk y s'.vars=U (.list xs)):lY w K mg mb n cx e s (.live y ah) s':=λF g σ A M=>h.go M (aQ _) λu aG g1 x1 a b c=>
 λQ_ k_=>k_ g1 a (Vh M.A.handled (KS c▸b) (pC c) q)
theorem Np(H:Full w F s' g1 [] aG)(le:g.le g1)(e:aG.heap.get? l=U (bg us k))(hp:it.pair=J)
  (src:∀elts k0 p0 e t h' old,e≠t->l≠e->l≠t->IsEnum h' e t 0 old->h'.IsListIter t l 0->SrcAt w A (.Tuple elts k0 p0) it e [e,t] s' {g1 with ρ:=jP [e,t] h' g1.ρ} h'):ax (ar ao w) A (call (.type "enumerate") [.ref l]) (p9 w F A it s' g) aC aG:=
 call_enumerate_1 e λh' h1 h2 hsz hk Q_ k_=>k_ g1 le (λcZ ht=>(Kc ht hp).elim λelts h=>h.elim λk0 h=>h.elim λp0 h=>by
  have cX:=gy e
  subst h
  refine wpAny_pyIter_enum h1 (pack (H.PA ⟨hk,rfl,rfl⟩ ?_ ?_) (src elts k0 p0 _ _ h' _ (Dv _) (hJ (xu cX)) (hJ cX) h1 h2) ⟨Z.le_refl _,bz _,rfl,rfl,rfl⟩)
  ·exact eF.mpr ⟨⟨(cU.refl aG).fresh (dm _),_,h1⟩,eF.mpr ⟨⟨kg,h2.imp λo q=>q.1⟩,λb hb=>dq hb⟩⟩
  ·exact eN.mpr ⟨λq=>Dv _ (cK.mp q),eN.mpr ⟨uN,nU⟩⟩)
theorem Vt(T:eG w K mg mb G)(hn:dU G cx f s=U (.val (.ty "enumerate")))(h:mJ w K mg mb n cx args s [.var y] s')(ql:lk y s'.vars=U (.list xs)):lY w K mg mb n cx (.Call (.Name f p) args [] pos) s (.live y J) s':=
 λF g σ A M=>xX T M.C M.H hn (h.1 _ _) (h.go M (aQ _) λys aG g1 a1 a2 a3=>
  sO (P:=λys=>ax (ar ao w) A (call (.type "enumerate") ys) (p9 w F A (.live y J) s' g) aC aG) a3 λu r h1 h2=>(AV a2 ql (pC h1)).elim λl k=>by
   have hy:=pC h1
   rw[vc h2,k.1]
   exact k.2 _ λus k9 hz hk hl=>Np a2 a1 (a2.ri _ _ hz) rfl λelts k0 p0 e t h' old q1 q2 q3 q4 q5=>Vv (σ:={aG with heap:=h'}) M.A.handled q1 q2 q3 (k.1▸hy) q4 q5)
theorem acm(T:eG w K mg mb G)(hn:dU G cx f s=U (.val (.ty "enumerate")))(h:mJ w K mg mb n cx args s [.val (.list xs)] s'):lY w K mg mb n cx (.Call (.Name f p) args [] pos) s (.items J (jO 0 xs)) s':=
 λF g σ A M=>xX T M.C M.H hn (h.1 _ _) (h.go M (aQ _) λys aG g1 a1 a2 a3=>
  sO (P:=λys=>ax (ar ao w) A (call (.type "enumerate") ys) (p9 w F A (.items J (jO 0 xs)) s' g) aC aG) a3 λu r h1 h2=>by
   rw[vc h2]
   exact(ly h1).1.inv _ λl us k e0 hz hk hl=>e0▸Np a2 a1 (a2.zi _ _ hz) rfl λelts k0 p0 e t h' old q1 q2 q3 q4 q5=>VE (σ:={aG with heap:=h'}) M.A.handled q1 q2 q3 hz hk hl q4 q5)
theorem aeq(T:eG w K mg mb G)(hn:dU G cx f s=U (.val (.ty "zip")))(h:nL w K mg mb n cx args s [.list xs,.list ys] s'):lY w K mg mb n cx (.Call (.Name f p) args [] pos) s (.items J (oM xs ys)) s':=
 λF g σ A M=>xX T M.C M.H hn (h.2.1 _ _) (h.go M (aQ _) λzs aG g1 a1 a2 a3=>
  gB (P:=λzs=>ax (ar ao w) A (call (.type "zip") zs) (p9 w F A (.items J (oM xs ys)) s' g) aC aG) a3 λu r h1 h2=>
   gB (P:=λzs=>ax (ar ao w) A (call (.type "zip") (u::zs)) (p9 w F A (.items J (oM xs ys)) s' g) aC aG) h2 λu2 r2 h3 h4=>by
    rw[iF h4]
    refine wy λG_ hG=>?_
    refine h1.inv _ λl1 uz k1 e1 qo lZ qe=>?_
    refine h3.inv _ λl2 pb k2 e2 mL jy jC=>?_
    refine hG ?_
    subst e1 e2
    have b1:=a2.zi _ _ qo
    have b2:=a2.zi _ _ mL
    refine call_zip_2 (gm b1) (gm b2) λh' h1 h2 h3 h4 h5 hsz afK Q_ k_=>k_ g1 a1 (λcZ ht=>(Kc ht rfl).elim λelts h=>h.elim λk0 h=>h.elim λp0 h=>?_)
    subst h
    have fr:∀k,aG.heap.get? (aG.heap.objs.size+k)=none:=λk=>(cU.refl aG).fresh (fe _ _)
    have D:=V6 (gy b1) (gy b2)
    refine wpAny_pyIter_zip h1 (pack (a2.PA ⟨afK,rfl,rfl⟩ ?_ ?_)
     (Z2 M.A.handled D (λQ_ k_=>k_ _ qo lZ) (λQ_ k_=>k_ _ mL jy) qe ⟨h1,h2,⟨_,_,h3⟩,h4,h5⟩) ⟨Z.le_refl _,bz _,rfl,rfl,rfl⟩)
    ·exact eF.mpr ⟨⟨fr 4,_,h1⟩,eF.mpr ⟨⟨fr 2,_,h2⟩,eF.mpr ⟨⟨fr 3,_,h3⟩,eF.mpr ⟨⟨fr 0,h4.imp λo q=>q.1⟩,eF.mpr ⟨⟨fr 1,h5.imp λo q=>q.1⟩,λb hb=>dq hb⟩⟩⟩⟩⟩
    ·exact(z4).mpr ((by decide:[4,2,3,0,1].Pairwise (·≠·)).imp λh=>nr h))
end
end
section
section
variable (w:aE)(K:aS)(mg mb:af->Option ae)(n:Nat)
def TmP(w:aE)(F:Fm)(s':S)(g:Gh)(l:Nat)(xs:List ae)(σ':aw):Prop:=∀C:Prop,(∀(g':Gh) (hl:xs.length=l) (h1:Z.le g.z g'.z) (h2:pre g.cs g'.cs) (h3:g'.tv=g.tv++xs) (h4:Full w F s' g' [] σ'),C)->C
structure uv(cx:Cx)(es:List ai)(s s':S):Prop where
 star:pI es
 run:∀pos F g σ A,cc w K mg mb cx s F g σ A n->ax (ar ao w) A (spliced (i8 pos (gC es F.env))) (TmP w F s' g es.length) aC σ
structure ze(cx:Cx)(ts:List ai)(s s':S):Prop where
 star:∀env,(qN ts env).findIdx? (·.1)=aj
 len:∀env,(qN ts env).length=ts.length
 run:∀F g σ A,cc w K mg mb cx s F g σ A n->ax (ar ao w) A (xH ((qN ts F.env).map (·.2)) g.tv) (λj=>F8 w F g s') aC σ
end
noncomputable def S.hold(s:S)(a:Sl):S:={s with bX:=s.bX++[a]}
noncomputable def Bh(r:R)(s:S):Option S:=match r with
 |.list xs=>U (s.hold (.list xs))
 |.dict ks vs=>U (s.hold (.dict ks vs))
 |.val v=>U (s.hold (.val v))
 |.var y=>(s.nJ (.var y)).map λp=>p.2.hold (.val p.1)
section
variable {w:aE}{K:aS}{mg mb:af->Option ae}{F:Fm}{s s' s0 s1 s2:S}{g g':Gh}{x:List ag}{σ σ':aw}{A:bj}{cx:Cx}{n:Nat}{G:bR}{D:ag}
def Gy(w:aE)(F:Fm)(s':S)(g:Gh)(u:ae)(σ:aw):Prop:=∀C:Prop,(∀(g':Gh) (h1:Z.le g.z g'.z) (h2:pre g.cs g'.cs) (h3:g'.tv=g.tv++[u]) (h4:Full w F s' g' [] σ),C)->C
theorem BM(a:g.le g2)(b:Full w F s g2 x2 σ)(c:dr w g2.z g2.cs g2.ρ sl u x2):Gy w F (s.hold sl) g u σ:=
 λQ_ k_=>k_ ({g2 with tv:=g2.tv++[u],ot:=g2.ot++x2}) a.z a.cs (congrArg (·++[u]) a.tv) (b.Zb c)
theorem VP(h:cg w g r u x):Bh r s=U s'->Full w F s g x σ->Gy w F s' g u σ:=
 cg.casesOn (motive:=λr u x j=>Bh r s=U s'->Full w F s g x σ->Gy w F s' g u σ) h (λhv q H=>aA q▸BM g.le_refl H (.val hv))
  (λhv q H=>(dw.mp q).elim λp k=>k.2▸(rp H (.var hv) k.1).elim λg2 a b c=>BM a b (.val c))
  (λh k l q H=>aA q▸BM g.le_refl H (.list h k l)) λh k l m q H=>aA q▸BM g.le_refl H (.dict h k l m)
theorem afN:uv w K mg mb n cx [] s s:=⟨λj j=>rfl,λpos F g σ A M=>aI (λQ_ k_=>k_ g rfl (Z.le_refl _) (bz _) ((bx _).symm) M.H)⟩
theorem acW(he:noStar e=J)(h:bJ w K mg mb n cx e s v s0)(q:Bh v s0=U s1)(k:uv w K mg mb n cx r s1 s'):uv w K mg mb n cx (e::r) s s':=⟨qJ he k.1,λpos F g σ A M=>by
 rw[mY he]
 refine au (h.go M (aQ _) λu aG g1 x1 a b c=>au (aI (au (gN ?_))))
 refine VP c q b _ λg2 a2 c2 t2 b2=>?_
 refine aW (k.2 pos F g2 aG A (M.on b2)) λxs bH h3=>?_
 exact h3 _ λg3 hl a3 b3 c3 d3=>aI (λQ_ k_=>k_ g3 (congrArg (·+1) hl) (Z.le_trans a.z (Z.le_trans a2 a3)) (kh a.cs (kh c2 b3)) (by rw[c3,t2,a.tv,aN,Jg]) d3)⟩
theorem ae6(h:s.bX=[]):ze w K mg mb n cx [] s s:=⟨λj=>rfl,λj=>rfl,λF g σ A M=>by
 have e:=M.H.yu h
 rw[e]
 exact assignInOrder_nil (λQ_ k_=>k_ g (Z.le_refl _) (bz _) e M.H)⟩
theorem ac7(hp:yB t)(q:s.bX=a::r)(h:qj w K mg mb n cx t a.r {s with bX:=r} s1)(k:ze w K mg mb n cx ts s1 s'):ze w K mg mb n cx (t::ts) s s':=
 ⟨λenv=>by rw[hp.each];exact K4 (k.star env),λenv=>by rw[hp.each];exact congrArg (·+1) (k.len env),λF g σ A M=>by
  rw[hp.each]
  refine M.H.Nv q _ λu vs o p e H1 hs=>?_
  rw[e]
  refine zY (aW (h F _ o σ A u M.C M.A H1 (MT hs)) λj aG h1=>?_)
  refine h1 _ λg1 a1 a2=>?_
  have h3:=k.run F g1 aG A (M.on a2)
  rw[a1.tv] at h3
  refine aW h3 λj bH h2=>?_
  exact h2 _ λg2 b1 b2 b3 b4 Q_ k_=>k_ g2 (Z.le_trans a1.z b1) (kh a1.cs b2) b3 b4⟩
def aej(w:aE)(F:Fm)(s':S)(g:Gh)(l:Nat)(v:ae)(σ':aw):Prop:=∀C:Prop,(∀(a:ag) (us:Array ae) (g':Gh) (e:v=.ref a) (ht:IsTup σ'.heap a us) (hl:us.size=l) (h1:Z.le g.z g'.z) (h2:pre g.cs g'.cs) (h3:g'.tv=us.toList) (h4:Full w F s' g' [] σ'),C)->C
theorem M0(hl:es.length<=100)(h:uv w K mg mb n cx es s s')(he:s.bX=[])(M:cc w K mg mb cx s F g σ A n):ax (ar ao w) A (eval (.Tuple es k p) F.env) (aej w F s' g es.length) aC σ:=
 wpAny_Tuple_spliced (aW (h.run p F g σ A M) λxs aG h1=>by
  exact h1 _ λg1 h0 a1 a2 a3 a4=>⟨h0▸bf hl (by decide),λQ_ k_=>k_ aG.heap.objs.size xs.toArray g1 rfl ⟨_,eM _ rfl,rfl,0,rfl⟩ (uL.trans h0) a1 a2 (by rw[a3,M.H.yu he];rfl) (a4.grow (λb o e=>dX _ e) rfl rfl)⟩)
theorem ML(h:F8 w F g1 s' σ)(hz:Z.le g.z g1.z)(hc:pre g.cs g1.cs)(ht:g.tv=[]):ky w F g s' .next .next σ:=by
 exact h _ λg3 b1 b2 b3 b4 Q_ k_=>k_ g3 ⟨Z.le_trans hz b1,kh hc b2,b3.trans ht.symm⟩ b4 .next
theorem Ma(H:Full w F s g x σ)(he:uZ σ.heap.objs.size σ.heap h'):Full w F s g x {σ with heap:=h'}:=H.grow (λb o e=>he b o (hJ (gy e)) e) rfl rfl
theorem aho(hc:cx.comp=ah)(eD:¬((ts.length=2\/ts.length=3)/\(jN cx ts).length=ts.length))(hl:es.length<=100)(hs:ts.length=es.length)(ht:s.bX=[])(h:uv w K mg mb n cx es s s1)(q:ze w K mg mb (n+1) cx ts s1 s'):
  fN w K mg mb (n+1) cx (.Assign [.Tuple ts k p1] (.Tuple es k2 p2) p) s .next s':=λF g σ A M=>
 Assign_Tuple (aW (M0 hl h ht M.dn) λv aG h1=>by
  refine h1 _ λa us g1 e a1 a2 a3 a4 a5 a6=>?_
  rw[e]
  refine assign_Tuple_tuple M.A.handled a1 (by rw[q.len,a2,hs]) (q.star F.env) λh' he=>?_
  rw[<-a5]
  exact aW (q.run F g1 _ A (M.on (Ma a6 he))) λj jY h3=>ML h3 a3 a4 (M.H.yu ht)) rfl (Xo M.C hc eD)
theorem ae5(hc:cx.comp=ah)(h1:ts.length=2\/ts.length=3)(h2:(jN cx ts).length=ts.length)(h4:(jN cx ts).eraseDups.length=ts.length)(h5:es.all noStar=J)(h6:es.all (foldedForSure 8)=ah)(h7:es.all (constantsAlone 8)=ah)
  (hl:es.length<=100) (hs:es.length=ts.length) (ht:s.bX=[]) (h:uv w K mg mb n cx es s s1) (q:Ay cx (jN cx ts).reverse {s1 with bX:=s1.bX.reverse}=U s'):
  fN w K mg mb (n+1) cx (.Assign [.Tuple ts k p1] (.Tuple es k2 p2) p) s .next s':=λF g σ A M=>
 Assign_Tuple_swapped (aW (M0 hl h ht M.dn) λv aG hv=>by
  refine hv _ λa us g1 e a1 a2 a3 a4 a5 a6=>?_
  rw[e,show(jN cx ts).length=us.size from h2.trans (hs.symm.trans a2.symm)]
  refine unpackItems_tuple M.A.handled a1 λh' he=>(Ma a6 he).adF.elim λo' H3=>?_
  rw[<-a5]
  exact aW (Tw M.C _ q H3) λj jY h3=>ML h3 a3 a4 (M.H.yu ht)) rfl (Tu M.C hc h1 h2 hs h4 h5 h6 h7)
theorem Vg(h:kH w g .next f):f=.next:=by
 cases h with
 |next=>rfl
theorem Vp{f:Flow}{fl:Fl}{P:Flow->Prop}(h:kH w g fl f)(hf:fl≠.next)(k:kH w g fl f->P f):match (generalizing:=false) f with
  |.next=>N
  |f=>P f:=by
 induction h with
 |next=>exact absurd rfl hf
 |brk=>exact k .brk
 |cont=>exact k .cont
 |ret h=>exact k (.ret h)
theorem aT(h:fN w K mg mb n cx b s .next s1)(k:nK w K mg mb n cx r s1 fl s'):nK w K mg mb n cx (b::r) s fl s':=λF g σ A M=>
 wpAny_execs_cons (aW (h F g σ A M) λf aG h1=>wy λG_ hG=>by
  refine h1 _ λg1 a1 a2 a3=>?_
  have e:f=.next:=Vg a3
  subst e
  exact hG (aW (k F g1 aG A (M.on a2)) λj j e=>e.ext a1))
theorem n9{b:br}{r:List br}{fl:Fl}(hf:fl≠.next)(h:fN w K mg mb n cx b s fl s'):nK w K mg mb n cx (b::r) s fl s':=λF g σ A M=>
 wpAny_execs_cons (aW (h F g σ A M) λf aG h1=>by
  exact h1 _ λg1 a1 a2 a3=>Vp a3 hf λh Q_ k_=>k_ g1 a1 a2 h)
end
end
section
section
variable {w:aE}{K:aS}{mg mb:af->Option ae}{F:Fm}{s s' s0 s1 s2:S}{g g':Gh}{x:List ag}{σ σ':aw}{A:bj}{cx:Cx}{n:Nat}{G:bR}{D:ag}
noncomputable def eK(G:bR)(a:Nat)(f:bb):Cx:=⟨f.sc,G.wx a,ah,aJ (a=Gf)⟩
noncomputable abbrev Fu(B:Fm)(env:dh):Fm:={B with bh:=env,env:=env,comp:=ah}
noncomputable abbrev acq(z ρ:Z)(cs om:List ag)(binds:List (af×ae))(env:dh)(h:az):Gh:={z:=z,cs:=cs,ρ:=jP (env.locals::env.cells.map (·.2)) h ρ,vl:=binds,cl:=[],tv:=[],ov:=[],ot:=[],om:=om}
theorem dN.w6(H:dN w B m z ρ cs om σ):∀a o,B.hb.get? a=U o->σ.heap.get? a=U o:=λa o e=>H.zi _ _ (H.zb _ _ (H.base _ _ e))
theorem U6(H:dN w B m z ρ cs om σ)(Hc:PySem.InCallC σ env.locals (bindL env.kindOf binds λj=>aj) env.cells (PySem.bindC env.kindOf binds λj=>aj) aG)
  (hv:eH w z cs ρ b binds []) (wL:(binds.map (·.1)).Nodup) (hcn:(env.cells.map (·.1)).Nodup) (hk:∀x v,lk x binds=U v->env.kindOf x=U .local\/(env.kindOf x=U .cell/\∃c,env.cells.lookup x=U c)):
  Full w (Fu B env) {vars:=b,mem:=m} (acq z ρ cs om binds env aG.heap) [] aG:=by
 have Gr:cU σ aG:=Hc.done.elim λh1 h=>h.elim λtk h=>⟨Hc.toInCall.keep,by rw[h.1],by rw[h.1]⟩
 have ge:∀y∈env.locals::env.cells.map (·.2),σ.heap.get? y=none:=eF.mpr ⟨zV Hc.toInCall.fresh,λy hy=>(i4.mp hy).elim λp hp=>zV (ee (bq Hc.toInCall.fresh (hp.2▸Hc.above p.1 p.2 hp.1)))⟩
 have off:∀y,(∃o,ρ y=U o)->y∉env.locals::env.cells.map (·.2):=λy h hy=>h.elim λo e=>ay ((ge y hy).symm.trans (H.ri _ _ e))
 have R:=(H.toReg.grown Gr).over λy hy=>⟨Z.no H.zi (ge y hy),Z.no H.ki (ge y hy)⟩
 have Qi:=H.tb.FD
 refine⟨⟨R.zi,R.ki,R.ri,R.rz,R.zk,R.zb,R.base,R.gens,R.os⟩,⟨⟨?_,λp hp=>?_,hk⟩,H.tb.mono (Z.le_refl _) (q8 (off _ Qi)),λe=>(bo e),hv.mono (Z.le_refl _) (bz _) λj hb=>(dq hb),.nil,H.mem.mono (Z.le_refl _) (bz _) λy hy=>q8 (off _ (H.mem.eY y hy)),.nil,?_,λy hy=>(dq hy)⟩⟩
 ·exact(kl.mp Hc.toInCall.ns).elim λo k=>⟨o,_,(s6 (.head _)).trans k.1,k.2,λx u hx hk=>Yv env.kindOf binds (λj=>aj) wL x u hx hk⟩
 ·exact(Hc.cell p.1 p.2 (lookup_of_mem_nodup hcn hp)).elim λo k=>⟨o,(s6 (.tail _ (qC hp))).trans k.1,⟨_,k.2⟩,λu j hu hk=>k.2.trans (congrArg PySem.Data.cell (Xi env.kindOf binds (λj=>aj) wL p.1 u hu hk))⟩
 ·show(env.locals::env.cells.map (λp:af×ag=>p.2)++[]++[B.tab]++[]++[]++om++[]).Nodup
  rw[bx,bx,bx,bx,aN]
  refine cM.mpr ⟨eN.mpr ⟨λhx=>(i4.mp hx).elim λp hp=>sL _ (hp.2▸Hc.above p.1 p.2 hp.1:env.locals<env.locals),z4.mpr Hc.apart⟩,H.nd,λy hy u hu e=>?_⟩
  exact off u ((cf.mp hu).elim (λq=>q▸Qi) (H.mem.eY u)) (e▸hy)
theorem WV(h:kH w g fl f)(hr:fl=.ret r\/(fl=.next/\r=.none)):Den w g.z g.cs r (match (generalizing:=false) f with|.ret v=>v|_=>.none):=by
 induction h with
 |ret h=>exact hr.elim (λe=>Fl.ret.inj e▸h) λe=>nomatch e.1
 |next=>exact hr.elim (λe=>nomatch e) λe=>e.2▸.none
 |brk=>exact hr.elim (λe=>nomatch e) λe=>nomatch e.1
 |cont=>exact hr.elim (λe=>nomatch e) λe=>nomatch e.1
theorem Ur(h:((m4 0 l []).map (·.1)).Nodup):((m4 k l []).map (·.1)).Nodup:=cellsFrom_names l 0 k [] [] rfl▸h
theorem Wc{ps:List af}{xs:List ae}(h:ps.length=xs.length):(ps.zip xs).map (·.1)=ps:=List.map_fst_zip (eA h)
theorem XM{a b p:Nat}(h1:a<=p)(h2:p<=a+b):p=a+(b-(b-(p-a))):=by
 rw[Nat.sub_sub_self (Nat.sub_le_iff_le_add'.mpr h2)]
 exact(Nat.add_sub_cancel' h1).symm
theorem C5{a:Nat}{f:bb}{vs:List V}{m:List M}{b:List (af×Sl)}{fl:Fl}{s2:S}{r:V}(O:B8 w K a f)(q1:vT f.params vs f.defaults=U b)(hx:nK w K mg mb n (eK G a f) f.body {vars:=b,mem:=m} fl s2)(hr:fl=.ret r\/(fl=.next/\r=.none)):
  uu w K mg mb (n+1) a vs m r s2.mem:=⟨O.keep,λB z ρ cs om σ A ys Ba hA H hd=>by
 refine O.fn _ λo fd ds c oc cvs tq ho agT body names kind co gen Qx r5 blt lam c1 c2 c3 c4 HJ bind=>?_
 have hK:K.In σ.heap:=Ba.k.keeps H.w6
 have e1:=(HJ z cs).length
 have e2:=hd.length
 have hdl:aF w z cs (vs++f.defaults.drop (f.defaults.length-(f.params.length-vs.length))) (ys++ds.drop (ds.length-(f.params.length-ys.length))):=by
  rw[e1,e2]
  exact hd.append ((HJ z cs).drop _)
 have P:=US (ρ:=ρ) q1 hdl
 rw[e1,e2] at P
 refine codeAny_call_function hA.room (hK _ _ ho) agT co gen body ⟨c,oc,cvs,tq,c1,hK _ _ c2,c3,c4⟩ (bind ys σ hK P.1.1 P.1.2 _ _ _ _ ?_)
 have OS:=P.2
 have Hp:(f.params.zip (ys++ds.drop (ds.length-(f.params.length-ys.length)))).map (·.1)=f.params:=Wc (by rw[aX,mU];exact XM P.1.1 P.1.2)
 rw[Qx]
 generalize f.params.zip (ys++ds.drop (ds.length-(f.params.length-ys.length)))=binds at OS Hp ⊢
 have Rc:∀x∈binds,x.1∈f.params:=λx hx=>Hp▸qC hx
 refine wpAny_newFunctionEnv_cells kind (λx hx=>by rw[names];exact O.kind x.1 (Rc x hx) _) λenv he s1 Hc=>?_
 have Cr:env.scope=fd.scope:=by rw[he];rfl
 have Fh:env.cells=m4 (σ.heap.objs.size+1) f.sc []:=by rw[he,<-names];rfl
 have ago:∀x,env.kindOf x=f.sc.lookup x:=λx=>by unfold D2;rw[Cr,names]
 have hF:=U6 H Hc OS (Hp▸O.nodup) (Fh▸Ur O.cells) λx u hx=>by
  rw[ago,Fh]
  exact(O.kind x (Rc (x,u) (Bj hx)) (σ.heap.objs.size+1)).imp id λk=>⟨k.1,Ja.mp k.2⟩
 have hC:cz w K mg mb (eK G a f) (Fu B env):=
  {base:=Ba,kind:=Cr▸kind,pW:=Cr▸kind,glob:=by rw[he];exact r5,blt:=by rw[he];exact blt,cmp:=rfl,fn:=λy=>⟨rfl,by rw[Cr,names];rfl⟩,qn:=λy x hx=>Fh▸O.qn x _ hx,loc:=λe=>(bo e),zo:=λe=>(bo e),r5:=λe=>(bo e),
   lam:=λe y=>⟨by rw[he];exact(lam (of_decide_eq_true e)).1,by rw[he,<-(lam (of_decide_eq_true e)).2];rfl⟩}
 have up:∀{a j k i:Nat},j<=i->a+j+k<=a+(k+i):=λ{a j k i} h=>bf (eA (j9 a j k)) (gd (kb k i▸uI h k) a)
 have hA':cJ n (A.deeper env):=⟨hA.handled,bq (up (by decide)) hA.depth,bq (up (by decide)) hA.units⟩
 refine⟨Ba.lim.keeps λb o e=>Hc.toInCall.keep _ _ (H.w6 _ _ e),codeAny_func (jn (hx (Fu B env) _ s1 _ ⟨hC,hA',hF⟩) (λf' s' h'=>?_) λy y e=>e.elim)⟩
 exact h' _ λg2 a1 a2 a3 Q_ k_=>k_ _ rfl g2.z g2.ρ g2.cs g2.om a1.z a1.cs ⟨⟨a2.zi,a2.ki,a2.ri,a2.rz,a2.zk,a2.zb,a2.base,a2.gens,a2.os⟩,a2.tb,a2.mem,a2.Ob⟩ (WV a3 hr)⟩
end
end
section
section
variable {w:aE}{K:aS}{mg mb:af->Option ae}{F:Fm}{s s' s0 s1 s2:S}{g g':Gh}{x:List ag}{σ σ':aw}{A:bj}{cx:Cx}{n:Nat}{G:bR}{D:ag}
noncomputable abbrev Bp(ap np cp sp kp:aY)(ck:Nat)(sc:gE):Keyword:=⟨U (n! "key"),.Lambda (s9 ap) (s7 np cp sp ck) sc pM,kp⟩
theorem Wz(Ba:Base w K F.hb mg mb)(hA:cJ (n+1) A)(H:Full w F s g [] σ)(hs:yM sc)(L:BP σ.heap ap np cp sp ck sc u)(e1:σ.heap.get? pa=U (bg us m))
  (e2:aF w g.z g.cs xs us.toList) (hi:vF xs=U l) (dy:l.length<64):ax (ar ao w) A (call (.builtin "sorted") [.ref pa] [(uW "key",u)]) (cO w F g s (.list ((kC l).map (·.2)))) aC σ:=by
 have kx:=Ww hi
 have hlen:(l.map (·.1)).length=us.toList.length:=by rw[<-e2.length,kx.1,aO,aO]
 induction L with
 |mk ho hd hc=>
  refine U5 (.inl rfl) (by rw[Sy];exact e1) hlen (by rw[<-hlen,aO];exact dy) (λi v k hv hk s2 G2=>?_) λs2 D c out G2 k1 k2 k3=>?_
  ·rw[gj] at hk
   refine(dw.mp hk).elim λp h=>(e2.get (by rw[kx.1,gj,h.1];rfl)).elim λy hy=>?_
   rw[aA (hv.symm.trans hy.1),<-h.2]
   refine XP (kx.2 i p h.1) hy.2 _ λa vs m t e hz h0=>?_
   rw[e]
   exact wpAny_call (Yz (show A.depth<recursionLimit from hA.room) hs (G2.heap _ _ ho) hd (S9 hc G2.heap) (Ba.lim.keeps λb o e=>G2.heap b o (H.hb b o e)) (G2.heap _ _ (H.zi _ _ hz)) h0 λs3 G3=>⟨⟨_,rfl⟩,G3⟩)
  ·have D:=Ub e2 kx.1 k3
   exact xO H G2 k1 k2 D.1 (by rw[<-fO,D.2];exact bf (ee dy) (by decide))
theorem Me(l:List Int):(fZ l).length<=l.length:=by
 induction l with
 |nil=>exact aQ _
 |cons i r ih=>
  by_cases h:r.contains i=J
  ·exact sC ((congrArg qL (if_pos h:fZ (i::r)=fZ r)).symm▸ih)
  ·exact(congrArg qL (if_neg h:fZ (i::r)=i::fZ r)).symm▸gM ih
theorem M9{r:R}{ys:List ae}{P:List ae->Prop}(h:oq w g [r] ys)(k:∀y,cg w g r y []->P [y]):P ys:=sO h λy q h1 h2=>by
 rw[vc h2]
 exact k y h1
theorem rKey(T:eG w K mg mb G){f:af}{p pos ap np cp sp kp:aY}{sc:gE}{a:ai}{r:R}{l:List (Int×V)}(hs:yM sc)(yQ:cx.lam=J)(hcomp:cx.comp=ah)(hn:dU G cx f s=U (.val (.bi "sorted")))(ha:noStar a=J)(ho:dF w K mg mb n cx a s r s')
  (hp:s'.peek r=U (.list xs)) (hi:vF xs=U l) (dy:l.length<64):bJ w K mg mb (n+1) cx (.Call (.Name f p) [a] [Bp ap np cp sp kp ck sc] pos) s (.list ((kC l).map (·.2))) s':=λF g σ A M=>
 have O:=Fx ha ho Gj
 au (vv T M.C M.H hn (λj d=>d.inv) (callWith_kw (O.go M (dm _) λys aG g1 a1 a2 a3=>
  M9 (P:=λys=>ax (ar ao w) A (evalAll ((backToKw pos (keywordEach [Bp ap np cp sp kp ck sc] F.env)).map (·.2))) (λkvs kF=>ax (ar ao w) A (call (.builtin "sorted") ys (((backToKw pos (keywordEach [Bp ap np cp sp kp ck sc] F.env)).filterMap (·.1)).zip kvs)) (cO w F g s' (.list ((kC l).map (·.2)))) aC kF) aC aG) a3 λy hr=>
   kws_cons (Yw M.C yQ hcomp a2 hs λu bH g2 b1 b2 b3=>kws_nil (by
    refine(gp b2 (hr.mono b1) hp).isList b2.zi _ λpa us m e0 e1 e2 e3=>?_
    rw[e0]
    exact aW (Wz M.C.base M.A b2 hs b3 e1 e2 hi dy) λj j e=>e.le (a1.le_trans b1)))) (by rw[mY ha];rfl) (by rw[mY ha];rfl) rfl rfl))
theorem Uw(hA:A.handled=aj)(e1:σ.heap.get? pa=U (bg us m))(hI:dO us.toList l)(dy:l.length<64)
  (h:∀σ' a,SortedTo σ (fZ l) a σ'->Q (.ref a) σ'):ax (ar ao w) A (call (.type "set") [.ref pa]) (λv s1=>ax (ar ao w) A (call (.builtin "sorted") [v]) Q aC s1) aC σ:=
 S8 hA e1 hI (ct (qI dy) (by decide)) λs1 k=>by
  refine k _ λh' tk e h1 h2=>?_
  subst e
  have hl:(fZ l).length<64:=bq (Me l) dy
  have hp:=LF l
  refine Ap (TY hA h1 (ee (hp.length_eq▸ct hl (by decide)))) (hp.length_eq▸hl) fun σ' a k=>?_
  exact k _ λout e G f1 f2 f3=>h σ' a (λQ_ k_=>k_ out e (cU.trans (b:={σ with heap:=h',toks:=tk}) ⟨h2,rfl,rfl⟩ G) (Z.no h2 f1) f2 (WL l▸f3))
theorem Yh(T:eG w K mg mb G){f z:af}{p pos pz yU:aY}{a:ai}{r:R}(hn:dU G cx f s=U (.val (.bi "sorted")))(hz:dU G cx z s=U (.val (.ty "set")))(ha:noStar a=J)(ho:dF w K mg mb n cx a s r s')(hp:s'.peek r=U (.list xs))(hi:vW xs=U l)(dy:l.length<64):
  bJ w K mg mb (n+1) cx (.Call (.Name f p) [.Call (.Name z pz) [a] [] yU] [] pos) s (.list ((sortI (fZ l)).map .int)) s':=λF g σ A M=>
 have O:=Fx ha ho Gj
 Call_Name rfl (vv T M.C M.H hn (λj d=>d.inv) (callWith_builtin rfl (uU rfl (by
  show ax (ar ao w) A (do let v <-eval (.Call (.Name z pz) [a] [] yU) F.env;let here <-(do let w <-pure [v];pure w);return here++(<-holding here (spliced (i8 pos (gC [] F.env))))) _ _ _
  refine au (Call_Name rfl (vv T M.C M.H hz (λj d=>d.inv) (I6 (O.1 _ _) (uU (O.1 _ _) (O.go M (dm _) λys aG g1 a1 a2 a3=>M9 (P:=λys=>ax (ar ao w) A (call (.type "set") ys) _ aC aG) a3 λy hr=>?_)))))
  refine(gp a2 hr hp).isList a2.zi _ λpa us m e0 e1 e2 e3=>?_
  rw[e0]
  refine aW (Uw M.A.handled e1 (D6 (Ki hi▸e2)) dy fun σ' b k=>?_) λv s2 k=>au (aI (au (gN (aI (aI k)))))
  exact k _ λout e G f1 f2 f3=>(xO a2 G f1 f2 (El f3) (by rw[<-fO,f3.length,(sortI_perm _).length_eq];exact bf (Me l) (bf (ee dy) (by decide)))).le a1))))
theorem afr(T:eG w K mg mb G)(hl0:ke≠[])(hl15:ke.length<=15)(q:EA G cx ke ve [] [] s=U ((ks,vs),s1)):
  fN w K mg mb (n+1) cx (.Return (U (.Dict ke ve pos)) p) s (.ret (.cell s1.mem.length)) {s1 with mem:=s1.mem++[.dict ks vs]}:=λF g σ A M=>
 wpAny_Return_some (by
  refine Ud T q (pos:=pos) _ λps h1 h2 h3 h4 h5=>?_
  exact aW (KQ M h1 h2 hl0 hl15 h3 h4 fun ρ x g' σ' C H=>h5 (gH F ρ x) g' A σ' C H) λy aG h=>by
   exact h _ λg1 x1 a b c=>(Ll b c rfl).elim λg2 a2 b2 c2 Q_ k_=>k_ g2 ((a.le_trans a2).ext) b2 (.ret c2))
theorem abl(T:eG w K mg mb G)(q:dU G cx z s=U (.var y))(h:bJ w K mg mb n cx (.Name iy ip) s (.val (.int j)) s1)(q2:lk y s1.vars=U (.list xs))(q3:jx xs j=U (.int a))
  (h2:bJ w K mg mb n cx e s1 (.val (.int b)) s2) (q5:lk y s2.vars=U (.list CQ)) (q6:fg o (.int a) (.int b)=U (.val v)) (q7:setAt CQ j v=U ys):fN w K mg mb (n+1) cx (.AugAssign (.Subscript (.Name z p1) (.Name iy ip) p2) o e p) s .next (s2.set y (.list ys)):=λF g σ A M=>
 wpAny_AugAssign_SubscriptAny (wpAny_Name (yo T M.C M.H q λu hu x=>h.val M (dm _) λiv aG g1 a1 a2 a3=>a3.inv.elim λtj hj=>by
  have qe:cg w g1 (.var y) u []:=.var ((congrArg (lk y) a1.vl).trans (pC hu))
  rw[hj]
  refine Nh M.A a2 (gp a2 qe (pv:=.list xs) (congrArg (λo=>o.bind s1.FC) q2)) (.den (.int j tj)) q3 λov t1 hov=>h2.val (M.on (a2.toks t1)) (dm _) λev bH g2 b1 b2 b3=>hov.inv.elim λta ha=>b3.inv.elim λtb hb=>?_
  rw[ha,hb]
  refine aW (Ks q6) λnv jY h3=>?_
  refine h3 _ λi3 tk3 k3 e3 en es=>?_
  rw[en,es]
  exact aW (LO (Nb q5 F g2 _ u (b2.toks k3) (qe.mono b1)) q7 (R.val.inj e3▸.int i3 tk3) rfl) λx x e=>(e.le (a1.le_trans b1).ext).toX) (KH q)) λx x x=>rfl
end
end
section
set_option genInjectivity false
set_option genInjectivity false in
structure Ws(G:bR) where
 w:aE
 K:aS
 mg:af->Option ae
 mb:af->Option ae
 T:eG w K mg mb G
 hf:∀a f,G.fn a=U f->B8 w K a f
set_option genInjectivity false in
inductive H where
 |b (c:Bool)|r (r:R)|v (v:V)|s (fl:Fl) (s:S)|l (ys:List V) (s:S)|c (v:V) (s:S)|i (l:List Int)|k (l:List (Int×V))
noncomputable abbrev Hs:=Nat->Option H
noncomputable def key(t:Nat)(p:aY):Nat:=((p.line*1000+p.col)*1000+p.endCol)*10+t
def oP{α:Type}(o:Option α)(k:α->Prop):Prop:=Option.rec False k o
def hP{α:Type}(h o:Option α)(k:α->Prop):Prop:=Option.rec (oP o k) (λx=>o=U x/\k x) h
def bP(b:Bool)(k:Prop):Prop:=Bool.rec False k b
def cP{α:Type}(h:Option α)(c:Prop)[d:Decidable c](k:Prop):Prop:=Option.rec (bP (decide c) k) (λj=>c/\k) h
def iP(b:Bool)(k l:Prop):Prop:=Bool.rec l k b
section
variable {α:Type}{P:Prop}
theorem aK(h:oP o k)(c:∀x,o=U x->k x->P):P:=by
 induction o with
 |none=>exact h.elim
 |some x=>exact c x rfl h
theorem kr(h:hP h' o k)(c:∀x,o=U x->k x->P):P:=by
 induction h' with
 |none=>exact aK h c
 |some x=>exact c x h.1 h.2
theorem cu(h:bP b k)(c:b=J->k->P):P:=by
 induction b with
 |false=>exact h.elim
 |true=>exact c rfl h
theorem rv[d:Decidable q](h:cP h' q k)(c:q->k->P):P:=by
 induction h' with
 |none=>exact cu h λe=>c (of_decide_eq_true e)
 |some x=>exact c h.1 h.2
theorem fS(h:iP b k l)(c1:b=J->k->P)(c2:b=ah->l->P):P:=by
 induction b with
 |false=>exact c2 rfl h
 |true=>exact c1 rfl h
end
noncomputable def H.bool(v:H):Option (Bool):=H.casesOn (motive:=λj=>Option (Bool)) v (λa=>U a) (λj=>aq) (λj=>aq) (λj j=>aq) (λj j=>aq) (λj j=>aq) (λj=>aq) (λj=>aq)
noncomputable def H.res(v:H):Option (R):=H.casesOn (motive:=λj=>Option (R)) v (λj=>aq) (λa=>U a) (λa=>U (.val a)) (λj j=>aq) (λj j=>aq) (λj j=>aq) (λj=>aq) (λj=>aq)
noncomputable def H.val(v:H):Option (V):=H.casesOn (motive:=λj=>Option (V)) v (λj=>aq) (λj=>aq) (λa=>U a) (λj j=>aq) (λj j=>aq) (λj j=>aq) (λj=>aq) (λj=>aq)
noncomputable def H.keyed(v:H):Option (List (Int×V)):=H.casesOn (motive:=λj=>Option (List (Int×V))) v (λj=>aq) (λj=>aq) (λj=>aq) (λj j=>aq) (λj j=>aq) (λj j=>aq) (λj=>aq) (λa=>U a)
noncomputable def H.ints(v:H):Option (List Int):=H.casesOn (motive:=λj=>Option (List Int)) v (λj=>aq) (λj=>aq) (λj=>aq) (λj j=>aq) (λj j=>aq) (λj j=>aq) (λa=>U a) (λj=>aq)
noncomputable def H.ls(v:H):Option (List V×S):=H.casesOn (motive:=λj=>Option (List V×S)) v (λj=>aq) (λj=>aq) (λj=>aq) (λj j=>aq) (λa b=>U (a,b)) (λj j=>aq) (λj=>aq) (λj=>aq)
noncomputable def H.fs(v:H):Option (Fl×S):=H.casesOn (motive:=λj=>Option (Fl×S)) v (λj=>aq) (λj=>aq) (λj=>aq) (λa b=>U (a,b)) (λj j=>aq) (λj j=>aq) (λj=>aq) (λj=>aq)
noncomputable def H.cv(v:H):Option (V×S):=H.casesOn (motive:=λj=>Option (V×S)) v (λj=>aq) (λj=>aq) (λj=>aq) (λj j=>aq) (λj j=>aq) (λa b=>U (a,b)) (λj=>aq) (λj=>aq)
noncomputable def H.lv(h:H):Option (List V):=h.val.bind V.lJ
noncomputable def R.ad3(v:R):Option (List V×List V):=R.casesOn (motive:=λj=>Option (List V×List V)) v (λj=>aq) (λj=>aq) (λj=>aq) (λa b=>U (a,b))
noncomputable def H.p8(h:H):Option (List V×List V):=h.res.bind R.ad3
noncomputable def R.fJ(v:R):Option (V):=R.casesOn (motive:=λj=>Option (V)) v (λa=>U a) (λj=>aq) (λj=>aq) (λj j=>aq)
theorem R.kn:R.fJ v=U x->v=R.val x:=
 R.casesOn (motive:=λv=>R.fJ v=U x->v=R.val x) v (λa=>λh=>aA h▸rfl) (λj=>ay) (λj=>ay) (λj j=>ay)
noncomputable def R.asVar(v:R):Option (af):=R.casesOn (motive:=λj=>Option (af)) v (λj=>aq) (λa=>U a) (λj=>aq) (λj j=>aq)
theorem R.AL:R.asVar v=U x->v=R.var x:=
 R.casesOn (motive:=λv=>R.asVar v=U x->v=R.var x) v (λj=>ay) (λa=>λh=>aA h▸rfl) (λj=>ay) (λj j=>ay)
noncomputable def V.Bg(v:V):Option (Bool):=V.casesOn (motive_1:=λj=>Option (Bool)) v aq (λa=>U a) (λj=>aq) (λj=>aq) (λj=>aq) (λj=>aq) (λj=>aq) (λj=>aq) (λj=>aq) (λj j=>aq) (λj j j=>aq) (λj=>aq)
theorem V.V8:V.Bg v=U x->v=V.bool x:=
 V.casesOn (motive_1:=λv=>V.Bg v=U x->v=V.bool x) v ay (λa=>λh=>aA h▸rfl) (λj=>ay) (λj=>ay) (λj=>ay) (λj=>ay) (λj=>ay) (λj=>ay) (λj=>ay) (λj j=>ay) (λj j j=>ay) (λj=>ay)
noncomputable def V.Hq(v:V):Option (Nat):=V.casesOn (motive_1:=λj=>Option (Nat)) v aq (λj=>aq) (λj=>aq) (λj=>aq) (λa=>U a) (λj=>aq) (λj=>aq) (λj=>aq) (λj=>aq) (λj j=>aq) (λj j j=>aq) (λj=>aq)
theorem V.Z1:V.Hq v=U x->v=V.fn x:=
 V.casesOn (motive_1:=λv=>V.Hq v=U x->v=V.fn x) v ay (λj=>ay) (λj=>ay) (λj=>ay) (λa=>λh=>aA h▸rfl) (λj=>ay) (λj=>ay) (λj=>ay) (λj=>ay) (λj j=>ay) (λj j j=>ay) (λj=>ay)
noncomputable def V.BX(v:V):Option (String):=V.casesOn (motive_1:=λj=>Option (String)) v aq (λj=>aq) (λj=>aq) (λj=>aq) (λj=>aq) (λa=>U a) (λj=>aq) (λj=>aq) (λj=>aq) (λj j=>aq) (λj j j=>aq) (λj=>aq)
theorem V.Mo:V.BX v=U x->v=V.bi x:=
 V.casesOn (motive_1:=λv=>V.BX v=U x->v=V.bi x) v ay (λj=>ay) (λj=>ay) (λj=>ay) (λj=>ay) (λa=>λh=>aA h▸rfl) (λj=>ay) (λj=>ay) (λj=>ay) (λj j=>ay) (λj j j=>ay) (λj=>ay)
noncomputable def V.Cf(v:V):Option (String):=V.casesOn (motive_1:=λj=>Option (String)) v aq (λj=>aq) (λj=>aq) (λj=>aq) (λj=>aq) (λj=>aq) (λa=>U a) (λj=>aq) (λj=>aq) (λj j=>aq) (λj j j=>aq) (λj=>aq)
theorem V.MH:V.Cf v=U x->v=V.ty x:=
 V.casesOn (motive_1:=λv=>V.Cf v=U x->v=V.ty x) v ay (λj=>ay) (λj=>ay) (λj=>ay) (λj=>ay) (λj=>ay) (λa=>λh=>aA h▸rfl) (λj=>ay) (λj=>ay) (λj j=>ay) (λj j j=>ay) (λj=>ay)
noncomputable def V.yy(v:V):Option (List V×List V):=V.casesOn (motive_1:=λj=>Option (List V×List V)) v aq (λj=>aq) (λj=>aq) (λj=>aq) (λj=>aq) (λj=>aq) (λj=>aq) (λj=>aq) (λj=>aq) (λa b=>U (a,b)) (λj j j=>aq) (λj=>aq)
theorem V.Ec:V.yy v=U x->v=V.dict x.1 x.2:=
 V.casesOn (motive_1:=λv=>V.yy v=U x->v=V.dict x.1 x.2) v ay (λj=>ay) (λj=>ay) (λj=>ay) (λj=>ay) (λj=>ay) (λj=>ay) (λj=>ay) (λj=>ay) (λa b=>λh=>aA h▸rfl) (λj j j=>ay) (λj=>ay)
noncomputable def V.vH(v:V):Option (Nat×List af×List V):=V.casesOn (motive_1:=λj=>Option (Nat×List af×List V)) v aq (λj=>aq) (λj=>aq) (λj=>aq) (λj=>aq) (λj=>aq) (λj=>aq) (λj=>aq) (λj=>aq) (λj j=>aq) (λa b c=>U (a,b,c)) (λj=>aq)
theorem V.K7:V.vH v=U x->v=V.inst x.1 x.2.1 x.2.2:=
 V.casesOn (motive_1:=λv=>V.vH v=U x->v=V.inst x.1 x.2.1 x.2.2) v ay (λj=>ay) (λj=>ay) (λj=>ay) (λj=>ay) (λj=>ay) (λj=>ay) (λj=>ay) (λj=>ay) (λj j=>ay) (λa b c=>λh=>aA h▸rfl) (λj=>ay)
noncomputable def Sl.p8(v:Sl):Option (List V×List V):=Sl.casesOn (motive:=λj=>Option (List V×List V)) v (λj=>aq) (λj=>aq) (λa b=>U (a,b))
theorem Sl.FT:Sl.p8 v=U x->v=Sl.dict x.1 x.2:=
 Sl.casesOn (motive:=λv=>Sl.p8 v=U x->v=Sl.dict x.1 x.2) v (λj=>ay) (λj=>ay) (λa b=>λh=>aA h▸rfl)
noncomputable def M.p8(v:M):Option (List V×List V):=M.casesOn (motive:=λj=>Option (List V×List V)) v (λj=>aq) (λa b=>U (a,b)) (λj j j=>aq) (λj=>aq)
theorem M.FT{v:M}{x:List V×List V}:M.p8 v=U x->v=M.dict x.1 x.2:=
 M.casesOn (motive:=λv=>M.p8 v=U x->v=M.dict x.1 x.2) v (λj=>ay) (λa b=>λh=>aA h▸rfl) (λj j j=>ay) (λj=>ay)
noncomputable def M.ins(v:M):Option (Nat×List af×List V):=M.casesOn (motive:=λj=>Option (Nat×List af×List V)) v (λj=>aq) (λj j=>aq) (λa b c=>U (a,b,c)) (λj=>aq)
theorem M.abD{v:M}{x:Nat×List af×List V}:M.ins v=U x->v=M.inst x.1 x.2.1 x.2.2:=
 M.casesOn (motive:=λv=>M.ins v=U x->v=M.inst x.1 x.2.1 x.2.2) v (λj=>ay) (λj j=>ay) (λa b c=>λh=>aA h▸rfl) (λj=>ay)
theorem Sl.rl{v:Sl}:v.gb=U x->v=.list x:=
 Sl.casesOn (motive:=λv=>v.gb=U x->v=.list x) v (λj=>ay) (λa=>λh=>aA h▸rfl) (λj j=>ay)
theorem M.rl{v:M}:v.gb=U x->v=.list x:=
 M.casesOn (motive:=λv=>v.gb=U x->v=.list x) v (λa=>λh=>aA h▸rfl) (λj j=>ay) (λj j j=>ay) (λj=>ay)
noncomputable def V.isNone(v:V):Bool:=V.casesOn (motive_1:=λj=>Bool) v J (λj=>ah) (λj=>ah) (λj=>ah) (λj=>ah) (λj=>ah) (λj=>ah) (λj=>ah) (λj=>ah) (λj j=>ah) (λj j j=>ah) (λj=>ah)
theorem V.KZ{v:V}:v.isNone=J->v=.none:=
 V.casesOn (motive_1:=λv=>v.isNone=J->v=.none) v (λj=>rfl) (λj=>bo) (λj=>bo) (λj=>bo) (λj=>bo) (λj=>bo) (λj=>bo) (λj=>bo) (λj=>bo) (λj j=>bo) (λj j j=>bo) (λj=>bo)
end
section
def eP{α:Type}(o:Option α)(d:Prop)(k:α->Prop):Prop:=Option.rec d k o
theorem eB{α:Type}{P:Prop}{o:Option α}{d:Prop}{k:α->Prop}(h:eP o d k)(c0:o=aj->d->P)(c:∀x,o=U x->k x->P):P:=by
 induction o with
 |none=>exact c0 rfl h
 |some x=>exact c x rfl h
noncomputable def one?{α:Type}(l:List α):Option α:=List.casesOn (motive:=λj=>Option α) l aj λa r=>List.casesOn (motive:=λj=>Option α) r (U a) λj j=>aj
theorem nq(h:one? l=U a):l=[a]:=by
 rcases l with _|⟨b,_|⟨c,r⟩⟩
 ·exact ay h
 ·exact aA h▸rfl
 ·exact ay h
noncomputable def nH{α:Type}(l:List α):Option (α×List α):=List.rec aj (λa r j=>U (a,r)) l
theorem pO(h:nH l=U q):l=q.1::q.2:=by
 induction l with
 |nil=>exact ay h
 |cons a r=>exact aA h▸rfl
theorem AA(h:(!l.isEmpty)=J):l≠[]:=λe=>by
 rw[e] at h
 exact bo h
theorem L9(h:l.isEmpty=ah):l≠[]:=λe=>by
 rw[e] at h
 exact jk h
noncomputable def tP(o:rj)(b:Bool):Bool:=rj.rec (!b) b o
noncomputable def OG(o:rj):Bool:=rj.rec J ah o
set_option genInjectivity false in
structure PI where
 ev:Cx->ai->S->(R->S->Prop)->Prop
 ts:Cx->ai->S->(Bool->S->Prop)->Prop
 ex:Cx->List br->S->(Fl->S->Prop)->Prop
 ca:Nat->List V->List M->(V->List M->Prop)->Prop
section
variable {G:bR}(W:Ws G)(n:Nat)
noncomputable abbrev Ev:=bJ W.w W.K W.mg W.mb n
noncomputable abbrev Op:=dF W.w W.K W.mg W.mb n
noncomputable abbrev Va:=gh W.w W.K W.mg W.mb n
noncomputable abbrev Ts:=fL W.w W.K W.mg W.mb n
noncomputable abbrev Ca:=uu W.w W.K W.mg W.mb n
noncomputable abbrev Cv:=oW W.w W.K W.mg W.mb n
noncomputable abbrev Ex:=nK W.w W.K W.mg W.mb n
noncomputable abbrev Sm:=fN W.w W.K W.mg W.mb n
structure bS(I:PI):Prop where
 ev:∀{cx e s} {k:R->S->Prop} {P:Prop},I.ev cx e s k->(∀r s',Ev W n cx e s r s'->k r s'->P)->P
 ts:∀{cx e s} {k:Bool->S->Prop} {P:Prop},I.ts cx e s k->(∀r s',Ts W n cx e s r s'->k r s'->P)->P
 ex:∀{cx e s} {k:Fl->S->Prop} {P:Prop},I.ex cx e s k->(∀r s',Ex W n cx e s r s'->k r s'->P)->P
 ca:∀{a vs m} {k:V->List M->Prop} {P:Prop},I.ca a vs m k->(∀v m',Ca W n a vs m v m'->k v m'->P)->P
end
section
variable (hs:Hs)(I:PI)(cx:Cx)
def kR(e:ai)(s:S)(k:R->S->Prop):Prop:=I.ev cx e s λr s'=>k r.fix s'
def jD(e:ai)(s:S)(k:V->S->Prop):Prop:=I.ev cx e s λr s'=>oP (s'.nJ r) λq=>k q.1 q.2
def Cz(es:List ai):S->(List V->S->Prop)->Prop:=List.rec (motive:=λj=>S->(List V->S->Prop)->Prop) (λs k=>k [] s) (λe j ih s k=>bP (noStar e) (jD I cx e s λv s0=>ih s0 λvs=>k (v::vs))) es
def zG(es:List ai):S->(List R->S->Prop)->Prop:=List.rec (motive:=λj=>S->(List R->S->Prop)->Prop) (λs k=>k [] s) (λe j ih s k=>bP (noStar e) (kR I cx e s λv s0=>ih s0 λvs=>k (v::vs))) es
def Im(es:List ai):S->(List V->S->Prop)->Prop:=List.rec (motive:=λj=>S->(List V->S->Prop)->Prop) (λs k=>k [] s) (λe j ih s k=>bP (noStar e) (jD I cx e s λv s0=>hP ((hs (key 5 e.pos)).bind H.cv) (vV v s0) λq=>ih q.2 λvs=>k (q.1::vs))) es
def Q4(o:rj)(es:List ai):S->(Bool->S->Prop)->Prop:=List.rec (motive:=λj=>S->(Bool->S->Prop)->Prop) (λj j=>False) (λe r ih s k=>I.ev cx e s λv s1=>oP (v.fJ.bind V.Bg) λb=>iP r.isEmpty (k b s1) (iP (tP o b) (k b s1) (ih s1 k))) es
def Qp(o:rj)(es:List ai):S->(Bool->S->Prop)->Prop:=List.rec (motive:=λj=>S->(Bool->S->Prop)->Prop) (λs k=>k (OG o) s) (λe r ih s k=>I.ts cx e s λb s1=>iP (tP o b) (k b s1) (ih s1 k)) es
def Ib(es:List ai):List gR->R->S->(Bool->S->Prop)->Prop:=List.rec (motive:=λj=>List gR->R->S->(Bool->S->Prop)->Prop) (λj j j j=>False)
 (λe es ih os l s k=>oP (nH os) λq=>kR I cx e s λr s1=>oP (s1.peek l) λa=>oP (s1.peek r) λc=>hP ((hs (key 1 e.pos)).bind H.bool) (bC q.1 a c) λd=>
  iP q.2.isEmpty (bP es.isEmpty (k d s1)) (bP (!es.isEmpty) (iP d (ih q.2 r s1 k) (k ah s1)))) es
def CZ(e:Option ai)(s:S)(k:Option Int->S->Prop):Prop:=Option.rec (k aj s) (λe=>I.ev cx e s λr s1=>oP (r.fJ.bind V.fH) λi=>k (U i) s1) e
def fK(e:ai)(s:S)(k:Bool->S->Prop):Prop:=kR I cx e s λr s1=>hP ((hs (key 5 e.pos)).bind H.val) (s1.peek r) λv=>hP ((hs (key 2 e.pos)).bind H.bool) (truthy v) λb=>k b s1
def Qn(ke:List (Option ai)):List ai->S->(List (V×V)->S->Prop)->Prop:=List.rec (motive:=λj=>List ai->S->(List (V×V)->S->Prop)->Prop) (λve s k=>bP ve.isEmpty (k [] s))
 (λe j ih ve s k=>oP e λe=>oP (nH ve) λq=>jD I cx e s λa s1=>jD I cx q.1 s1 λb s2=>ih q.2 s2 λps=>k ((a,b)::ps)) ke
end
section
variable {G:bR}{W:Ws G}{n:Nat}{hs:Hs}{I:PI}{cx:Cx}{s:S}{P:Prop}
theorem lG(O:bS W n I)(h:kR I cx e s k)(c:∀r s',Op W n cx e s r s'->k r s'->P):P:=O.ev h λr s' a=>c _ s' (Qy a)
theorem jH(O:bS W n I)(h:jD I cx e s k)(c:∀r s',Va W n cx e s r s'->k r s'->P):P:=O.ev h λr s' a h=>aK h λq e=>c _ _ (HQ a e)
theorem Fn(O:bS W n I):∀{s} {k:List V->S->Prop},Cz I cx es s k->(∀vs s',nL W.w W.K W.mg W.mb n cx es s vs s'->k vs s'->P)->P:=by
 induction es with
 |nil=>exact λh c=>c _ _ adT h
 |cons e r ih=>exact λh c=>cu h λq h=>jH O h λv s0 hv h=>ih h λvs s1 hk=>c _ _ (abF q hv hk)
theorem Bq(O:bS W n I):∀{s} {k:List R->S->Prop},zG I cx es s k->(∀vs s',mJ W.w W.K W.mg W.mb n cx es s vs s'->k vs s'->P)->P:=by
 induction es with
 |nil=>exact λh c=>c _ _ Gj h
 |cons e r ih=>exact λh c=>cu h λq h=>lG O h λv s0 hv h=>ih h λvs s1 hk=>c _ _ (Fx q hv hk)
theorem Ny(O:bS W n I):∀{s} {k:List V->S->Prop},Im hs I cx es s k->(∀vs s',se W.w W.K W.mg W.mb n cx es s vs s'->k vs s'->P)->P:=by
 induction es with
 |nil=>exact λh c=>c _ _ ae9 h
 |cons e r ih=>exact λh c=>cu h λq h=>jH O h λv s0 hv h=>kr h λp hp h=>ih h λvs s1 hk=>c _ _ (ac2 q hv hp hk)
theorem abW{r:R}(h:r.fJ.bind V.Bg=U b):r=.val (.bool b):=(bN.mp h).elim λv q=>V.V8 q.2▸R.kn q.1
theorem pN{r:R}(h:r.fJ.bind V.fH=U b):r=.val (.int b):=(bN.mp h).elim λv q=>nZ q.2▸R.kn q.1
theorem adv(q:tP o b=J)(h:Ev W n cx e s (.val (.bool b)) s'):nO W.w W.K W.mg W.mb n cx o (e::e2::r) s b s':=by
 induction o<;>induction b<;>first|exact ab9 h|exact afo h|exact bo q
theorem agD(q:tP o b=ah)(h:Ev W n cx e s (.val (.bool b)) s0)(k:nO W.w W.K W.mg W.mb n cx o (e2::r) s0 c s'):nO W.w W.K W.mg W.mb n cx o (e::e2::r) s c s':=by
 induction o<;>induction b<;>first|exact aex h k|exact ahq h k|exact jk q
theorem acF(q:tP o b=J)(h:Ts W n cx e s b s'):kM W.w W.K W.mg W.mb n cx o (e::r) s b s':=by
 induction o<;>induction b<;>first|exact abu h|exact afi h|exact bo q
theorem ag5(q:tP o b=ah)(h:Ts W n cx e s b s0)(k:kM W.w W.K W.mg W.mb n cx o r s0 c s'):kM W.w W.K W.mg W.mb n cx o (e::r) s c s':=by
 induction o<;>induction b<;>first|exact afp h k|exact agt h k|exact jk q
theorem adS:kM W.w W.K W.mg W.mb n cx o [] s (OG o) s:=by
 induction o<;>first|exact aci|exact af4
theorem acn(O:bS W n I){o:rj}{es:List ai}:∀{s} {k:Bool->S->Prop},Q4 I cx o es s k->(∀b s',nO W.w W.K W.mg W.mb n cx o es s b s'->k b s'->P)->P:=by
 induction es with
 |nil=>exact λh c=>h.elim
 |cons e r ih=>
  exact λh c=>O.ev h λv s1 a h=>aK h λb hb h=>by
   rw[abW hb] at a
   induction r with
   |nil=>exact c _ _ (aer a) h
   |cons e2 r=>exact fS (show iP (tP o b) _ _ from h) (λq=>c _ _ (adv q a)) λq h=>ih h λb' s2 hk=>c _ _ (agD q a hk)
theorem adl(O:bS W n I):∀{s} {k:Bool->S->Prop},Qp I cx o es s k->(∀b s',kM W.w W.K W.mg W.mb n cx o es s b s'->k b s'->P)->P:=by
 induction es with
 |nil=>exact λh c=>c _ _ adS h
 |cons e r ih=>exact λh c=>O.ts h λb s1 a h=>fS h (λq=>c _ _ (acF q a)) λq h=>ih h λb' s2 hk=>c _ _ (ag5 q a hk)
theorem ZR{q:gR×List gR}{os:List gR}{es:List ai}{e:ai}{l r:R}(hq:nH os=U q)(h1:q.2=[])(h2:es=[])(h:Op W n cx e s r s')(q1:s'.peek l=U a)(q2:s'.peek r=U c)(q3:bC q.1 a c=U d):nF W.w W.K W.mg W.mb n cx os (e::es) l s d s':=by
 rw[pO hq,h1,h2]
 exact ab3 h q1 q2 q3
theorem AZ(h:l≠[]):∃a r,l=a::r:=by
 induction l with
 |nil=>exact absurd rfl h
 |cons a r=>exact⟨a,r,rfl⟩
theorem ZY{q:gR×List gR}{os:List gR}{es:List ai}{e:ai}{l r:R}(hq:nH os=U q)(h1:q.2≠[])(h2:es≠[])(h:Op W n cx e s r s1)(q1:s1.peek l=U a)(q2:s1.peek r=U c)(q3:bC q.1 a c=U J)(k:nF W.w W.K W.mg W.mb n cx q.2 es r s1 d s'):nF W.w W.K W.mg W.mb n cx os (e::es) l s d s':=by
 rw[pO hq]
 exact(AZ h1).elim λo2 h1=>h1.elim λos2 h1=>(AZ h2).elim λe2 h2=>h2.elim λzv h2=>by
  rw[h1,h2] at k ⊢
  exact abY h q1 q2 q3 k
theorem aao{q:gR×List gR}{os:List gR}{es:List ai}{e:ai}{l r:R}(hq:nH os=U q)(h1:q.2≠[])(h2:es≠[])(h:Op W n cx e s r s1)(q1:s1.peek l=U a)(q2:s1.peek r=U c)(q3:bC q.1 a c=U ah):nF W.w W.K W.mg W.mb n cx os (e::es) l s ah s1:=by
 rw[pO hq]
 exact(AZ h1).elim λo2 h1=>h1.elim λos2 h1=>(AZ h2).elim λe2 h2=>h2.elim λzv h2=>by
  rw[h1,h2]
  exact ac3 h q1 q2 q3
theorem NZ(O:bS W n I):∀{os:List gR} {l:R} {s} {k:Bool->S->Prop},Ib hs I cx es os l s k->(∀b s',nF W.w W.K W.mg W.mb n cx os es l s b s'->k b s'->P)->P:=by
 induction es with
 |nil=>exact λh c=>h.elim
 |cons e es ih=>
  exact λh c=>aK h λq hq h=>lG O h λr s1 a h=>aK h λu hu h=>aK h λv hv h=>kr h λd hd h=>
   fS h (λq1 h=>cu h λq2 h=>c _ _ (ZR hq (iZ.mp q1) (iZ.mp q2) a hu hv hd) h) λq1 h=>cu h λq2 h=>
    fS h (λq3 h=>ih h λb s2 hk=>c _ _ (ZY hq (L9 q1) (AA q2) a hu hv (q3▸hd) hk)) λq3 h=>c _ _ (aao hq (L9 q1) (AA q2) a hu hv (q3▸hd)) h
theorem FA(O:bS W n I)(h:CZ I cx e s k)(c:∀b s',kW W.w W.K W.mg W.mb n cx e s b s'->k b s'->P):P:=by
 induction e with
 |none=>exact c _ _ abv h
 |some e=>exact O.ev h λr s1 a h=>aK h λi hi=>c _ _ (acD (pN hi▸a))
theorem fR(O:bS W n I)(h:fK hs I cx e s k)(c:∀b s',wJ W.w W.K W.mg W.mb n cx e s b s'->k b s'->P):P:=
 lG O h λr s1 a h=>kr h λv hv h=>kr h λb hb=>c _ _ (trR a hv hb)
theorem abp(O:bS W n I):∀{ve:List ai} {s} {k:List (V×V)->S->Prop},Qn I cx ke ve s k->(∀ps s',zc W.w W.K W.mg W.mb n cx ke ve s ps s'->k ps s'->P)->P:=by
 induction ke with
 |nil=>exact λh c=>cu h λq=>c _ _ (iZ.mp q▸afg)
 |cons e ke ih=>exact λh c=>aK h λe1 he h=>aK h λq hq h=>jH O h λa s1 ha h=>jH O h λb s2 hb h=>ih h λps s3 hk=>c _ _ (he▸pO hq▸adq ha hb hk)
end
end
section
section
variable {G:bR}(W:Ws G)(n:Nat)(hs:Hs)(I:PI)(cx:Cx)
def oN(h:Option H)(s:S)(r:R)(k:List V->(List V->S)->Prop):Prop:=R.casesOn (motive:=λj=>Prop) r (λv=>oP v.ow λi=>hP (h.bind H.lv) ((s.mem[i]?).bind M.gb) λxs=>k xs λl=>{s with mem:=s.mem.set i (.list l)})
 (λy=>oP ((lk y s.vars).bind Sl.gb) λxs=>k xs λl=>s.set y (.list l)) (λj=>False) (λj j=>False)
def F5(s:S)(r:R)(k:List V->List V->(List V->List V->S)->Prop):Prop:=R.casesOn (motive:=λj=>Prop) r (λv=>oP v.ow λi=>oP ((s.mem[i]?).bind M.p8) λxs=>k xs.1 xs.2 λa b=>{s with mem:=s.mem.set i (.dict a b)})
 (λy=>oP ((lk y s.vars).bind Sl.p8) λxs=>k xs.1 xs.2 λa b=>s.set y (.dict a b)) (λj=>False) (λj j=>False)
def IH(h:Option H)(a:Nat)(vs:List V)(s:S)(k:V->S->Prop):Prop:=
 eP (h.bind H.val) (eP (h.bind H.cv) (iP (G.wx a||!V.bI vs) (I.ca a vs s.mem λv m=>k v {s with mem:=m}) (I.ca a vs [] λv m=>oP (deep 20 v m) λd=>k d.1 s)) λp=>Cv W n a vs s p.1 p.2/\k p.1 p.2)
  λv=>(V.bI vs=J/\Ca W n a vs [] v []/\deep 20 v []=U (v,[]))/\k v s
def Rw(a:Nat)(c:lL)(vs:List V)(s:S)(k:V->S->Prop):Prop:=
 iP (G.wx a||!V.bI vs) (I.ca c.init (.cell s.mem.length::vs) (s.mem++[.inst a [] []]) λv m=>bP v.isNone (k (.cell s.mem.length) {s with mem:=m}))
  (I.ca c.init (.cell 0::vs) [.inst a [] []] λv m=>bP v.isNone (oP (deep 20 (.cell 0) m) λd=>k d.1 s))
def Pw(h:Option H)(a:Nat)(vs:List V)(s:S)(k:V->S->Prop):Prop:=eP (G.cls a) (IH W n I h a vs s k) λc=>eP (h.bind H.cv) (Rw (G:=G) I a c vs s k) λp=>Cv W (n+1) a vs s p.1 p.2/\k p.1 p.2
def yA(s:S)(l:List Int)(args:List ai):Prop:=∀C:Prop,(∀(z:af) (pz yU:aY) (a:ai) (r:R) (xs:List V) (e:args=[.Call (.Name z pz) [a] [] yU]) (ha:noStar a=J) (hz:dU G cx z s=U (.val (.ty "set"))) (ho:Op W n cx a s r s) (hp:s.peek r=U (.list xs)) (hi:vW xs=U l) (dy:l.length<64),C)->C
def N2(kw:vp):Prop:=∀C:Prop,(∀(ap np cp sp kp:aY) (ck:Nat) (sc:gE) (e:kw=Bp ap np cp sp kp ck sc) (hs:yM sc),C)->C
def O0(y:af)(pos:aY)(args:List ai)(s:S)(k:R->S->Prop):Prop:=oP (dU G cx y s) λr=>oP r.fJ λf=>
 eP f.Hq (eP f.BX (oP f.Cf λid=>zG I cx args s λrs s1=>oP (vU s1 rs) λvs=>hP ((hs (key 0 pos)).bind H.res) (BO id vs) λr=>k r s1)
  λid=>eP ((hs (key 0 pos)).bind H.ints) (zG I cx args s λrs s1=>oP (vU s1 rs) λvs=>hP ((hs (key 0 pos)).bind H.res) (AY id vs) λr=>k r s1)
   λl=>(id="sorted"/\yA W n cx s l args)/\k (.list ((sortI (fZ l)).map .int)) s)
  λa=>Im hs I cx args s λvs s1=>Pw W n I (hs (key 0 pos)) a vs s1 λv s2=>k (.val v) s2
def PO(y:af)(pos:aY)(a:ai)(kw:vp)(s:S)(k:R->S->Prop):Prop:=oP (dU G cx y s) λr=>oP (r.fJ.bind V.BX) λid=>N2 kw/\bP (aJ (id="sorted")&&(cx.lam&&(!cx.comp&&noStar a)))
 (kR I cx a s λr s1=>oP ((s1.peek r).bind V.lJ) λxs=>hP ((hs (key 0 pos)).bind H.keyed) (vF xs) λl=>cP ((hs (key 4 pos)).bind H.bool) (l.length<64) (k (.list ((kC l).map (·.2))) s1))
def Hr(h:Option H)(o:Option (Option V))(d:V)(k:V->Prop):Prop:=eP (h.bind H.val) (eP (h.bind H.bool) (oP o λr=>k (r.getD d)) λj=>o=U aj/\k d) λu=>o=U (U u)/\k u
noncomputable def BB(s:S)(r:R):Bool:=((r.fJ.bind s.view).bind V.vH).isSome
def PF(m:af)(pos:aY)(args:List ai)(r:R)(s:S)(k:R->S->Prop):Prop:=oP r.fJ λv=>oP ((s.view v).bind V.vH) λi=>oP (G.cls i.1) λc=>bP (lk m (i.2.1.zip i.2.2)).isNone (oP (lk m c.meths) λa=>Im hs I cx args s λvs s1=>
 IH W n I (hs (key 0 pos)) a (v::vs) s1 λu s2=>k (.val u) s2)
def PM(pos:aY)(args:List ai)(r:R)(s:S)(k:R->S->Prop):Prop:=oP (one? args) λe=>bP (noStar e) (oN (hs (key 5 pos)) s r λj j=>jD I cx e s λv s1=>oN (hs (key 5 pos)) s1 r λxs st=>cP ((hs (key 4 pos)).bind H.bool) (xs.length<cG) (k (.val .none) (st (xs++[v]))))
def Qd(pos:aY)(args:List ai)(r:R)(s:S)(k:R->S->Prop):Prop:=oP (one? args) λe=>bP (noStar e) (oN aj s r λj j=>jD I cx e s λv s1=>oP v.lJ λys=>oN aj s1 r λxs st=>cP ((hs (key 4 pos)).bind H.bool) (xs.length+ys.length<=cG) (k (.val .none) (st (xs++ys))))
def Px(pos:aY)(args:List ai)(r:R)(s:S)(k:R->S->Prop):Prop:=iP args.isEmpty (oN aj s r λxs st=>hP ((hs (key 0 pos)).bind H.val) xs.getLast? λv=>k (.val v) (st xs.dropLast))
 (oP (one? args) λe=>bP (noStar e) (oN aj s r λj j=>jD I cx e s λv s1=>oP v.fH λi=>bP (aJ (i=0)) (oN aj s1 r λxs st=>oP (nH xs) λq=>k (.val q.1) (st q.2))))
def OV(pos:aY)(args:List ai)(r:R)(s:S)(k:R->S->Prop):Prop:=oP r.fJ λv=>oP ((s.view v).bind V.yy) λj=>
 eP (one? args) (oP (yY args) λe=>bP (noStar e.1&&noStar e.2) (jD I cx e.1 s λu s1=>jD I cx e.2 s1 λw s2=>oP ((s2.view v).bind V.yy) λd=>cP ((hs (key 4 pos)).bind H.bool) (dz u d.1=J) (Hr (hs (key 0 pos)) (gs u d.1 d.2) w λx=>k (.val x) s2)))
  λe=>bP (noStar e) (jD I cx e s λu s1=>oP ((s1.view v).bind V.yy) λd=>cP ((hs (key 4 pos)).bind H.bool) (dz u d.1=J) (Hr (hs (key 0 pos)) (gs u d.1 d.2) .none λx=>k (.val x) s1))
def P0(o:ai)(m:af)(ap pos:aY)(args:List ai)(s:S)(k:R->S->Prop):Prop:=kR I cx o s λr s0=>bP (jh o ap pos args) (hP ((hs (key 6 pos)).bind H.bool) (U (BB s0 r)) λb=>iP b (PF W n hs I cx m pos args r s0 k)
 (iP (aJ (m=n! "append")) (PM hs I cx pos args r s0 k) (iP (aJ (m=n! "extend")) (Qd hs I cx pos args r s0 k) (iP (aJ (m=n! "pop")) (Px hs I cx pos args r s0 k) (bP (aJ (m=n! "get")) (OV hs I cx pos args r s0 k))))))
end
section
variable {G:bR}{W:Ws G}{n:Nat}{hs:Hs}{I:PI}{cx:Cx}{s:S}{P:Prop}
theorem gP{α β:Type}{o:Option α}{f:α->Option β}{g:β->α}(hf:∀{a x},f a=U x->a=g x){x:β}(h:o.bind f=U x):o=U (g x):=(bN.mp h).elim λa q=>q.1.trans (congrArg U (hf q.2))
theorem q9{h':Option H}{r:R}{k:List V->(List V->S)->Prop}:oN h' s r k->(∀xs st,Holds W.w s r xs st->k xs st->P)->P:=
 R.casesOn (motive:=λr=>oN h' s r k->(∀xs st,Holds W.w s r xs st->k xs st->P)->P) r (λv h c=>aK h λi hi h=>kr h λxs hx=>c _ _ (ya hi▸WU (gP M.rl hx)))
  (λy h c=>aK h λxs hx=>c _ _ (Nb (gP Sl.rl hx))) (λj h j=>h.elim) λj j h j=>h.elim
theorem XH{r:R}{k:List V->List V->(List V->List V->S)->Prop}:F5 s r k->(∀ks vs st,yC W.w s r ks vs st->k ks vs st->P)->P:=
 R.casesOn (motive:=λr=>F5 s r k->(∀ks vs st,yC W.w s r ks vs st->k ks vs st->P)->P) r (λv h c=>aK h λi hi h=>aK h λxs hx=>c _ _ _ (ya hi▸Wg (gP M.FT hx)))
  (λy h c=>aK h λxs hx=>c _ _ _ (WX (gP Sl.FT hx))) (λj h j=>h.elim) λj j h j=>h.elim
theorem MI(h:(a||!b)=ah):b=true:=(Bool.not_eq_false' ..).mp (Jj.mp h).2
theorem Og(O:bS W n I)(h:IH W n I h' a vs s k)(c:∀v s',Cv W n a vs s v s'->k v s'->P):P:=
 eB h (λj h=>eB h (λj h=>fS h (λq h=>O.ca h λv m hc=>c _ _ (ij hc)) λq h=>O.ca h λv m hc h=>aK h λd hd=>c _ _ (A7 (MI q) hc hd)) λp j h=>c _ _ h.1 h.2) λv j h=>c _ _ (A7 h.1.1 h.1.2.1 h.1.2.2) h.2
theorem abt(O:bS W n I)(hc:G.cls a=U cl)(h:Rw (G:=G) I a cl vs s k)(c:∀v s',Cv W (n+1) a vs s v s'->k v s'->P):P:=
 fS h (λq h=>O.ca h λv m ha h=>cu h λhv=>c _ _ (af3 (W.T.cls a cl hc) (V.KZ hv▸ha))) λq h=>O.ca h λv m ha h=>cu h λhv h=>aK h λd hd=>c _ _ (aaN (W.T.cls a cl hc) (MI q) (V.KZ hv▸ha) hd)
theorem aa9(O:bS W n I)(h:Pw W n I h' a vs s k)(c:∀v s',Cv W (n+1) a vs s v s'->k v s'->P):P:=
 eB h (λj h=>Og O h λv s1 hv=>c _ _ hv.up) λcl hc h=>eB h (λj h=>abt O hc h c) λp j h=>c _ _ h.1 h.2
theorem Xt(O:bS W n I)(h:O0 W n hs I cx y pos args s k)(c:∀r s',Ev W (n+1) cx (.Call (.Name y p) args [] pos) s r s'->k r s'->P):P:=
 aK h λr hr h=>aK h λf hf h=>eB h (λj h=>eB h (λj h=>aK h λid hi h=>Bq O h λrs s1 ho h=>aK h λvs hv h=>kr h λr' ur=>c _ _ (rTy W.T (hr.trans (congrArg U ((R.kn hf).trans (congrArg R.val (V.MH hi))))) ho hv ur))
  λid hi h=>have hn:=hr.trans (congrArg U ((R.kn hf).trans (congrArg R.val (V.Mo hi))));eB h (λj h=>Bq O h λrs s1 ho h=>aK h λvs hv h=>kr h λr' ur=>c _ _ (rBi W.T hn ho hv ur))
   λl j h=>c _ _ (h.1.2 _ λz pz yU a r xs e ha hz ho hp hi2 dy=>e▸Yh W.T (h.1.1▸hn) hz ha ho hp hi2 dy) h.2)
  λa ha h=>Ny O h λvs s1 hv h=>aa9 O h λv s2 hc=>c _ _ (afX W.T (hr.trans (congrArg U ((R.kn hf).trans (congrArg R.val (V.Z1 ha))))) hv hc)
theorem YW(O:bS W n I){y:af}{p pos:aY}{a:ai}{kw:vp}{k:R->S->Prop}(h:PO (G:=G) hs I cx y pos a kw s k)(c:∀r s',Ev W (n+1) cx (.Call (.Name y p) [a] [kw] pos) s r s'->k r s'->P):P:=
 aK h λr hr h=>aK h λid hi h=>cu h.2 λq h2=>lG O h2 λr1 s1 ho h2=>aK h2 λxs hx h2=>kr h2 λl hl h2=>rv h2 λdy=>
  c _ _ (h.1 _ λap np cp sp kp ck sc e hsc=>e▸rKey W.T hsc (bl (aU q)) ((Bool.not_eq_true' ..).mp (bl (aU (aU q)))) (hr.trans (congrArg U ((bN.mp hi).elim λv q1=>(R.kn q1.1).trans (congrArg R.val ((V.Mo q1.2).trans (congrArg V.bi (of_decide_eq_true (bl q)))))))) (aU (aU (aU q))) ho (gP px hx) hl dy)
theorem Ms(h:Hr h' o d k)(c:∀r,o=U r->k (r.getD d)->P):P:=
 eB h (λj h=>eB h (λj h=>aK h c) λj j h=>c _ h.1 h.2) λu j h=>c _ h.1 h.2
section
variable {o:ai}{m:af}{ap pos:aY}{args:List ai}{r:R}{s0:S}{k:R->S->Prop}
theorem aa0(O:bS W n I)(hp:jh o ap pos args=J)(ho:Op W n cx o s r s0)(h:PF W n hs I cx m pos args r s0 k)(c:∀r s',Ev W (n+1) cx (.Call (.Attribute o m ap) args [] pos) s r s'->k r s'->P):P:=
 aK h λv hv h=>aK h λi hi h=>aK h λcl hc h=>cu h λhl h=>aK h λa ha h=>Ny O h λvs s1 hs h=>Og O h λu s2 hu=>
  c _ _ (ad6 W.T hp (R.kn hv▸ho) (gP V.K7 hi) hc (Option.isNone_iff_eq_none.mp hl) ha hs hu)
theorem ZI(O:bS W n I)(hp:jh o ap pos args=J)(ho:Op W n cx o s r s0)(h:PM hs I cx pos args r s0 k)(c:∀r s',Ev W (n+1) cx (.Call (.Attribute o (n! "append") ap) args [] pos) s r s'->k r s'->P):P:=
 aK h λe he h=>cu h λq h=>q9 h λuA l8 h0 h=>jH O h λv s1 hv h=>q9 h λxs st h1 h=>rv h λhz=>have ea:=nq he;c _ _ (ea▸Zg (ea▸hp) q ho h0 hv h1 hz)
theorem ZA(O:bS W n I)(hp:jh o ap pos args=J)(ho:Op W n cx o s r s0)(h:Qd hs I cx pos args r s0 k)(c:∀r s',Ev W (n+1) cx (.Call (.Attribute o (n! "extend") ap) args [] pos) s r s'->k r s'->P):P:=
 aK h λe he h=>cu h λq h=>q9 h λuA l8 h0 h=>jH O h λv s1 hv h=>aK h λys hy h=>q9 h λxs st h1 h=>rv h λhz=>have ea:=nq he;c _ _ (ea▸aaD (ea▸hp) q ho h0 (px hy▸hv) h1 hz)
theorem aa6(O:bS W n I)(hp:jh o ap pos args=J)(ho:Op W n cx o s r s0)(h:Px hs I cx pos args r s0 k)(c:∀r s',Ev W (n+1) cx (.Call (.Attribute o (n! "pop") ap) args [] pos) s r s'->k r s'->P):P:=
 fS h (λq h=>q9 h λxs st h0 h=>kr h λv hv=>have ea:=iZ.mp q;c _ _ (ea▸ahO (ea▸hp) ho h0 hv))
  λj h=>aK h λe he h=>cu h λq h=>q9 h λuA l8 h0 h=>jH O h λv s1 hv h=>aK h λi hi h=>cu h λhi0 h=>q9 h λxs st h1 h=>aK h λp hu=>
   have ea:=nq he;c _ _ (ea▸afh (ea▸hp) q ho h0 (of_decide_eq_true hi0▸nZ hi▸hv) (pO hu▸h1))
theorem WI(O:bS W n I)(hp:jh o ap pos args=J)(ho:Op W n cx o s r s0)(h:OV hs I cx pos args r s0 k)(c:∀r s',Ev W (n+1) cx (.Call (.Attribute o (n! "get") ap) args [] pos) s r s'->k r s'->P):P:=
 aK h λv hv h=>aK h λd0 uh h=>have ho:=R.kn hv▸ho;have uh:=gP V.Ec uh
  eB h (λj h=>aK h λe he h=>cu h λq h=>jH O h λu s1 hu h=>jH O h λw s2 hw h=>aK h λd hd h=>rv h λhk h=>Ms h λr hr=>
    have ea:=Bv he;c _ _ (ea▸aeA (ea▸hp) (bl q) (aU q) ho uh hu hw (gP V.Ec hd) hk hr))
   λe he h=>cu h λq h=>jH O h λu s1 hu h=>aK h λd hd h=>rv h λhk h=>Ms h λr hr=>
    have ea:=nq he;c _ _ (ea▸aeZ (ea▸hp) q ho uh hu (gP V.Ec hd) hk hr)
end
theorem aac(O:bS W n I)(h:P0 W n hs I cx o m ap pos args s k)(c:∀r s',Ev W (n+1) cx (.Call (.Attribute o m ap) args [] pos) s r s'->k r s'->P):P:=
 lG O h λr s0 ho h=>cu h λhp h=>kr h λb j h=>fS h (λj h=>aa0 O hp ho h c) λj h=>fS h (λq h=>ZI O hp ho h λr s' a=>c r s' (of_decide_eq_true q▸a)) λj h=>fS h (λq h=>ZA O hp ho h λr s' a=>c r s' (of_decide_eq_true q▸a))
  λj h=>fS h (λq h=>aa6 O hp ho h λr s' a=>c r s' (of_decide_eq_true q▸a)) λj h=>cu h λq h=>WI O hp ho h λr s' a=>c r s' (of_decide_eq_true q▸a)
end
end
section
noncomputable def F0(v:ai):Option (ai×af×aY):=by
 apply ai.casesOn (motive_1:=λj=>Option (ai×af×aY)) v
 case Attribute=>exact λa b c=>U (a,b,c)
 all_goals exists aq
theorem YM:F0 v=U x->v=JL x.1 x.2.1 x.2.2:=by
 apply ai.casesOn (motive_1:=λv=>F0 v=U x->v=JL x.1 x.2.1 x.2.2) v
 case Attribute=>exact λa b c=>λh=>aA h▸rfl
 all_goals exists ay
noncomputable def yP(v:ai):Option (ai×List ai×List vp×aY):=by
 apply ai.casesOn (motive_1:=λj=>Option (ai×List ai×List vp×aY)) v
 case Call=>exact λa b c d=>U (a,b,c,d)
 all_goals exists aq
theorem WH:yP v=U x->v=ai.Call x.1 x.2.1 x.2.2.1 x.2.2.2:=by
 apply ai.casesOn (motive_1:=λv=>yP v=U x->v=ai.Call x.1 x.2.1 x.2.2.1 x.2.2.2) v
 case Call=>exact λa b c d=>λh=>aA h▸rfl
 all_goals exists ay
noncomputable def Hl(v:ai):Option (Option ai×Option ai×Option ai×aY):=by
 apply ai.casesOn (motive_1:=λj=>Option (Option ai×Option ai×Option ai×aY)) v
 case Slice=>exact λa b c d=>U (a,b,c,d)
 all_goals exists aq
theorem MB:Hl v=U x->v=ai.Slice x.1 x.2.1 x.2.2.1 x.2.2.2:=by
 apply ai.casesOn (motive_1:=λv=>Hl v=U x->v=ai.Slice x.1 x.2.1 x.2.2.1 x.2.2.2) v
 case Slice=>exact λa b c d=>λh=>aA h▸rfl
 all_goals exists ay
section
variable {G:bR}(W:Ws G)(n:Nat)(hs:Hs)(I:PI)(cx:Cx)
noncomputable def N9(e:ai)(s:S):Option (String×af×aY×List ai×aY):=(yP e).bind λc=>if c.2.2.1=[] then(iL c.1).bind λq=>((dU G cx q.1 s).bind λr=>r.fJ.bind V.Cf).map λid=>(id,q.1,q.2,c.2.1,c.2.2.2) else aj
def IS(h:Option H)(a b:Int)(k:It->Prop):Prop:=eP (h.bind H.bool) (oP (ja a b) k) λj=>ja a b=U (.items ah (cj a b))/\k (.items ah (cj a b))
def Ha(e:ai)(s:S)(k:It->S->Prop):Prop:=I.ev cx e s λr s1=>eP (r.asVar.bind λy=>((lk y s1.vars).bind Sl.gb).map λxs=>(y,xs)) (oP (s1.nJ r) λq=>oP (Bx q.1) λxs=>k (.items ah xs) q.2) λq=>k (.live q.1 ah) s1
def CK(e:ai)(s:S)(k:It->S->Prop):Prop:=eP (N9 (G:=G) cx e s) (Ha I cx e s k) λc=>
 iP (aJ (c.1="range")) (zG I cx c.2.2.2.1 s λrs s1=>oP (nH rs) λq=>oP (q.1.fJ.bind V.fH) λa=>eP (nH q.2) (IS (hs (key 0 c.2.2.2.2)) 0 a λit=>k it s1) λq2=>bP q2.2.isEmpty (oP (q2.1.fJ.bind V.fH) λb=>IS (hs (key 0 c.2.2.2.2)) a b λit=>k it s1))
 (iP (aJ (c.1="enumerate")) (zG I cx c.2.2.2.1 s λrs s1=>oP (one? rs) λr=>eP r.asVar (oP (r.fJ.bind V.lJ) λxs=>k (.items J (jO 0 xs)) s1) λy=>oP ((lk y s1.vars).bind Sl.gb) λj=>k (.live y J) s1)
 (iP (aJ (c.1="zip")) (Cz I cx c.2.2.2.1 s λvs s1=>oP (yY vs) λq=>oP q.1.lJ λxs=>oP q.2.lJ λys=>k (.items J (oM xs ys)) s1) (Ha I cx e s k)))
def QV(es:List ai):S->(Bool->S->Prop)->Prop:=List.rec (motive:=λj=>S->(Bool->S->Prop)->Prop) (λs k=>k J s) (λe j ih s k=>I.ts cx e s λb s1=>iP b (ih s1 k) (k ah s1)) es
def QE(it:It)(elt t:ai)(ifs:List ai)(m:Nat):Nat->S->(List V->S->Prop)->Prop:=Nat.rec (motive:=λj=>Nat->S->(List V->S->Prop)->Prop) (λj j j=>False)
 (λj ih i s k=>oP (it.at i s) λo=>eP o (k [] s) λv=>oP (bindC cx it.pair t v) λbs=>QV I cx ifs {s with cv:=bs} λc s1=>iP c (jD I cx elt s1 λu s2=>ih (i+1) s2 λys=>k (u::ys)) (ih (i+1) s1 k)) m
def dB(it:It)(elt t:ai)(ifs:List ai)(s:S)(ys:List V)(s':S):Prop:=∃m,jg W.w W.K W.mg W.mb n cx it elt t ifs s' m 0 s ys
def GV(h:Option H)(it:It)(elt t:ai)(ifs:List ai)(s:S)(k:List V->S->Prop):Prop:=eP (h.bind H.ls) (QE I cx it elt t ifs 70 0 s k) λq=>dB W n cx it elt t ifs s q.1 q.2/\k q.1 q.2
def Qe(elt t i:ai)(ifs:List ai)(sc:gE)(pos:aY)(s:S)(k:R->S->Prop):Prop:=bP (wq cx s sc i) (CK (G:=G) hs I cx i s λit s1=>bP (it.oD t) (GV W n I (sd cx sc) (hs (key 3 pos)) it elt t ifs s1 λys s2=>k (.list ys) {s2 with cv:=[]}))
def PU(l:ai)(o:Operator)(r:ai)(p:aY)(s:S)(k:R->S->Prop):Prop:=kR I cx l s λa s0=>kR I cx r s0 λb s1=>oP (s1.peek a) λu=>oP (s1.peek b) λv=>hP ((hs (key 0 p)).bind H.res) (fg o u v) λz=>k z s1
def Qh(o:ai)(a:af)(s:S)(k:R->S->Prop):Prop:=bP (qS o) (kR I cx o s λr s1=>oP r.fJ λv=>oP ((s1.view v).bind V.vH) λi=>oP (G.cls i.1) λc=>bP (c.atts.contains a) (oP (lk a (i.2.1.zip i.2.2)) λu=>cP ((hs (key 6 o.pos)).bind H.bool) (BU u=ah) (k (.val u) s1)))
noncomputable def HW(i:Option Int):Bool:=Option.rec J (λj=>ah) i
def Qa(o i:ai)(p:aY)(s:S)(k:R->S->Prop):Prop:=eP (Hl i) (kR I cx o s λb s0=>jD I cx i s0 λv s1=>oP (s1.peek b) λw=>hP ((hs (key 0 p)).bind H.val) (cC w v) λu=>k (.val u) s1)
 λq=>kR I cx o s λb s0=>CZ I cx q.1 s0 λl s1=>CZ I cx q.2.1 s1 λu s2=>CZ I cx q.2.2.1 s2 λt s3=>oP (s3.peek b) λw=>
  eP w.lJ (oP w.tJ λxs=>bP (HW l&&(HW u&&aJ (t=U (-1)))) (k (.val (.tup xs.reverse)) s3)) λxs=>oP (Bu xs l u t) λys=>k (.list ys) s3
def t8(v:ai)(s:S)(k:R->S->Prop):Prop:=ai.casesOn (motive_1:=λj=>Prop) v (λa b c=>Q4 I cx a b s λb s1=>k (.val (.bool b)) s1) (λj j j=>False) (λa b c d=>PU hs I cx a b c d s k) (λa b c=>UnaryOp.casesOn (motive:=λj=>Prop) a False (fK hs I cx b s λb s1=>k (.val (.bool (!b))) s1) False (I.ev cx b s λr s1=>oP (r.fJ.bind V.fH) λi=>k (.val (.int (-i))) s1)) (λj j j j=>False) (λa b c d=>I.ts cx a s λt s1=>iP t (I.ev cx b s1 k) (I.ev cx c s1 k)) (λa b c=>iP (a.isEmpty&&b.isEmpty) (k (.dict [] []) s) (bP (!a.isEmpty&&aJ (a.length<=15)) (Qn I cx a b s λps s1=>oP (nX ps [] []) λd=>k (.dict d.1 d.2) s1))) (λj j j=>False) (λa b c d=>oP (one? b) λg=>bP (aJ (g.is_async=0)) (Qe W n hs I cx a g.target g.iter g.ifs c d s k)) (λj j j j=>False) (λj j j j j=>False) (λj j j j=>False) (λj j=>False) (λj j=>False) (λj j=>False) (λa b c d=>bP (!lastMarks b c) (kR I cx a s λl s1=>Ib hs I cx c b l s1 λt s2=>k (.val (.bool t)) s2)) (λa b c d=>iP c.isEmpty (eP (F0 a) (oP (iL a) λq=>O0 W n hs I cx q.1 d b s k) λq=>P0 W n hs I cx q.1 q.2.1 q.2.2 d b s k) (oP (iL a) λq=>oP (one? b) λe=>oP (one? c) λkw=>PO (G:=G) hs I cx q.1 d e kw s k)) (λj j j j=>False) (λj j=>False) (λa b c=>tI.casesOn (motive:=λj=>Prop) a (k (.val .none) s) (λb=>k (.val (.bool b)) s) (λi=>k (.val (.int i)) s) (λj=>False) (λj j=>False) (λx=>k (.val (.str x)) s) (λj=>False) False) (λa b c=>Qh (G:=G) hs I cx a b s k) (λa b c=>Qa hs I cx a b c s k) (λj j=>False) (λa b=>oP (dU G cx a s) λr=>k r s) (λa b=>bP (aJ (a.length<=100)) (Cz I cx a s λvs s1=>k (.list vs) s1)) (λa b c=>bP (aJ (a.length<=100)) (Cz I cx a s λvs s1=>k (.val (.tup vs)) s1)) (λj j j j=>False)
def zD(v:ai)(s:S)(k:Bool->S->Prop):Prop:=ai.casesOn (motive_1:=λj=>Prop) v (λa b c=>Qp I cx a b s k) (λa b c=>fK hs I cx (ai.NamedExpr a b c) s k) (λa b c d=>fK hs I cx (ai.BinOp a b c d) s k) (λa b c=>UnaryOp.casesOn (motive:=λj=>Prop) a False (I.ts cx b s λt s1=>k (!t) s1) False False) (λa b c d=>fK hs I cx (ai.Lambda a b c d) s k) (λa b c d=>False) (λa b c=>fK hs I cx (ai.Dict a b c) s k) (λa b c=>fK hs I cx (ai.Set a b c) s k) (λa b c d=>fK hs I cx (JO a b c d) s k) (λa b c d=>fK hs I cx (ai.SetComp a b c d) s k) (λa b c d e=>fK hs I cx (ai.DictComp a b c d e) s k) (λa b c d=>fK hs I cx (ai.GeneratorExp a b c d) s k) (λa b=>fK hs I cx (ai.Await a b) s k) (λa b=>fK hs I cx (ai.Yield a b) s k) (λa b=>fK hs I cx (ai.YieldFrom a b) s k) (λa b c d=>bP (!lastMarks b c) (kR I cx a s λl s1=>Ib hs I cx c b l s1 k)) (λa b c d=>fK hs I cx (ai.Call a b c d) s k) (λa b c d=>fK hs I cx (ai.FormattedValue a b c d) s k) (λa b=>fK hs I cx (ai.JoinedStr a b) s k) (λa b c=>fK hs I cx (ai.Constant a b c) s k) (λa b c=>fK hs I cx (JL a b c) s k) (λa b c=>fK hs I cx (JK a b c) s k) (λa b=>fK hs I cx (ai.Starred a b) s k) (λa b=>fK hs I cx (ai.Name a b) s k) (λa b=>fK hs I cx (ai.List a b) s k) (λa b c=>fK hs I cx (ai.Tuple a b c) s k) (λa b c d=>fK hs I cx (ai.Slice a b c d) s k)
end
section
variable {G:bR}{W:Ws G}{n:Nat}{hs:Hs}{I:PI}{cx:Cx}{s:S}{P:Prop}
theorem bJ.up{w:aE}{K:aS}{mg mb:af->Option ae}{cx:Cx}{e:ai}{s s':S}{r:R}(h:bJ w K mg mb n cx e s r s'):bJ w K mg mb (n+1) cx e s r s':=λF g σ A M=>h F g σ A M.dn
theorem fL.up{w:aE}{K:aS}{mg mb:af->Option ae}{cx:Cx}{e:ai}{s s':S}{r:Bool}(h:fL w K mg mb n cx e s r s'):fL w K mg mb (n+1) cx e s r s':=λF g σ A M=>h F g σ A M.dn
theorem VK(h:N9 (G:=G) cx e s=U c):e=.Call (.Name c.2.1 c.2.2.1) c.2.2.2.1 [] c.2.2.2.2/\dU G cx c.2.1 s=U (.val (.ty c.1)):=
 (bN.mp h).elim λx q=>have q2:=ei q.2;(bN.mp q2.2).elim λy z=>(dw.mp z.2).elim λid w=>(bN.mp w.1).elim λr u=>(bN.mp u.2).elim λv t=>
  w.2▸⟨(WH q.1).trans (by rw[lz z.1,q2.1]),u.1.trans (congrArg U ((R.kn t.1).trans (congrArg R.val (V.MH t.2))))⟩
theorem Oz(h:IS h' a b k)(c:∀it,ja a b=U it->k it->P):P:=eB h (λj h=>aK h c) λj j h=>c _ h.1 h.2
theorem Mi(O:bS W n I)(h:Ha I cx e s k)(c:∀it s',lY W.w W.K W.mg W.mb n cx e s it s'->k it s'->P):P:=
 O.ev h λr s1 a h=>eB h (λj h=>aK h λq hq h=>aK h λxs hx=>c _ _ (aeE (HQ a hq) hx)) λq hq=>(bN.mp hq).elim λy hy=>(dw.mp hy.2).elim λxs hx=>hx.2▸c _ _ (adt (R.AL hy.1▸a) (gP Sl.rl hx.1))
theorem W4(h:nH l=aj):l=[]:=by
 induction l with
 |nil=>rfl
 |cons a r=>exact mM h
theorem acx{r:R}(h:r.fJ.bind V.lJ=U b):r=.val (.list b):=(bN.mp h).elim λv q=>px q.2▸R.kn q.1
theorem FQ(O:bS W n I)(h:CK (G:=G) hs I cx e s k)(c:∀it s',lY W.w W.K W.mg W.mb n cx e s it s'->k it s'->P):P:=
 eB h (λj h=>Mi O h c) λq hq h=>have e:=VK hq
  fS h (λhi h=>Bq O h λrs s1 ho h=>aK h λq1 h1 h=>aK h λa ha h=>eB h (λh2 h=>Oz h λit hr=>c _ _ (e.1▸WJ W.T (of_decide_eq_true hi▸e.2) (W4 h2▸pN ha▸pO h1▸ho) hr))
    λq2 h2 h=>cu h λh3 h=>aK h λb hb h=>Oz h λit hr=>c _ _ (e.1▸WA W.T (of_decide_eq_true hi▸e.2) (iZ.mp h3▸pN hb▸pO h2▸pN ha▸pO h1▸ho) hr))
  λj h=>fS h (λhi h=>Bq O h λrs s1 ho h=>aK h λr hr h=>eB h (λj h=>aK h λxs hx=>c _ _ (e.1▸acm W.T (of_decide_eq_true hi▸e.2) (acx hx▸nq hr▸ho)))
    λy hy h=>aK h λxs hx=>c _ _ (e.1▸Vt W.T (of_decide_eq_true hi▸e.2) (R.AL hy▸nq hr▸ho) (gP Sl.rl hx)))
  λj h=>fS h (λhi h=>Fn O h λvs s1 ho h=>aK h λp hp h=>aK h λxs hx h=>aK h λys hy=>c _ _ (e.1▸aeq W.T (of_decide_eq_true hi▸e.2) (px hx▸px hy▸Bv hp▸ho))) λj h=>Mi O h c
theorem acA(O:bS W n I):∀{s} {k:Bool->S->Prop},QV I cx es s k->(∀b s',oZ W.w W.K W.mg W.mb n cx es s b s'->k b s'->P)->P:=by
 induction es with
 |nil=>exact λh c=>c _ _ oC h
 |cons e r ih=>exact λh c=>O.ts h λb s1 a h=>fS h (λq h=>ih h λb s2 hk=>c _ _ (tD (q▸a) hk)) λq=>c _ _ (vC (q▸a))
theorem acO(O:bS W n I):∀{i s} {k:List V->S->Prop},QE I cx it elt t ifs m i s k->(∀ys s',jg W.w W.K W.mg W.mb n cx it elt t ifs s' m i s ys->k ys s'->P)->P:=by
 induction m with
 |zero=>exact λh c=>h.elim
 |succ m ih=>exact λh c=>aK h λo ho h=>eB h (λq=>c _ _ (.stop (q▸ho) rfl rfl)) λv q h=>aK h λbs hb h=>acA O h λb s1 ht h=>fS h (λq1 h=>jH O h λu s2 hu h=>ih h λys s3 hk=>c _ _ (.take v bs s1 u s2 ys (q▸ho) hb (q1▸ht) hu hk rfl)) λq1 h=>ih h λys s3 hk=>c _ _ (.skip v bs s1 (q▸ho) hb (q1▸ht) hk)
theorem MU(O:bS W n I)(h:GV W n I cx h' it elt t ifs s k)(c:∀ys s',dB W n cx it elt t ifs s ys s'->k ys s'->P):P:=eB h (λj h=>acO O h λys s' hk=>c _ _ ⟨_,hk⟩) λq j h=>c _ _ h.1 h.2
theorem aag(O:bS W n I)(h:Qe W n hs I cx elt t i ifs sc pos s k)(c:∀r s',Ev W (n+1) cx (.ListComp elt [⟨t,i,ifs,0⟩] sc pos) s r s'->k r s'->P):P:=
 cu h λq h=>FQ O h λit s1 hi h=>cu h λq2 h=>MU O h λys s2 hm=>c _ _ (hm.elim λm hm=>(Pg q hi q2 hm).up)
theorem abm(O:bS W n I)(h:PU hs I cx l o r p s k)(c:∀z s',Ev W (n+1) cx (.BinOp l o r p) s z s'->k z s'->P):P:=
 lG O h λa s0 ha h=>lG O h λb s1 hb h=>aK h λu hu h=>aK h λv hv h=>kr h λz hz=>c _ _ (ag4 ha hb hu hv hz).up
theorem Zn(O:bS W n I)(h:Qh (G:=G) hs I cx o a s k)(c:∀r s',Ev W (n+1) cx (.Attribute o a p) s r s'->k r s'->P):P:=
 cu h λhp h=>lG O h λr s1 ho h=>aK h λv hv h=>aK h λi hi h=>aK h λcl hc h=>cu h λha h=>aK h λu hu h=>rv h λhb=>
  c _ _ (afB W.T hp (R.kn hv▸ho) (gP (g:=λp=>.inst p.1 p.2.1 p.2.2) V.K7 hi) hc ha hu hb).up
theorem OC(h:HW i=J):i=none:=by
 induction i with
 |none=>rfl
 |some i=>exact bo h
theorem Y1(O:bS W n I)(h:Qa hs I cx o i p s k)(c:∀r s',Ev W (n+1) cx (.Subscript o i p) s r s'->k r s'->P):P:=
 eB h (λj h=>lG O h λb s0 hb h=>jH O h λv s1 hv h=>aK h λw hw h=>kr h λu hu=>c _ _ (agQ hb hv hw hu))
  λq hq h=>lG O h λb s0 hb h=>FA O h λl s1 hl h=>FA O h λu s2 hu h=>FA O h λt s3 ht h=>aK h λw hw h=>
   eB h (λj h=>aK h λxs hx h=>cu h λhn=>c _ _ (MB hq▸(aaU hb (OC (bl hn)▸hl) (OC (bl (aU hn))▸hu) (of_decide_eq_true (aU (aU hn))▸ht) (x9 hx▸hw)).up))
    λxs hx h=>aK h λys hy=>c _ _ (MB hq▸(Zu hb hl hu ht (px hx▸hw) hy).up)
theorem N3(h:g.is_async=0):(⟨g.target,g.iter,g.ifs,0⟩:DC)=g:=by
 cases g
 cases h
 rfl
theorem ac8(O:bS W n I):t8 W n hs I cx (.UnaryOp o x p) s k->(∀r s',Ev W (n+1) cx (.UnaryOp o x p) s r s'->k r s'->P)->P:=
 UnaryOp.casesOn (motive:=λo=>t8 W n hs I cx (.UnaryOp o x p) s k->(∀r s',Ev W (n+1) cx (.UnaryOp o x p) s r s'->k r s'->P)->P) o (λh j=>bD h) (λh C=>fR O h λt s1 ht=>C _ _ (ahM ht).up) (λh j=>bD h) λh C=>O.ev h λr s1 hr h=>aK h λi hi=>C _ _ (agL (pN hi▸hr)).up
theorem aah(O:bS W n I):zD hs I cx (.UnaryOp o x p) s k->(∀r s',Ts W (n+1) cx (.UnaryOp o x p) s r s'->k r s'->P)->P:=
 UnaryOp.casesOn (motive:=λo=>zD hs I cx (.UnaryOp o x p) s k->(∀r s',Ts W (n+1) cx (.UnaryOp o x p) s r s'->k r s'->P)->P) o (λh j=>bD h) (λh C=>O.ts h λt s1 ht=>C _ _ (ahI ht).up) (λh j=>bD h) λh j=>bD h
theorem aaI:t8 W n hs I cx (.Constant v a p) s k->(∀r s',Ev W (n+1) cx (.Constant v a p) s r s'->k r s'->P)->P:=
 tI.casesOn (motive:=λv=>t8 W n hs I cx (.Constant v a p) s k->(∀r s',Ev W (n+1) cx (.Constant v a p) s r s'->k r s'->P)->P) v (λh C=>C _ _ afW h) (λa=>λh C=>C _ _ ae8 h) (λa=>λh C=>C _ _ ahx h) (λa=>λh j=>bD h) (λa b=>λh j=>bD h) (λa=>λh C=>C _ _ af9 h) (λa=>λh j=>bD h) (λh j=>bD h)
theorem aco(O:bS W n I):t8 W n hs I cx v s k->(∀r s',Ev W (n+1) cx v s r s'->k r s'->P)->P:=
 ai.casesOn (motive_1:=λv=>t8 W n hs I cx v s k->(∀r s',Ev W (n+1) cx v s r s'->k r s'->P)->P) v (λa b c=>λh C=>acn O h λt s1 hb=>C _ _ (hb c).up) (λa b c=>(λh j=>bD h)) (λa b c d=>λh C=>abm O h C) (λa b c=>ac8 O) (λa b c d=>(λh j=>bD h)) (λa b c d=>λh C=>O.ts h λt s1 ht h=>fS h (λq h=>O.ev h λr s2 hr=>C _ _ (rIf (q▸ht) hr).up) λq h=>O.ev h λr s2 hr=>C _ _ (aey (q▸ht) hr).up) (λa b c=>λh C=>fS h (λq=>C _ _ (by rw[iZ.mp (bl q),iZ.mp (aU q)];exact ach)) λj h=>cu h λq h=>abp O h λps s1 hp h=>aK h λd hd=>C _ _ (aek (AA (bl q)) (of_decide_eq_true (aU q)) hp hd)) (λa b c=>(λh j=>bD h)) (λa b c d=>λh C=>aK h λg hg h=>cu h λq h=>aag O h λr s1 hr=>C _ _ (nq hg▸N3 (of_decide_eq_true q)▸hr)) (λa b c d=>(λh j=>bD h)) (λa b c d e=>(λh j=>bD h)) (λa b c d=>(λh j=>bD h)) (λa b=>(λh j=>bD h)) (λa b=>(λh j=>bD h)) (λa b=>(λh j=>bD h)) (λa b c d=>λh C=>cu h λq h=>lG O h λl s1 hl h=>NZ O h λt s2 ht=>C _ _ (ahQ ((Bool.not_eq_true' ..).mp q) hl ht)) (λa b c d=>λh C=>fS h (λq h=>eB h (λj h=>aK h λf hf h=>Xt O h λr s1 hr=>C _ _ (iZ.mp q▸lz hf▸hr)) λf hf h=>aac O h λr s1 hr=>C _ _ (iZ.mp q▸YM hf▸hr)) λj h=>aK h λf hf h=>aK h λe he h=>aK h λkw hk h=>YW O h λr s1 hr=>C _ _ (lz hf▸nq he▸nq hk▸hr)) (λa b c d=>(λh j=>bD h)) (λa b=>(λh j=>bD h)) (λa b c=>aaI) (λa b c=>λh C=>Zn O h C) (λa b c=>λh C=>Y1 O h C) (λa b=>(λh j=>bD h)) (λa b=>λh C=>aK h λr hr=>C _ _ (aez W.T hr)) (λa b=>λh C=>cu h λq h=>Fn O h λvs s1 hv=>C _ _ (aeI (of_decide_eq_true q) hv).up) (λa b c=>λh C=>cu h λq h=>Fn O h λvs s1 hv=>C _ _ (ahR (of_decide_eq_true q) hv).up) (λa b c d=>(λh j=>bD h))
theorem adQ(O:bS W n I):zD hs I cx v s k->(∀r s',Ts W (n+1) cx v s r s'->k r s'->P)->P:=
 ai.casesOn (motive_1:=λv=>zD hs I cx v s k->(∀r s',Ts W (n+1) cx v s r s'->k r s'->P)->P) v (λa b c=>λh C=>adl O h λt s1 hb=>C _ _ (aft hb).up) (λa b c=>(λh C=>fR O h λt s1 ht=>C _ _ (gf rfl ht).up)) (λa b c d=>(λh C=>fR O h λt s1 ht=>C _ _ (gf rfl ht).up)) (λa b c=>aah O) (λa b c d=>(λh C=>fR O h λt s1 ht=>C _ _ (gf rfl ht).up)) (λa b c d=>(λh j=>bD h)) (λa b c=>(λh C=>fR O h λt s1 ht=>C _ _ (gf rfl ht).up)) (λa b c=>(λh C=>fR O h λt s1 ht=>C _ _ (gf rfl ht).up)) (λa b c d=>(λh C=>fR O h λt s1 ht=>C _ _ (gf rfl ht).up)) (λa b c d=>(λh C=>fR O h λt s1 ht=>C _ _ (gf rfl ht).up)) (λa b c d e=>(λh C=>fR O h λt s1 ht=>C _ _ (gf rfl ht).up)) (λa b c d=>(λh C=>fR O h λt s1 ht=>C _ _ (gf rfl ht).up)) (λa b=>(λh C=>fR O h λt s1 ht=>C _ _ (gf rfl ht).up)) (λa b=>(λh C=>fR O h λt s1 ht=>C _ _ (gf rfl ht).up)) (λa b=>(λh C=>fR O h λt s1 ht=>C _ _ (gf rfl ht).up)) (λa b c d=>λh C=>cu h λq h=>lG O h λl s1 hl h=>NZ O h λt s2 ht=>C _ _ (agn ((Bool.not_eq_true' ..).mp q) hl ht)) (λa b c d=>(λh C=>fR O h λt s1 ht=>C _ _ (gf rfl ht).up)) (λa b c d=>(λh C=>fR O h λt s1 ht=>C _ _ (gf rfl ht).up)) (λa b=>(λh C=>fR O h λt s1 ht=>C _ _ (gf rfl ht).up)) (λa b c=>(λh C=>fR O h λt s1 ht=>C _ _ (gf rfl ht).up)) (λa b c=>(λh C=>fR O h λt s1 ht=>C _ _ (gf rfl ht).up)) (λa b c=>(λh C=>fR O h λt s1 ht=>C _ _ (gf rfl ht).up)) (λa b=>(λh C=>fR O h λt s1 ht=>C _ _ (gf rfl ht).up)) (λa b=>(λh C=>fR O h λt s1 ht=>C _ _ (gf rfl ht).up)) (λa b=>(λh C=>fR O h λt s1 ht=>C _ _ (gf rfl ht).up)) (λa b c=>(λh C=>fR O h λt s1 ht=>C _ _ (gf rfl ht).up)) (λa b c d=>(λh C=>fR O h λt s1 ht=>C _ _ (gf rfl ht).up))
end
end
section
noncomputable def GO(v:ai):Option (List (Option ai)×List ai×aY):=by
 apply ai.casesOn (motive_1:=λj=>Option (List (Option ai)×List ai×aY)) v
 case Dict=>exact λa b c=>U (a,b,c)
 all_goals exists aq
theorem aaP:GO v=U x->v=ai.Dict x.1 x.2.1 x.2.2:=by
 apply ai.casesOn (motive_1:=λv=>GO v=U x->v=ai.Dict x.1 x.2.1 x.2.2) v
 case Dict=>exact λa b c=>λh=>aA h▸rfl
 all_goals exists ay
noncomputable def CG(v:ai):Option (ai×List DC×gE×aY):=by
 apply ai.casesOn (motive_1:=λj=>Option (ai×List DC×gE×aY)) v
 case ListComp=>exact λa b c d=>U (a,b,c,d)
 all_goals exists aq
theorem acu:CG v=U x->v=JO x.1 x.2.1 x.2.2.1 x.2.2.2:=by
 apply ai.casesOn (motive_1:=λv=>CG v=U x->v=JO x.1 x.2.1 x.2.2.1 x.2.2.2) v
 case ListComp=>exact λa b c d=>λh=>aA h▸rfl
 all_goals exists ay
noncomputable def HH(v:ai):Option (ai×ai×aY):=by
 apply ai.casesOn (motive_1:=λj=>Option (ai×ai×aY)) v
 case Subscript=>exact λa b c=>U (a,b,c)
 all_goals exists aq
theorem acp:HH v=U x->v=JK x.1 x.2.1 x.2.2:=by
 apply ai.casesOn (motive_1:=λv=>HH v=U x->v=JK x.1 x.2.1 x.2.2) v
 case Subscript=>exact λa b c=>λh=>aA h▸rfl
 all_goals exists ay
section
variable {G:bR}(W:Ws G)(n:Nat)(hs:Hs)(I:PI)(cx:Cx)
noncomputable def aev(s:S)(r:R):Bool:=R.casesOn (motive:=λj=>Bool) r (λv=>(v.ow.bind λi=>(s.mem[i]?).bind M.gb).isSome) (λy=>((lk y s.vars).bind Sl.gb).isSome) (λj=>ah) (λj j=>ah)
def P4(o:ai)(a:af)(r:R)(s:S)(k:S->Prop):Prop:=oP (cellOf r s) λq=>I.ev cx o q.2 λv s1=>oP (v.fJ.bind V.ow) λi=>oP ((s1.mem[i]?).bind M.ins) λc=>oP (G.cls c.1) λcl=>
 bP (cl.atts.contains a&&aJ (c.2.1.length<100)) (k {s1 with mem:=s1.mem.set i (.inst c.1 (wV c.2.1 c.2.2 a q.1).1 (wV c.2.1 c.2.2 a q.1).2)})
def Qj(o i:ai)(p:aY)(r:R)(s:S)(k:S->Prop):Prop:=oP (s.nJ r) λq=>kR I cx o q.2 λb s1=>jD I cx i s1 λu s2=>
 iP (aev s2 b) (oP u.fH λj=>oN aj s2 b λxs st=>cP ((hs (key 4 p)).bind H.bool) (0<=j/\j<(xs.length:Int)) (k (st (xs.set j.toNat q.1))))
  (F5 s2 b λks vs st=>cP ((hs (key 4 p)).bind H.bool) (dz u ks=J/\ks.length<cG) (hP ((hs (key 0 p)).bind H.p8) (dput u q.1 ks vs) λd=>k (st d.1 d.2)))
def zp(v:ai)(r:R)(s:S)(k:S->Prop):Prop:=by
 apply ai.casesOn (motive_1:=λj=>Prop) v
 case Attribute=>exact λa b c=>P4 (G:=G) I cx a b r s k
 case Subscript=>exact λa b c=>Qj hs I cx a b c r s k
 case Name=>exact λa b=>oP (nt cx a r s) k
 all_goals exists False
def IK(ts:List ai):List V->S->(S->Prop)->Prop:=List.rec (motive:=λj=>List V->S->(S->Prop)->Prop) (λvs s k=>bP vs.isEmpty (k s)) (λt j ih vs s k=>oP (nH vs) λq=>zp (G:=G) hs I cx t (.val q.1) s λs1=>ih q.2 s1 k) ts
def Cw(p:Bool)(t:ai)(v:V)(s:S)(k:S->Prop):Prop:=eP (pX t) (oP (iL t) λq=>bP (!p) (oP (nt cx q.1 (.val v) s) k)) λq=>oP v.tJ λvs=>IK (G:=G) hs I cx q.1 vs s k
def RF(es:List ai):S->(S->Prop)->Prop:=List.rec (motive:=λj=>S->(S->Prop)->Prop) (λs k=>k s) (λe j ih s k=>bP (noStar e) (I.ev cx e s λr s1=>oP (Bh r s1) λs2=>ih s2 k)) es
def QY(ts:List ai):S->(S->Prop)->Prop:=List.rec (motive:=λj=>S->(S->Prop)->Prop) (λs k=>bP s.bX.isEmpty (k s)) (λt j ih s k=>oP (Gx s.bX) λq=>zp (G:=G) hs I cx t q.1.r {s with bX:=q.2} λs1=>ih s1 k) ts
def Q6(it:It)(t:ai)(b:List br)(m:Nat):Nat->S->(Fl->S->Prop)->Prop:=Nat.rec (motive:=λj=>Nat->S->(Fl->S->Prop)->Prop) (λj j j=>False)
 (λj ih i s k=>oP (it.at i s) λo=>eP o (k .next s) λv=>Cw (G:=G) hs I cx it.pair t v s λs1=>I.ex cx b s1 λf s2=>Fl.casesOn (motive:=λj=>Prop) f (ih (i+1) s2 k) (k .next s2) (ih (i+1) s2 k) (λv=>k (.ret v) s2)) m
def Rr(t:ai)(b:List br)(m:Nat):S->(Fl->S->Prop)->Prop:=Nat.rec (motive:=λj=>S->(Fl->S->Prop)->Prop) (λj j=>False)
 (λj ih s k=>I.ts cx t s λc s1=>iP c (I.ex cx b s1 λf s2=>Fl.casesOn (motive:=λj=>Prop) f (ih s2 k) (k .next s2) (ih s2 k) (λv=>k (.ret v) s2)) (k .next s1)) m
def iS(it:It)(t:ai)(b:List br)(s:S)(fl:Fl)(s':S):Prop:=∃m,l6 W.w W.K W.mg W.mb n cx it t b fl s' m 0 s
def iV(t:ai)(b:List br)(s:S)(fl:Fl)(s':S):Prop:=∃m,uf W.w W.K W.mg W.mb n cx t b fl s' m s
def GY(h:Option H)(it:It)(t:ai)(b:List br)(s:S)(k:Fl->S->Prop):Prop:=eP (h.bind H.fs) (Q6 (G:=G) hs I cx it t b 70 0 s k) λq=>iS W n cx it t b s q.1 q.2/\k q.1 q.2
def PY(h:Option H)(t:ai)(b:List br)(s:S)(k:Fl->S->Prop):Prop:=eP (h.bind H.fs) (Rr I cx t b 200 s k) λq=>iV W n cx t b s q.1 q.2/\k q.1 q.2
def PN(t i:ai)(b:List br)(p:aY)(s:S)(k:Fl->S->Prop):Prop:=bP (!isSet i) (CK (G:=G) hs I cx i s λit s1=>iP it.isLive (I.ev cx i s λr s2=>oP r.asVar λz=>oP ((lk z s2.vars).bind Sl.gb) λxs=>
  GY W n hs I cx (hs (key 3 p)) (.cell s2.mem.length) t b {s2.set z (.val (.cell s2.mem.length)) with mem:=s2.mem++[.list xs]} k) (bP (it.oD t) (GY W n hs I cx (hs (key 3 p)) it t b s1 k)))
def tupP(ts es:List ai)(s:S)(k:Fl->S->Prop):Prop:=bP (s.bX.isEmpty&&(!cx.comp&&(aJ (es.length<=100)&&aJ (ts.length=es.length)))) (RF I cx es s λs1=>
 iP (aJ ((ts.length=2\/ts.length=3)/\(jN cx ts).length=ts.length)) (bP (aJ ((jN cx ts).eraseDups.length=ts.length)&&(es.all noStar&&(!(es.all (foldedForSure 8))&&!(es.all (constantsAlone 8))))) (oP (Ay cx (jN cx ts).reverse {s1 with bX:=s1.bX.reverse}) λs2=>k .next s2))
  (QY (G:=G) hs I cx ts s1 λs2=>k .next s2))
def Pc(z:af)(elt t i:ai)(ifs:List ai)(sc:gE)(pos:aY)(s:S)(k:Fl->S->Prop):Prop:=bP (wq cx s sc i) (CK (G:=G) hs I cx i s λit s1=>bP (it.oD t) (GV W n I (sd cx sc) (hs (key 3 pos)) it elt t ifs s1 λys s2=>oP (nt cx z (.list ys) {s2 with cv:=[]}) λs3=>k .next s3))
def PD(t e:ai)(s:S)(k:Fl->S->Prop):Prop:=eP (pX t)
 (eP (CG e) (bP (ro e) (I.ev cx e s λr s1=>zp (G:=G) hs I cx t r s1 λs2=>k .next s2)) λc=>oP (iL t) λz=>oP (one? c.2.1) λg=>bP (aJ (g.is_async=0)) (Pc W n hs I cx z.1 c.1 g.target g.iter g.ifs c.2.2.1 c.2.2.2 s k))
 λq=>eP (pX e) (bP (ro e) (jD I cx e s λv s1=>oP v.tJ λvs=>IK (G:=G) hs I cx q.1 vs s1 λs2=>k .next s2)) λq2=>tupP (G:=G) hs I cx q.1 q2.1 s k
def PS(e:ai)(s:S)(k:Fl->S->Prop):Prop:=eP (if cx.wx then GO e else aj) (jD I cx e s λv s1=>k (.ret v) s1) λd=>bP (!d.1.isEmpty&&aJ (d.1.length<=15)) (oP (EA G cx d.1 d.2.1 [] [] s) λq=>k (.ret (.cell q.2.mem.length)) {q.2 with mem:=q.2.mem++[.dict q.1.1 q.1.2]})
def PZ(t:ai)(o:Operator)(e:ai)(p:aY)(s:S)(k:Fl->S->Prop):Prop:=eP (iL t)
 (oP (HH t) λq=>oP (iL q.1) λz=>oP (iL q.2.1) λiy=>oP ((dU G cx z.1 s).bind R.asVar) λy=>I.ev cx (.Name iy.1 iy.2) s λr1 s1=>oP (r1.fJ.bind V.fH) λj=>oP ((lk y s1.vars).bind Sl.gb) λxs=>oP ((jx xs j).bind V.fH) λa=>
  I.ev cx e s1 λr2 s2=>oP (r2.fJ.bind V.fH) λb=>oP ((lk y s2.vars).bind Sl.gb) λCQ=>oP ((fg o (.int a) (.int b)).bind R.fJ) λv=>oP (setAt CQ j v) λys=>k .next (s2.set y (.list ys)))
 λz=>oP ((dU G cx z.1 s).bind λr=>r.fJ.bind V.fH) λa=>I.ev cx e s λr1 s1=>oP (r1.fJ.bind V.fH) λb=>hP ((hs (key 0 p)).bind H.res) (fg o (.int a) (.int b)) λr2=>oP (nt cx z.1 r2 s1) λs2=>k .next s2
def zK(v:br)(s:S)(k:Fl->S->Prop):Prop:=by
 apply br.casesOn (motive_2:=λj=>Prop) v
 case Return=>exact λa b=>Option.rec (k (.ret .none) s) (λe=>PS (G:=G) I cx e s k) a
 case Assign=>exact λa b c=>oP (one? a) λt=>PD W n hs I cx t b s k
 case AugAssign=>exact λa b c d=>PZ (G:=G) hs I cx a b c d s k
 case For=>exact λa b c d e=>bP d.isEmpty (PN W n hs I cx a b c e s k)
 case While=>exact λa b c d=>bP c.isEmpty (PY W n I cx (hs (key 3 d)) a b s k)
 case If=>exact λa b c d=>I.ts cx a s λt s1=>iP t (I.ex cx b s1 k) (I.ex cx c s1 k)
 case Expr=>exact λa b=>bP (ro a) (I.ev cx a s λr s1=>oP r.fJ λj=>k .next s1)
 case Pass=>exact λa=>k .next s
 case Break=>exact λa=>k .brk s
 case Continue=>exact λa=>k .cont s
 all_goals exists False
def HS(b:List br):S->(Fl->S->Prop)->Prop:=List.rec (motive:=λj=>S->(Fl->S->Prop)->Prop) (λs k=>k .next s) (λt j ih s k=>zK W n hs I cx t s λf s1=>Fl.casesOn (motive:=λj=>Prop) f (ih s1 k) (k .brk s1) (k .cont s1) (λv=>k (.ret v) s1)) b
def QK(a:Nat)(vs:List V)(m:List M)(k:V->List M->Prop):Prop:=oP (G.fn a) λf=>oP (vT f.params vs f.defaults) λb=>I.ex (eK G a f) f.body {vars:=b,mem:=m} λfl s2=>Fl.casesOn (motive:=λj=>Prop) fl (k .none s2.mem) False False (λv=>k v s2.mem)
end
noncomputable def run{G:bR}(W:Ws G)(hs:Hs)(n:Nat):PI:=Nat.rec (motive:=λj=>PI) ⟨λj j j j=>False,λj j j j=>False,λj j j j=>False,λj j j j=>False⟩ (λn I=>⟨t8 W n hs I,zD hs I,HS W n hs I,QK (G:=G) I⟩) n
section
variable {G:bR}{W:Ws G}{n:Nat}{hs:Hs}{I:PI}{cx:Cx}{s:S}{P:Prop}
theorem fN.up{w:aE}{K:aS}{mg mb:af->Option ae}{cx:Cx}{b:br}{s s':S}{fl:Fl}(h:fN w K mg mb n cx b s fl s'):fN w K mg mb (n+1) cx b s fl s':=λF g σ A M=>h F g σ A M.dn
structure Cs(W:Ws G)(n:Nat)(cx:Cx)(t:ai)(r:R)(s s':S):Prop where
 pl:yB t
 st:qj W.w W.K W.mg W.mb n cx t r s s'
theorem Z8(O:bS W n I)(h:P4 (G:=G) I cx o a r s k)(c:∀s',Cs W (n+1) cx (.Attribute o a p) r s s'->k s'->P):P:=
 aK h λq hq h=>O.ev h λv s1 hv h=>aK h λi hi h=>aK h λx hx h=>aK h λcl hc h=>cu h λhk=>c _ ⟨⟨λj j=>rfl,λj j=>rfl⟩,acQ W.T hq ((bN.mp hi).elim λu q=>(ya q.2▸R.kn q.1:v=.val (.cell i))▸hv) (gP (g:=λp=>.inst p.1 p.2.1 p.2.2) M.abD hx) hc (bl hk) (of_decide_eq_true (aU hk))⟩
theorem abh(O:bS W n I)(h:Qj hs I cx o i p r s k)(c:∀s',Cs W (n+1) cx (.Subscript o i p) r s s'->k s'->P):P:=
 have pl:yB (.Subscript o i p):=⟨λx x=>rfl,λx x=>rfl⟩
 aK h λq hq h=>lG O h λb s1 hb h=>jH O h λu s2 hu h=>fS h (λx h=>aK h λj hj h=>q9 (W:=W) h λxs st h2 h=>rv h λhz=>c _ ⟨pl,adw hq hb (nZ hj▸hu) h2 (if_pos hz)⟩)
  λx h=>XH (W:=W) h λks vs st h2 h=>rv h λhz h=>kr h λd hd=>c _ ⟨pl,acB hq hb hu h2 hz.1 hz.2 hd⟩
theorem FP(O:bS W n I):zp (G:=G) hs I cx v r s k->(∀s',Cs W (n+1) cx v r s s'->k s'->P)->P:=
 ai.casesOn (motive_1:=λv=>zp (G:=G) hs I cx v r s k->(∀s',Cs W (n+1) cx v r s s'->k s'->P)->P) v (λa b c=>(λh j=>bD h)) (λa b c=>(λh j=>bD h)) (λa b c d=>(λh j=>bD h)) (λa b c=>(λh j=>bD h)) (λa b c d=>(λh j=>bD h)) (λa b c d=>(λh j=>bD h)) (λa b c=>(λh j=>bD h)) (λa b c=>(λh j=>bD h)) (λa b c d=>(λh j=>bD h)) (λa b c d=>(λh j=>bD h)) (λa b c d e=>(λh j=>bD h)) (λa b c d=>(λh j=>bD h)) (λa b=>(λh j=>bD h)) (λa b=>(λh j=>bD h)) (λa b=>(λh j=>bD h)) (λa b c d=>(λh j=>bD h)) (λa b c d=>(λh j=>bD h)) (λa b c d=>(λh j=>bD h)) (λa b=>(λh j=>bD h)) (λa b c=>(λh j=>bD h)) (λa b c=>λh C=>Z8 O h C) (λa b c=>λh C=>abh O h C) (λa b=>(λh j=>bD h)) (λa b=>λh C=>aK h λs1 q=>C _ ⟨⟨λj j=>rfl,λj j=>rfl⟩,adG q⟩) (λa b=>(λh j=>bD h)) (λa b c=>(λh j=>bD h)) (λa b c d=>(λh j=>bD h))
theorem NC(O:bS W n I):∀{vs s} {k:S->Prop},IK (G:=G) hs I cx ts vs s k->(∀s',rY W.w W.K W.mg W.mb (n+1) cx ts vs s s'->k s'->P)->P:=by
 induction ts with
 |nil=>exact λh c=>cu h λq=>c _ (iZ.mp q▸aeX)
 |cons t r ih=>exact λh c=>aK h λq hq h=>FP O h λs1 h1 h=>ih h λs2 h2=>c _ (pO hq▸ado h1.pl h1.st h2)
theorem FG(O:bS W n I)(h:Cw (G:=G) hs I cx p t v s k)(c:∀s',wR W.w W.K W.mg W.mb (n+1) cx p t v s s'->k s'->P):P:=
 eB h (λj h=>aK h λq hq h=>cu h λhp h=>aK h λs1 h1=>c _ ((Bool.not_eq_true' ..).mp hp▸lz hq▸ab0 h1)) λq hq h=>aK h λvs hv h=>NC O h λs1 h1=>c _ (vy hq▸x9 hv▸afj h1)
theorem acf(O:bS W n I):∀{s} {k:S->Prop},RF I cx es s k->(∀s',uv W.w W.K W.mg W.mb n cx es s s'->k s'->P)->P:=by
 induction es with
 |nil=>exact λh c=>c _ afN h
 |cons e r ih=>exact λh c=>cu h λq h=>O.ev h λr s1 hr h=>aK h λs2 h2 h=>ih h λs3 h3=>c _ (acW q hr h2 h3)
theorem adN(O:bS W n I):∀{s} {k:S->Prop},QY (G:=G) hs I cx ts s k->(∀s',ze W.w W.K W.mg W.mb (n+1) cx ts s s'->k s'->P)->P:=by
 induction ts with
 |nil=>exact λh c=>cu h λq=>c _ (ae6 (iZ.mp q))
 |cons t r ih=>exact λh c=>aK h λq hq h=>FP O h λs1 h1 h=>ih h λs2 h2=>c _ (ac7 h1.pl (Mr hq) h1.st h2)
theorem abA(O:bS W n I):∀{i s} {k:Fl->S->Prop},Q6 (G:=G) hs I cx it t b m i s k->(∀fl s',l6 W.w W.K W.mg W.mb n cx it t b fl s' m i s->k fl s'->P)->P:=by
 induction m with
 |zero=>exact λh c=>h.elim
 |succ m ih=>
  exact λh c=>aK h λo ho h=>eB h (λq=>c _ _ (.stop (q▸ho) rfl rfl)) λv q h=>FG O h λs1 hb h=>O.ex h λf s2 hx h=>by
   induction f with
   |next=>exact ih h λfl s3 hk=>c _ _ (.item v s1 .next s2 (q▸ho) hb hx hk)
   |cont=>exact ih h λfl s3 hk=>c _ _ (.item v s1 .cont s2 (q▸ho) hb hx hk)
   |brk=>exact c _ _ (.item v s1 .brk s2 (q▸ho) hb hx ⟨rfl,rfl⟩) h
   |ret u=>exact c _ _ (.item v s1 (.ret u) s2 (q▸ho) hb hx ⟨rfl,rfl⟩) h
theorem adf(O:bS W n I):∀{s} {k:Fl->S->Prop},Rr I cx t b m s k->(∀fl s',uf W.w W.K W.mg W.mb n cx t b fl s' m s->k fl s'->P)->P:=by
 induction m with
 |zero=>exact λh c=>h.elim
 |succ m ih=>
  exact λh c=>O.ts h λd s1 ht h=>fS h (λq h=>O.ex h λf s2 hx h=>by
   induction f with
   |next=>exact ih h λfl s3 hk=>c _ _ (.turn s1 .next s2 (q▸ht) hx hk)
   |cont=>exact ih h λfl s3 hk=>c _ _ (.turn s1 .cont s2 (q▸ht) hx hk)
   |brk=>exact c _ _ (.turn s1 .brk s2 (q▸ht) hx ⟨rfl,rfl⟩) h
   |ret u=>exact c _ _ (.turn s1 (.ret u) s2 (q▸ht) hx ⟨rfl,rfl⟩) h) λq=>c _ _ (.stop (q▸ht) rfl)
theorem MO(O:bS W n I)(h:GY W n hs I cx h' it t b s k)(c:∀fl s',iS W n cx it t b s fl s'->k fl s'->P):P:=eB h (λj h=>abA O h λfl s' hk=>c _ _ ⟨_,hk⟩) λq j h=>c _ _ h.1 h.2
theorem aai(O:bS W n I)(h:PY W n I cx h' t b s k)(c:∀fl s',iV W n cx t b s fl s'->k fl s'->P):P:=eB h (λj h=>adf O h λfl s' hk=>c _ _ ⟨_,hk⟩) λq j h=>c _ _ h.1 h.2
theorem ZE(O:bS W n I)(h:PN W n hs I cx t i b p s k)(c:∀f s',Sm W (n+1) cx (.For t i b [] p) s f s'->k f s'->P):P:=
 cu h λq h=>have q:=(Bool.not_eq_true' ..).mp q;FQ O h λit s1 hi h=>fS h (λj h=>O.ev h λr s2 hr h=>aK h λz hz h=>aK h λxs hx h=>MO O h λf s3 hl=>c _ _ (hl.elim λm hl=>Zk q (R.AL hz▸hr) (gP Sl.rl hx) hl))
  λq2 h=>cu h λq3 h=>MO O h λf s3 hl=>c _ _ (hl.elim λm hl=>ahF q q2 hi q3 hl)
theorem aaq(O:bS W n I)(h:tupP (G:=G) hs I cx ts es s k)(c:∀f s',Sm W (n+1) cx (.Assign [.Tuple ts a p1] (.Tuple es b p2) p) s f s'->k f s'->P):P:=
 cu h λq h=>acf O h λs1 h1 h=>fS h (λq2 h=>cu h λq3 h=>aK h λs2 h2=>c _ _ (ae5 ((Bool.not_eq_true' ..).mp (bl (aU q))) (of_decide_eq_true q2).1 (of_decide_eq_true q2).2 (of_decide_eq_true (bl q3)) (bl (aU q3)) ((Bool.not_eq_true' ..).mp (bl (aU (aU q3)))) ((Bool.not_eq_true' ..).mp (aU (aU (aU q3))))
   (of_decide_eq_true (bl (aU (aU q)))) (of_decide_eq_true (aU (aU (aU q)))).symm (iZ.mp (bl q)) h1 h2))
  λq2 h=>adN O h λs2 h2=>c _ _ (aho ((Bool.not_eq_true' ..).mp (bl (aU q))) (of_decide_eq_false q2) (of_decide_eq_true (bl (aU (aU q)))) (of_decide_eq_true (aU (aU (aU q)))) (iZ.mp (bl q)) h1 h2)
theorem WO(O:bS W n I)(h:Pc W n hs I cx z elt t i ifs sc pos s k)(c:∀f s',Sm W (n+1) cx (.Assign [.Name z pz] (.ListComp elt [⟨t,i,ifs,0⟩] sc pos) p) s f s'->k f s'->P):P:=
 cu h λq h=>FQ O h λit s1 hi h=>cu h λq2 h=>MU O h λys s2 hm h=>aK h λs3 h3=>c _ _ (hm.elim λm hm=>(XG q hi q2 hm h3).up)
theorem acz(h:pX e=aj):vE e=false:=congrArg Option.isSome h
theorem YT(O:bS W n I)(h:PD W n hs I cx t e s k)(c:∀f s',Sm W (n+1) cx (.Assign [t] e p) s f s'->k f s'->P):P:=
 eB h (λj h=>eB h (λj h=>cu h λq h=>O.ev h λr s1 hr h=>FP O h λs2 h2=>c _ _ (agA h2.pl q hr h2.st)) λl hl h=>aK h λz hz h=>aK h λg hg h=>cu h λq h=>WO O h λf s1 hs=>c _ _ (lz hz▸acu hl▸nq hg▸N3 (of_decide_eq_true q)▸hs))
  λq hq h=>eB h (λhn h=>cu h λq1 h=>jH O h λv s1 hv h=>aK h λvs hvs h=>NC O h λs2 h2=>c _ _ (vy hq▸aaO q1 (acz hn) (x9 hvs▸hv) h2)) λq2 zw h=>aaq O h λf s1 hs=>c _ _ (vy hq▸vy zw▸hs)
theorem Zd(O:bS W n I)(h:PS (G:=G) I cx e s k)(c:∀f s',Sm W (n+1) cx (.Return (U e) p) s f s'->k f s'->P):P:=
 eB h (λj h=>jH O h λv s1 hv=>c _ _ (agv hv).up) λd hd h=>cu h λq h=>aK h λr hr=>c _ _ (aaP (ei hd).2▸afr W.T (AA (bl q)) (of_decide_eq_true (aU q)) hr)
theorem ZH(O:bS W n I)(h:zK W n hs I cx (.Return e p) s k)(c:∀f s',Sm W (n+1) cx (.Return e p) s f s'->k f s'->P):P:=by
 induction e with
 |none=>exact c _ _ ae2 h
 |some e=>exact Zd O h c
theorem aaa(O:bS W n I)(h:PZ (G:=G) hs I cx t o e p s k)(c:∀f s',Sm W (n+1) cx (.AugAssign t o e p) s f s'->k f s'->P):P:=
 eB h (λx h=>aK h λq hq h=>aK h λz hz h=>aK h λiy hi h=>aK h λy hy h=>O.ev h λr1 s1 h1 h=>aK h λj hj h=>aK h λxs hx h=>aK h λa ha h=>O.ev h λr2 s2 h2 h=>aK h λb hb h=>aK h λCQ HG h=>aK h λv hv h=>aK h λys xc=>
   c _ _ (acp hq▸lz hz▸lz hi▸abl W.T (gP R.AL hy) (pN hj▸h1) (gP Sl.rl hx) (gP nZ ha) (pN hb▸h2) (gP Sl.rl HG) (gP R.kn hv) xc))
  λz hz h=>aK h λa ha h=>O.ev h λr1 s1 h1 h=>aK h λb hb h=>kr h λr2 hr h=>aK h λs2 h2=>c _ _ (lz hz▸(agK W.T (gP (g:=λi=>.val (.int i)) pN ha) (pN hb▸h1) hr h2).up)
theorem OE(O:bS W n I):zK W n hs I cx v s k->(∀f s',Sm W (n+1) cx v s f s'->k f s'->P)->P:=
 br.casesOn (motive_2:=λv=>zK W n hs I cx v s k->(∀f s',Sm W (n+1) cx v s f s'->k f s'->P)->P) v (λa b c d e f g h i j=>(λh x=>bD h)) (λa b c d e f g h i j=>(λh x=>bD h)) (λa b c d e f g h i j k=>(λh x=>bD h)) (λa b=>λh C=>ZH O h C) (λa b=>(λh x=>bD h)) (λa b c=>λh C=>aK h λt ht h=>YT O h λf s1 hs=>C _ _ (nq ht▸hs)) (λa b c d e f g=>(λh x=>bD h)) (λa b c d=>λh C=>aaa O h C) (λa b c d e=>(λh x=>bD h)) (λa b c d e=>λh C=>cu h λq h=>ZE O h λf s1 hw=>C _ _ (iZ.mp q▸hw)) (λa b c d e=>(λh x=>bD h)) (λa b c d=>λh C=>cu h λq h=>aai O h λf s1 hw=>C _ _ (iZ.mp q▸hw.elim λm hw=>(acR hw).up)) (λa b c d=>λh C=>O.ts h λt s1 ht h=>fS h (λq h=>O.ex h λf s2 hx=>C _ _ (Rj (q▸ht) hx).up) λq h=>O.ex h λf s2 hx=>C _ _ (ael (q▸ht) hx).up) (λa b c=>(λh x=>bD h)) (λa b c=>(λh x=>bD h)) (λa b c=>(λh x=>bD h)) (λa b c=>(λh x=>bD h)) (λa b c d e=>(λh x=>bD h)) (λa b c d e=>(λh x=>bD h)) (λa b c=>(λh x=>bD h)) (λa b=>(λh x=>bD h)) (λa b c d=>(λh x=>bD h)) (λa b=>(λh x=>bD h)) (λa b=>(λh x=>bD h)) (λa b=>λh C=>cu h λq h=>O.ev h λr s1 hr h=>aK h λv hv=>C _ _ (afc q (R.kn hv▸hr)).up) (λa=>λh C=>C _ _ aea h) (λa=>λh C=>C _ _ ab4 h) (λa=>λh C=>C _ _ af5 h)
theorem acw(O:bS W n I):∀{s} {k:Fl->S->Prop},HS W n hs I cx b s k->(∀f s',Ex W (n+1) cx b s f s'->k f s'->P)->P:=by
 induction b with
 |nil=>exact λh c=>c _ _ tM h
 |cons t r ih=>
  intro s k h c
  exact OE (hs:=hs) (cx:=cx) (v:=t) (s:=s) (k:=λf s1=>Fl.casesOn (motive:=λj=>Prop) f (HS W n hs I cx r s1 k) (k .brk s1) (k .cont s1) (λv=>k (.ret v) s1)) O h λf s1 h1 h=>by
   induction f with
   |next=>exact ih h λf s2 hk=>c _ _ (aT h1 hk)
   |brk=>exact c _ _ (n9 (λe=>by cases e) h1) h
   |cont=>exact c _ _ (n9 (λe=>by cases e) h1) h
   |ret v=>exact c _ _ (n9 (λe=>by cases e) h1) h
theorem adg(O:bS W n I)(h:QK (G:=G) I a vs m k)(c:∀v m',Ca W (n+1) a vs m v m'->k v m'->P):P:=
 aK h λf hf h=>aK h λb hb h=>O.ex h λfl s2 hx h=>by
  induction fl with
  |next=>exact c _ _ (C5 (W.hf a f hf) hb hx (.inr ⟨rfl,rfl⟩)) h
  |ret v=>exact c _ _ (C5 (W.hf a f hf) hb hx (.inl rfl)) h
  |brk=>exact h.elim
  |cont=>exact h.elim
theorem oe(W:Ws G)(hs:Hs)(n:Nat):bS W n (run W hs n):=
 Nat.rec (motive:=λn=>bS W n (run W hs n)) ⟨λh j=>h.elim,λh j=>h.elim,λh j=>h.elim,λh j=>h.elim⟩ (λn O=>⟨aco O,adQ O,acw O,adg O⟩) n
noncomputable abbrev Bd{G:bR}(W:Ws G)(n:Nat):=wR W.w W.K W.mg W.mb (n+1)
end
end
noncomputable def mF(K:aS)(a:Nat):Obj:=(K.lookup a).getD default
noncomputable def jB(K:aS)(a:Nat):FuncData:=match (mF K a).data with|.func f=>f|_=>default
noncomputable def adr(v:ae):Addr:=match v with|.ref c=>c|_=>0
noncomputable def ahe(v:Option ae):Tok:=match v with|some (.str _ t)=>t|_=>0
noncomputable def G6(K:aS)(a:Nat):Array Value:=match (mF K a).data with|.fields vs=>vs|_=>#[]
noncomputable def tW(K:aS)(a:Nat):List Value:=match (mF K a).data with|.seq xs _=>xs.toList|_=>[]
noncomputable def wF(K:aS)(a:Nat):List Value:=match (jB K a).defaults with|.ref T=>tW K T|_=>[]
noncomputable def uy(K:aS)(a:Nat):Addr:=adr (jB K a).code
noncomputable def cst(u:ae):V:=match u with|.bool b=>.bool b|.int i _=>.int i|_=>.none
noncomputable def CD(u:ae):Bool:=match u with|.none=>J|.bool _=>J|.int _ _=>J|_=>ah
theorem adE{w:aE}{z:Z}{cs:List ag}{u:ae}:CD u=J->Den w z cs (cst u) u:=
 ae.casesOn (motive:=λu=>CD u=J->Den w z cs (cst u) u) u (λj=>.none) bo bo (λb j=>.bool b) (λi t j=>.int i t) (λj j=>bo) (λj j=>bo) (λj j=>bo) (λj=>bo) (λj=>bo) (λj=>bo)
theorem ZV{w:aE}{z:Z}{cs:List ag}(us:List ae):us.all CD=J->aF w z cs (us.map cst) us:=by
 induction us with
 |nil=>exact λj=>.nil
 |cons u q ih=>exact λh=>.cons (adE (bl h)) (ih (aU h))
theorem V2(x:af)(l:List (af×dC)):∀(n:Nat) (acc:List (af×ag)),(acc.lookup x).isSome=J->((m4 n l acc).lookup x).isSome=true:=by
 induction l with
 |nil=>exact λj j h=>h
 |cons p r ih=>
  intro n acc h
  unfold m4
  split
  ·refine ih _ _ ?_
   rw[sD]
   split
   ·rfl
   ·exact h
  ·exact ih _ _ h
theorem La{x:af}(l:List (af×dC)):∀(n:Nat) (acc:List (af×ag)),lk x l=U .cell->((m4 n l acc).lookup x).isSome=true:=by
 induction l with
 |nil=>exact λj j h=>ay h
 |cons p r ih=>
  intro n acc h
  refine E9 (y:=p.1) (a:=p.2) h (λe1 e2=>?_) λj h=>?_
  ·unfold m4
   rw[if_pos (by rw[e2];rfl)]
   refine V2 x r _ _ ?_
   rw[sD,e1,beq_self_eq_true]
   rfl
  ·unfold m4
   split
   ·exact ih _ _ h
   ·exact ih _ _ h
def pY:Nat->(List ae->Prop)->Prop
 |0,P=>P []
 |n+1,P=>∀y,pY n λys=>P (y::ys)
theorem Hi(n:Nat):∀{P:List ae->Prop},pY n P->∀ys:List ae,ys.length=n->P ys:=by
 induction n with
 |zero=>exact λh ys e=>(C6 e).symm▸h
 |succ n ih=>exact λ{P} h ys=>ys.casesOn (motive:=λys=>ys.length=n+1->P ys) (λe=>nomatch e) λy q e=>ih (h y) q (Ak e)
noncomputable def bdL(K:aS)(S:Setting)(a:Nat)(ys:List ae):Option (List (af×ae)):=peek K S (bindArgs (jB K a) ⟨ys,[]⟩)
noncomputable def bdR(K:aS)(a:Nat)(ps:List af)(ys:List ae):Option (List (af×ae)):=U (ps.zip (ys++(wF K a).drop ((wF K a).length-(ps.length-ys.length))))
def rU(K:aS)(a:Nat)(ps:List af)(ys:List ae):Prop:=∀S:Setting,bdL K S a ys=bdR K a ps ys
noncomputable def aeP(K:aS)(a:Nat)(f:bb)(n j:Nat):Bool:=
 keepIn K (.ref a)&&(decide f.params.Nodup&&(aJ ((m4 0 f.sc []).map (·.1)).Nodup&&(f.params.all (λp=>f.sc.lookup p==U .local||f.sc.lookup p==U .cell)&&
 (aJ ((jB K a).scope.names=f.sc)&&((jB K a).scope.kind==.function&&(!(jB K a).scope.isCoroutine&&(!(jB K a).scope.isGenerator&&((jB K a).closure.isEmpty&&(ie (jB K a).globals jE&&(ie (jB K a).builtins qM&&
 ((a !=Gf||((jB K a).code==.ref pJ&&aJ ((jB K a).qualname=yO)))&&((wF K a).all CD&&(ie f.params.length (n+j)&&ie (wF K a).length j)))))))))))))
abbrev T9:Type:=Bool×Option aP×Data×FuncBody×ae×Option aP×Data×Option ae×List V
noncomputable def cL(K:aS)(a:Nat)(f:bb)(n j:Nat):T9:=(aeP K a f n j,K.lookup a,(mF K a).data,(jB K a).body,(jB K a).code,K.lookup (uy K a),(mF K (uy K a)).data,(G6 K (uy K a))[1]?,(wF K a).map cst)
noncomputable def cR(K:aS)(a:Nat)(f:bb):T9:=(J,U (mF K a),.func (jB K a),.stmts f.body,.ref (uy K a),U (mF K (uy K a)),.fields (G6 K (uy K a)),U (.str (jB K a).qualname (ahe ((G6 K (uy K a))[1]?))),f.defaults)
structure QJ(K:aS)(a:Nat)(f:bb)(n j:Nat):Prop where
 c:cL K a f n j=cR K a f
 b:pY n (rU K a f.params)
 d:j=1->pY (n+1) (rU K a f.params)
 e:j=0\/j=1
theorem acv{K:aS}{a n j:Nat}{ps:List af}(hn:ps.length=n+j)(b:pY n (rU K a ps))(d:j=1->pY (n+1) (rU K a ps))(e:j=0\/j=1)(ys:List ae)(h1:ys.length<=ps.length)(h2:ps.length<=ys.length+j):rU K a ps ys:=by
 rw[hn] at h1 h2
 have h3:n<=ys.length:=Nat.le_of_add_le_add_right h2
 clear h2
 rcases e with rfl|rfl
 ·exact Hi n b ys (me h1 h3)
 ·exact(Nat.lt_or_eq_of_le h1).elim (λh=>Hi n b ys (me (pk h) h3)) λh=>Hi (n+1) (d rfl) ys h
theorem ae7{b1 b2 b3 b4 b5 b6 b7 b8 b9 QC QW QT QO Rh RA:Bool}{P:Prop}(h0:(b1&&(b2&&(b3&&(b4&&(b5&&(b6&&(b7&&(b8&&(b9&&(QC&&(QW&&(QT&&(QO&&(Rh&&RA))))))))))))))=J)(k:b1=J->b2=J->b3=J->b4=J->b5=J->b6=J->b7=J->b8=J->b9=J->QC=J->QW=J->QT=J->QO=J->Rh=J->RA=J->P):P:=by
 have h1:=aU h0
 have h2:=aU h1
 have h3:=aU h2
 have h4:=aU h3
 have h5:=aU h4
 have h6:=aU h5
 have h7:=aU h6
 have h8:=aU h7
 have h9:=aU h8
 have QX:=aU h9
 have Rq:=aU QX
 have RM:=aU Rq
 have Rd:=aU RM
 have h14:=aU Rd
 exact k (bl h0) (bl h1) (bl h2) (bl h3) (bl h4) (bl h5) (bl h6) (bl h7) (bl h8) (bl h9) (bl QX) (bl Rq) (bl RM) (bl Rd) h14
theorem j4{T aa:Type _}{a c:T}{b d:aa}{P:Prop}(h:(a,b)=(c,d))(k:a=c->b=d->P):P:=k (congrArg Prod.fst h) (congrArg Prod.snd h)
theorem ahG{T0 T1 T2 T3 T4 T5 T6 T7 T8:Type _}{a0 c0:T0}{a1 c1:T1}{a2 c2:T2}{a3 c3:T3}{a4 c4:T4}{a5 c5:T5}{a6 c6:T6}{a7 c7:T7}{a8 c8:T8}{P:Prop}(h:(a0,a1,a2,a3,a4,a5,a6,a7,a8)=(c0,c1,c2,c3,c4,c5,c6,c7,c8))(k:a0=c0->a1=c1->a2=c2->a3=c3->a4=c4->a5=c5->a6=c6->a7=c7->a8=c8->P):P:=
 j4 h λe0 h=>j4 h λe1 h=>j4 h λe2 h=>j4 h λe3 h=>j4 h λe4 h=>j4 h λe5 h=>j4 h λe6 h=>j4 h λe7 e8=>k e0 e1 e2 e3 e4 e5 e6 e7 e8
theorem ZK{w:aE}{K:aS}{a:Nat}{f:bb}{n j:Nat}(h:QJ K a f n j):B8 w K a f:=
 ahG h.c λc1 c2 c3 c4 c5 c6 c7 c8 c9=>ae7 c1 λk1 k2 k3 k4 k5 k6 k7 k8 k9 IQ IB HC Ik C0 IA=>
 ⟨k1,of_decide_eq_true k2,of_decide_eq_true k3,λp hp n=>((Ab _ _).mp (md.mp k4 p hp)).imp (λq=>eq_of_beq q) λq=>⟨eq_of_beq q,La _ _ _ (by rw[qT];exact eq_of_beq q)⟩,
  λx n q=>Ja.mp (La _ _ _ q),
  λQ_ k_=>k_ _ _ (wF K a) _ _ _ _ c2 c3 c4 (of_decide_eq_true k5) (eq_of_beq k6) ((Bool.not_eq_true' _).mp k7) ((Bool.not_eq_true' _).mp k8) (iZ.mp k9) (uG IQ) (uG IB) (λe=>((Ab _ _).mp HC).elim (λq=>absurd e (bne_iff_ne.mp q)) λq=>⟨eq_of_beq (bl q),of_decide_eq_true (aU q)⟩) c5 c6 c7 c8 (λy y=>c9▸ZV _ Ik) (λys s hK h1 h2=>kp_binds hK (acv (uG C0) h.b h.d h.e ys h1 (uG IA▸h2)))⟩
def tR(K:aS):List (Nat×bb)->Prop
 |[]=>True
 |p::r=>(∃n j,QJ K p.1 p.2 n j)/\tR K r
theorem cq{K:aS}{a:Nat}{f:bb}{r:List (Nat×bb)}(n:Nat)(c:cL K a f n 0=cR K a f)(b:pY n (rU K a f.params))(h:tR K r):tR K ((a,f)::r):=⟨⟨n,0,c,b,λe=>(nomatch e),.inl rfl⟩,h⟩
theorem o9{K:aS}{a:Nat}{f:bb}{r:List (Nat×bb)}(n:Nat)(c:cL K a f n 1=cR K a f)(b:pY n (rU K a f.params))(d:pY (n+1) (rU K a f.params))(h:tR K r):tR K ((a,f)::r):=⟨⟨n,1,c,b,λj=>d,.inr rfl⟩,h⟩
section
noncomputable def Hx(K:aS):Array DictEntry:=match (mF K jE).data with|.dict es _=>es|_=>#[]
noncomputable def w1(K:aS)(x:af):Option Value:=nsFind (Hx K) x
noncomputable def Cp(u:ae):Option V:=match u with
 |.int i _=>U (.int i)
 |.str s _=>U (.str s)
 |.builtin b=>U (.bi b)
 |.type b=>U (.ty b)
 |.ref a=>U (.fn a)
 |_=>aj
noncomputable def Cm:List ae->Option (List V)
 |[]=>U []
 |u::r=>(Cp u).bind λv=>(Cm r).map (v::·)
noncomputable def B7(K:aS)(as:List Nat)(u:ae):Option V:=match u with
 |.ref a=>bif as.elem a then(Cm (tW K a)).map .tup else U (.fn a)
 |u=>Cp u
def BF(K:aS):List Nat->Prop
 |[]=>True
 |a::r=>(K.lookup a,Nat.ble (tW K a).length 100)=(U (i6 (tW K a).toArray 0),J)/\BF K r
theorem ZS{K:aS}{a:Nat}(as:List Nat):BF K as->as.elem a=J->(K.lookup a,Nat.ble (tW K a).length 100)=(U (i6 (tW K a).toArray 0),J):=by
 induction as with
 |nil=>exact λj=>bo
 |cons b r ih=>exact λh e=>(cf.mp (List.mem_of_elem_eq_true e)).elim (λe=>e▸h.1) λe=>ih h.2 (List.elem_eq_true_of_mem e)
section
variable {w:aE}{z:Z}{cs:List ag}{K:aS}
theorem yi{v:V}{u:ae}:Cp u=U v->Den w z cs v u:=
 ae.casesOn (motive:=λu=>Cp u=U v->Den w z cs v u) u ay ay ay (λj=>ay) (λi t e=>aA e▸.int i t) (λj j=>ay) (λs t e=>aA e▸.str s t) (λj j=>ay) (λb e=>aA e▸.ty b) (λb e=>aA e▸.bi b) (λa e=>aA e▸.fn a)
theorem Mq(us:List ae):∀{vs:List V},Cm us=U vs->aF w z cs vs us:=by
 induction us with
 |nil=>exact λe=>aA e▸.nil
 |cons u r ih=>exact λe=>(bN.mp e).elim λv q=>(dw.mp q.2).elim λl p=>p.2▸.cons (yi q.1) (ih p.1)
theorem Zf{h:az}(X:K.In h){as:List Nat}(T:BF K as){v:V}{u:ae}:B7 K as u=U v->Den w h.get? cs v u:=
 ae.casesOn (motive:=λu=>B7 K as u=U v->Den w h.get? cs v u) u ay ay ay (λj=>ay) (λx y=>yi (u:=.int x y)) (λj j=>ay) (λx y=>yi (u:=.str x y)) (λj j=>ay) (λx=>yi (u:=.type x)) (λx=>yi (u:=.builtin x)) λa e=>by
  have e:(bif as.elem a then(Cm (tW K a)).map .tup else U (.fn a))=U v:=e
  cases q:as.elem a with
  |false=>rw[q] at e;exact aA e▸.fn a
  |true=>
   rw[q] at e
   exact j4 (ZS as T q) λq1 q2=>(dw.mp e).elim λvs p=>p.2▸.tup (X _ _ q1) (Mq _ p.1) ((Mq (w:=w) (z:=h.get?) (cs:=cs) _ p.1).length.symm▸bf (Sv q2) (by decide+kernel))
end
section
variable {w:aE}{K:aS}{mg mb:af->Option ae}
noncomputable def Co(K:aS)(x:af):Option Value:=Option.rec (bif x==n! "__name__" then aj else uS x) U (w1 K x)
noncomputable def Hy(K:aS)(as:List Nat):List (af×V)->List (Option V)
 |[]=>[]
 |p::r=>((Co K p.1).bind (B7 K as))::Hy K as r
noncomputable def Iv:List (af×V)->List (Option V)
 |[]=>[]
 |p::r=>U p.2::Iv r
theorem adp{as:List Nat}{x:af}{v:V}(l:List (af×V)):Hy K as l=Iv l->lk x l=U v->(Co K x).bind (B7 K as)=U v:=by
 induction l with
 |nil=>exact λj h=>ay h
 |cons p r ih=>exact λe h=>E9 (y:=p.1) (a:=p.2) h (λe1 e2=>e1▸e2▸(nV e).1) λj h=>ih (nV e).2 h
theorem Zr{u:ae}{x:af}(hm:∀x,mg x=w1 K x)(hb:∀x:af,x≠n! "__name__"->mb x=uS x)(h:Co K x=U u):mg x=U u\/(mg x=aj/\mb x=U u):=by
 rw[hm x]
 unfold Co at h
 cases q:w1 K x with
 |some y=>rw[q] at h;exact .inl h
 |none=>
  rw[q] at h
  refine .inr ⟨rfl,?_⟩
  cases e:(x==n! "__name__") with
  |true=>have h:(bif (x==n! "__name__") then aj else uS x)=U u:=h;rw[e] at h;exact ay h
  |false=>have h:(bif (x==n! "__name__") then aj else uS x)=U u:=h;rw[e] at h;exact(hb x (beq_eq_false_iff_ne.mp e)).trans h
noncomputable def Ov(K:aS)(c:Nat)(k:lL):Bool:=
 findIn K (.ref c) "__setattr__"==U (U (.builtin "object.__setattr__"))&&(plainOver K c&&(k.atts.all (λa=>takerIn K c a==U aj&&(hasDictIn K c&&(plainGet K c a&&Kv (noGet K) (findIn K (.ref c) a))))&&(keepIn K (.ref c)&&(makesIn K c&&
 (findIn K (.ref c) "__init__"==U (U (.ref k.init))&&(typeIn K (.ref k.init)==U (.type "function")&&
 k.meths.all (λp=>plainGet K c p.1&&(findIn K (.ref c) p.1==U (U (.ref p.2))&&isFn K (.ref p.2)))))))))
theorem ahV{b1 b2 b3 b4 b5 b6 b7 b8:Bool}{P:Prop}(h0:(b1&&(b2&&(b3&&(b4&&(b5&&(b6&&(b7&&b8)))))))=J)(k:b1=J->b2=J->b3=J->b4=J->b5=J->b6=J->b7=J->b8=J->P):P:=by
 have h1:=aU h0
 have h2:=aU h1
 have h3:=aU h2
 have h4:=aU h3
 have h5:=aU h4
 have h6:=aU h5
 exact k (bl h0) (bl h1) (bl h2) (bl h3) (bl h4) (bl h5) (bl h6) (aU h6)
theorem any_some{α:Type}{o:Option α}{p:α->Bool}:Kv p o=J->∃a,o=U a/\p a=true:=Option.casesOn (motive:=λo=>Kv p o=J->∃a,o=U a/\p a=J) o bo λa h=>⟨a,rfl,h⟩
theorem adh{c:Nat}{k:lL}(h:Ov K c k=J):yI K c k:=
 ahV h λh1 h2 h3 h4 h5 h6 h7 h8=>
  have h3:=λa ha=>md.mp h3 a ha
  ⟨⟨eq_of_beq h1,h2,λa ha=>⟨eq_of_beq (bl (h3 a ha)),bl (aU (h3 a ha))⟩⟩,h4,h5,eq_of_beq h6,eq_of_beq h7,λa ha=>⟨bl (aU (aU (h3 a ha))),bl (aU (h3 a ha)),any_some (aU (aU (aU (h3 a ha))))⟩,
   λm f hm=>have q:=md.mp h8 (m,f) (Bj hm);⟨bl q,eq_of_beq (bl (aU q)),aU (aU q)⟩⟩
theorem acP{h:az}{n:Nat}(c:K.lookup jE=U (mF K jE))(d:(mF K jE).data=.dict (Hx K) n)(X:K.In h)(g:h.Ns jE mg)(x:af):mg x=w1 K x:=
 g.elim λo q=>q.elim λes q=>q.elim λep q=>by
  have e1:=aA ((X _ _ c).symm.trans q.1)
  have e2:=q.2.1
  rw[<-e1,d] at e2
  injection e2 with e2
  exact(q.2.2.2 x).symm.trans (e2▸rfl)
end
end
section
section
variable {w:aE}{K:aS}{mg mb:af->Option ae}{h:az}{s:aw}
theorem EV{a:ag}{m:af->Option ae}(x:h.Ns a m)(ha:a≠dY):(h.hide dY).Ns a m:=
 x.elim λo q=>q.elim λes q=>q.elim λep q=>⟨o,es,ep,(Am h ha).trans q.1,q.2⟩
theorem aaY(hK:K.In h)(hT:h.get? dY=U (mw #[]))(hk:K.lookup dY=aj)(yQ:codeHdIn K pJ dY=J)
  (g:h.Ns jE mg) (b:h.Ns qM mb) (lim:h.NoLimit)
  (bm:∃bm ob,mg (n! "__builtins__")=U (.ref bm)/\bm≠qM/\h.get? bm=U ob/\ob.cls=.type "module"/\ob.dict=U qM/\ob.data=.plain)
  (bi:∀x:af,x≠n! "__name__"->mb x=uS x):Base w K (h.hide dY) mg mb:=
 have QL:K.In (h.hide dY):=λa o e=>(Am h λq=>by rw[q,hk] at e;exact ay e).trans (hK a o e)
 ⟨QL,EV g (by decide),EV b (by decide),lim.elim λmc q=>⟨mc,EV q.1 (by decide),q.2⟩,codeHd_of_K QL yQ,
  bm.elim λm q=>q.elim λob q=>⟨m,ob,q.1,q.2.1,(Am h λe=>by
   have q3:=q.2.2.1
   rw[e,hT] at q3
   have q5:=q.2.2.2.1
   rw[<-aA q3] at q5
   exact nomatch q5).trans q.2.2.1,q.2.2.2⟩,bi⟩
noncomputable def z0(h:az):Z:=λa=>(h.hide dY).get? a
noncomputable def r0:Z:=λa=>if a=dY then U (mw #[]) else aj
noncomputable def B0(s:aw):Fm:=⟨s.heap.hide dY,dY,pM,rd,default,default,ah,λj=>aj,z0 s.heap,s.os⟩
theorem FN{a:ag}{o:aP}(e:r0 a=U o):a=dY/\mw #[]=o:=by
 unfold r0 at e
 by_cases q:a=dY
 ·exact⟨q,aA ((if_pos q).symm.trans e)⟩
 ·exact ay ((if_neg q).symm.trans e)
theorem aeY(hT:s.heap.get? dY=U (mw #[]))(hg:s.gens=#[]):dN w (B0 s) [] (z0 s.heap) r0 [] [] s:=
 {zi:=λj j e=>az.of_hide e
  ki:=λj j=>ay
  ri:=λa o e=>(FN e).1▸(FN e).2▸hT
  rz:=λa o e=>⟨(FN e).1▸az.hide_self s.heap dY,rfl⟩
  zk:=λj j j=>.inl rfl
  zb:=λj j e=>e
  base:=λj j e=>e
  gens:=hg
  os:=rfl
  tb:=⟨#[],if_pos rfl,⟨rfl,rfl,rfl⟩,trivial,.inl rfl⟩
  mem:=.nil
  nd:=eN.mpr ⟨uN,.nil⟩}
theorem adn{n:Nat}{m':List M}{l:ag}{ns:List Int}{vs:List ae}{m:Nat}(B:Base w K (s.heap.hide dY) mg mb)
  (ht:s.heap.get? dY=U (mw #[])) (yQ:CodeHd s.heap pJ dY) (hg:s.gens=#[]) (hA:cJ n callerA)
  (hl:s.heap.get? l=U (bg vs.toArray m)) (hI:dO vs ns) (hn:ns.length<=bQ)
  (hr:uu w K mg mb n 533 [.list (ns.map .int)] [] (.bool J) m'):
  ic (ar ao w) callerA (.call (.ref 533) ⟨[.ref l],[]⟩) (λr σ'=>r=.ok (.ret (.bool J))/\OldK s.heap σ'.heap/\σ'.os=s.os/\AllBare σ'.gens) s:=by
 have cX:l≠dY:=λe=>by
  rw[e,ht] at hl
  exact nomatch (congrArg aP.cls (aA hl))
 refine ka (hr.2 (B0 s) _ _ [] [] s callerA [.ref l] B hA (aeY ht hg) (.cons (.list ((Am s.heap cX).trans hl) (El hI) ((aO _).symm▸hn)) .nil)) ?_
 intro r σ' P
 refine P _ λy e z' ρ' aV fo hz hc Hh hy=>?_
 have hy:y=.bool true:=hy.inv
 have hold:∀b o,s.heap.get? b=U o->b≠dY->σ'.heap.get? b=U o:=λb o e ne=>Hh.zi _ _ (hz _ _ ((Am s.heap ne).trans e))
 refine Hh.tb.elim λps q=>?_
 have hp:σ'.heap.get? dY=U (mw ps):=Hh.ri _ _ q.1
 refine⟨hy▸e,⟨λb o e=>?_,λb o e=>?_⟩,Hh.os,.of_eq Hh.gens⟩
 ·by_cases hb:b=dY
  ·have e2:=aA (ht.symm.trans (hb▸e))
   subst hb
   refine e2▸.inr (.inl ⟨(yQ.tab ht).isCodeTable,rfl,#[],ps,rfl,?_⟩)
   rw[hp,Array.empty_append]
  ·exact .inl (hold b o e hb)
 ·by_cases hb:b=dY
  ·exact hb▸⟨_,hp⟩
  ·exact⟨_,hold b o e hb⟩
end
theorem agI:cJ 130 callerA:=⟨rfl,by show 301+2*130<1000;decide,by show 4+30*130<9900;decide⟩
end
noncomputable def bK(i:Nat):Stmt:=(I4.main.body[i]?).getD (.Pass ⟨0,0,0,0⟩)
noncomputable def qh:Expr:=.Constant .none 0 ⟨0,0,0,0⟩
noncomputable def sV0:bb×Option ai×List br×List br×Expr:=(⟨[],[],[],[]⟩,aj,[],[],qh)
noncomputable def zF(v:br):bb×Option ai×List br×List br×Expr:=by
 apply br.casesOn (motive_2:=λj=>bb×Option ai×List br×List br×ai) v
 case FunctionDef=>exact λa b c d e f g h i j=>(⟨b.args.map (·.arg),[],c,g.names⟩,aj,[],[],qh)
 case ClassDef=>exact λa b c d e f g h i j k=>(⟨[],[],[],[]⟩,aj,d,[],qh)
 case Return=>exact λa b=>(⟨[],[],[],[]⟩,a,[],[],qh)
 case Assign=>exact λa b c=>(⟨[],[],[],[]⟩,U b,[],[],qh)
 case AugAssign=>exact λa b c d=>(⟨[],[],[],[]⟩,U c,[],[],qh)
 case For=>exact λa b c d e=>(⟨[],[],[],[]⟩,U b,c,[],a)
 case While=>exact λa b c d=>(⟨[],[],[],[]⟩,U a,b,[],qh)
 case If=>exact λa b c d=>(⟨[],[],[],[]⟩,U a,b,c,qh)
 case Expr=>exact λa b=>(⟨[],[],[],[]⟩,U a,[],[],qh)
 all_goals exists sV0
noncomputable def aht(v:br):Option Expr:=(zF v).2.1
noncomputable def ba(v:br):List Stmt:=(zF v).2.2.1
noncomputable def PT(v:br):List Stmt:=(zF v).2.2.2.1
noncomputable def cE(v:br):Expr:=(zF v).2.2.2.2
noncomputable def kB(j:Nat)(v:br):Stmt:=((ba v)[j]?).getD (.Pass ⟨0,0,0,0⟩)
noncomputable def bL(ds:List V)(v:br):bb:={(zF v).1 with defaults:=ds}
noncomputable def f61:bb:=bL [] (bK 5)
noncomputable def f68:bb:=bL [] (bK 15)
noncomputable def f75:bb:=bL [] (bK 16)
noncomputable def f82:bb:=bL [] (bK 17)
noncomputable def f89:bb:=bL [] (bK 18)
noncomputable def f96:bb:=bL [] (bK 20)
noncomputable def ahW:bb:=bL [] (bK 21)
noncomputable def G4:bb:=bL [] (bK 22)
noncomputable def GN:bb:=bL [] (bK 23)
noncomputable def GH:bb:=bL [.bool ah] (bK 24)
noncomputable def aga:bb:=bL [] (bK 25)
noncomputable def ahJ:bb:=bL [] (bK 26)
noncomputable def GK:bb:=bL [.none] (bK 28)
noncomputable def ahk:bb:=bL [.none] (bK 29)
noncomputable def agh:bb:=bL [] (bK 35)
noncomputable def ag2:bb:=bL [.none] (bK 36)
noncomputable def agU:bb:=bL [.none] (bK 37)
noncomputable def ag6:bb:=bL [] (bK 38)
noncomputable def yR:bb:=bL [.none] (bK 39)
noncomputable def GP:bb:=bL [] (bK 41)
noncomputable def Hd:bb:=bL [.none] (bK 42)
noncomputable def aha:bb:=bL [] (bK 43)
noncomputable def GJ:bb:=bL [] (bK 44)
noncomputable def He:bb:=bL [] (bK 45)
noncomputable def Gw:bb:=bL [] (bK 46)
noncomputable def GX:bb:=bL [] (bK 47)
noncomputable def agB:bb:=bL [] (bK 48)
noncomputable def GR:bb:=bL [.int 30] (bK 49)
noncomputable def GW:bb:=bL [.int 30] (bK 50)
noncomputable def Hk:bb:=bL [] (bK 51)
noncomputable def ag7:bb:=bL [] (bK 53)
noncomputable def ahu:bb:=bL [] (bK 55)
noncomputable def ahz:bb:=bL [] (bK 57)
noncomputable def Ho:bb:=bL [] (bK 61)
noncomputable def agr:bb:=bL [] (bK 62)
noncomputable def GF:bb:=bL [] (bK 63)
noncomputable def ahh:bb:=bL [] (bK 64)
noncomputable def ahj:bb:=bL [] (bK 65)
noncomputable def G0:bb:=bL [] (bK 66)
noncomputable def agq:bb:=bL [] (bK 67)
noncomputable def GS:bb:=bL [] (bK 68)
noncomputable def Cn:bb:=bL [] (bK 69)
noncomputable def GL:bb:=bL [] (bK 70)
noncomputable def Hm:bb:=bL [] (bK 71)
noncomputable def Hb:bb:=bL [] (bK 72)
noncomputable def wb:bb:=bL [] (bK 73)
noncomputable def ahc:bb:=bL [] (kB 0 (bK 27))
noncomputable def agG:bb:=bL [] (kB 1 (bK 27))
noncomputable def agk:bb:=bL [] (kB 2 (bK 27))
noncomputable def agc:bb:=bL [.none] (kB 0 (bK 40))
noncomputable def ahL:bb:=bL [] (kB 1 (bK 40))
noncomputable def agE:bb:=bL [] (kB 3 (bK 40))
noncomputable def ahm:bb:=bL [] (kB 0 (bK 54))
noncomputable def ahU:bb:=bL [] (kB 1 (bK 54))
noncomputable def agx:bb:=bL [] (kB 2 (bK 54))
noncomputable def agg:bb:=bL [] (kB 3 (bK 54))
noncomputable def ag0:bb:=bL [] (kB 0 (bK 58))
noncomputable def agj:bb:=bL [] (kB 1 (bK 58))
noncomputable def ahY:bb:=bL [] (kB 2 (bK 58))
noncomputable def agN:bb:=bL [] (kB 3 (bK 58))
noncomputable def agM:lL:=⟨151,[n! "pairs",n! "seconds"],[(n! "__init__",151),(n! "pair",158),(n! "is_second",165)]⟩
noncomputable def ahD:lL:=⟨243,[n! "data",n! "word",n! "composer",n! "held"],[(n! "__init__",243),(n! "put",250),(n! "finish",264)]⟩
noncomputable def ag8:lL:=⟨368,[n! "default",n! "starts",n! "values"],[(n! "__init__",368),(n! "get",375),(n! "put",382),(n! "ranges",387)]⟩
noncomputable def ags:lL:=⟨429,[n! "defaults",n! "maps",n! "properties",n! "words"],[(n! "__init__",429),(n! "put",436),(n! "get",443),(n! "map_of",450)]⟩
noncomputable def ui{α:Type}(a:Nat):List (Nat×α)->Option α
 |[]=>aj
 |p::r=>bif ie p.1 a then U p.2 else ui a r
noncomputable def HF:List (Nat×bb):=[(61,f61),(68,f68),(75,f75),(82,f82),(89,f89),(96,f96),(103,ahW),(110,G4),(115,GN),(123,GH),(130,aga),(137,ahJ),(151,ahc),(158,agG),(165,agk),(180,GK),(188,ahk),(197,agh),(205,ag2),(213,agU),(220,ag6),(228,yR),(243,agc),(250,ahL),(264,agE),(278,GP),(286,Hd),(293,aha),(300,GJ),(307,He),(314,Gw),(321,GX),(326,agB),(334,GR),(342,GW),(347,Hk),(354,ag7),(368,ahm),(375,ahU),(382,agx),(387,agg),(408,ahu),(415,ahz),(429,ag0),(436,agj),(443,ahY),(450,agN),(463,Ho),(470,agr),(475,GF),(482,ahh),(489,ahj),(496,G0),(501,agq),(506,GS),(511,Cn),(516,GL),(521,Hm),(526,Hb),(533,wb)]
noncomputable def G9:List (Nat×lL):=[(168,agM),(267,ahD),(397,ag8),(453,ags)]
noncomputable def globT:List (af×V):=[
 (n! "isinstance",.bi "isinstance"),
 (n! "len",.bi "len"),
 (n! "max",.bi "max"),
 (n! "min",.bi "min"),
 (n! "sorted",.bi "sorted"),
 (n! "bool",.ty "bool"),
 (n! "dict",.ty "dict"),
 (n! "enumerate",.ty "enumerate"),
 (n! "int",.ty "int"),
 (n! "list",.ty "list"),
 (n! "range",.ty "range"),
 (n! "set",.ty "set"),
 (n! "zip",.ty "zip"),
 (n! "place_by_half",.fn 61),
 (n! "is_hangul_syllable",.fn 68),
 (n! "hangul_numbers",.fn 75),
 (n! "hangul_parts",.fn 82),
 (n! "hangul_pair",.fn 89),
 (n! "form_mapping",.fn 96),
 (n! "form_expanded",.fn 103),
 (n! "ordered",.fn 110),
 (n! "form_sorted",.fn 115),
 (n! "decomposed",.fn 123),
 (n! "primary_composites",.fn 130),
 (n! "form_is_primary",.fn 137),
 (n! "composed",.fn 180),
 (n! "form_of",.fn 188),
 (n! "stream_composer",.fn 197),
 (n! "is_stable_ahead",.fn 205),
 (n! "is_inert",.fn 213),
 (n! "stream_is_first",.fn 220),
 (n! "stream_places",.fn 228),
 (n! "stream_equal",.fn 278),
 (n! "joined",.fn 286),
 (n! "stream_inserted",.fn 293),
 (n! "form_changes",.fn 300),
 (n! "form_changed",.fn 307),
 (n! "form_place",.fn 314),
 (n! "form_place_back",.fn 321),
 (n! "stream_marks",.fn 326),
 (n! "stream_safe",.fn 334),
 (n! "is_stream_safe",.fn 342),
 (n! "without_joiners",.fn 347),
 (n! "range_are_like",.fn 354),
 (n! "range_rows",.fn 408),
 (n! "data_defaults",.fn 415),
 (n! "_law_deck",.fn 463),
 (n! "_law_draw",.fn 470),
 (n! "_law_some",.fn 475),
 (n! "_law_told",.fn 482),
 (n! "_law_data",.fn 489),
 (n! "_law_apart",.fn 496),
 (n! "_law_pairs",.fn 501),
 (n! "_law_form",.fn 506),
 (n! "_law_is_open",.fn 511),
 (n! "_law_stretches_right",.fn 516),
 (n! "_law_inert_right",.fn 521),
 (n! "_law_safe_right",.fn 526),
 (n! "law",.fn 533),
 (n! "Composer",.fn 168),
 (n! "FormStream",.fn 267),
 (n! "RangeMap",.fn 397),
 (n! "Data",.fn 453),
 (n! "MAX_CODE",.int 1114111),
 (n! "SYLLABLE_FIRST",.int 44032),
 (n! "LEAD_FIRST",.int 4352),
 (n! "VOWEL_FIRST",.int 4449),
 (n! "TAIL_NONE",.int 4519),
 (n! "LEADS",.int 19),
 (n! "VOWELS",.int 21),
 (n! "TAILS",.int 28),
 (n! "SYLLABLES",.int 11172),
 (n! "JOINER",.int 847),
 (n! "MOST_MARKS",.int 30),
 (n! "DECOMPOSED",.tup [.str (n! "nfd"),.str (n! "nfkd")]),
 (n! "COMPATIBLE",.tup [.str (n! "nfkd"),.str (n! "nfkc")]),
 (n! "_law_codes",.tup [.int 97,.int 98,.int 99,.int 100,.int 768,.int 803,.int 837,.int 192,.int 193,.int 194,.int 199,.int 8490,.int 2392,.int 64256,.int 170,.int 171,.int 836])]
noncomputable def PG:bR where
 glob:=λx=>lk x globT
 fn:=λa=>ui a HF
 cls:=λa=>ui a G9
 wx:=λa=>ie a 463||(ie a 267||(ie a 397||ie a 453))
section
noncomputable def st(i:Nat)(b:List br):Stmt:=(b[i]?).getD (.Pass ⟨0,0,0,0⟩)
noncomputable def dx(s:br):Expr:=(aht s).getD (.Constant .none 0 ⟨0,0,0,0⟩)
noncomputable def G8(e:ai):ai×List DC×gE×Pos:=(CG e).getD (e,[],default,⟨0,0,0,0⟩)
noncomputable def dg(e:ai):Expr:=(G8 e).1
noncomputable def bF(e:ai):Comprehension:=((G8 e).2.1[0]?).getD ⟨e,e,[],0⟩
noncomputable def dk(cx:Cx)(e:ai):Cx:=sd cx (G8 e).2.2.1
section
variable {a b:Int}
theorem mI(h:a<b):bC .Lt (.int a) (.int b)=U true:=congrArg U (decide_eq_true h)
theorem nB(h:¬a<b):bC .Lt (.int a) (.int b)=U false:=congrArg U (decide_eq_false h)
theorem B6(h:a<=b):bC .LtE (.int a) (.int b)=U true:=congrArg U (decide_eq_true h)
theorem yZ(h:¬a<=b):bC .LtE (.int a) (.int b)=U false:=congrArg U (decide_eq_false h)
theorem kD(h:b<a):bC .Gt (.int a) (.int b)=U true:=congrArg U (decide_eq_true h)
theorem kJ(h:¬b<a):bC .Gt (.int a) (.int b)=U false:=congrArg U (decide_eq_false h)
theorem B3(h:b<=a):bC .GtE (.int a) (.int b)=U true:=congrArg U (decide_eq_true h)
theorem P7(h:¬b<=a):bC .GtE (.int a) (.int b)=U false:=congrArg U (decide_eq_false h)
theorem Q8:bC .Eq (.int a) (.int b)=U (aJ (a=b)):=rfl
theorem tY(h:a=b):bC .Eq (.int a) (.int b)=U true:=Q8.trans (congrArg U (decide_eq_true h))
theorem oQ(h:¬a=b):bC .Eq (.int a) (.int b)=U false:=Q8.trans (congrArg U (decide_eq_false h))
theorem QP:bC .NotEq (.int a) (.int b)=U (!decide (a=b)):=rfl
theorem ahP(h:a=b):bC .NotEq (.int a) (.int b)=U false:=QP.trans (congrArg (λd=>U (!d)) (decide_eq_true h))
theorem ahv(h:¬a=b):bC .NotEq (.int a) (.int b)=U true:=QP.trans (congrArg (λd=>U (!d)) (decide_eq_false h))
end
theorem En{v:V}{m:List M}(h:v.free=J):deep 20 v m=U (v,m):=if_pos h
theorem sT{p:Bool}{l:List V}{i:Nat}{s:S}{o:Option V}(h:l[i]?=o):(It.items p l).at i s=U o:=by
 subst h
 show U ((l[i]?).map λv=>v)=_
 induction l[i]?<;>rfl
theorem tA{α:Type}(pr:List α)(v:α)(r:List α):(pr++v::r)[pr.length]?=U v:=by rw[mQ (aQ _),qK];rfl
set_option genInjectivity false in
structure cI where
 k:Nat
 h:H
 c:Prop
 p:c
noncomputable def hn(l:List cI):Hs:=List.rec (λj=>aj) (λa j ih k=>QQ (ie k a.k) (U a.h) (ih k)) l
where QQ (b:Bool) (x y:Option H):Option H:=Bool.rec y x b
def al(l:List cI)(X:Prop):Prop:=List.rec X (λa j ih=>a.c/\ih) l
def uj{α β:Type}(l:List cI)(x:α)(y:β):Prop:=al l (x=x/\y=y)
theorem OH{l:List cI}{X:Prop}(x:X):al l X:=List.rec (motive:=λl=>al l X) x (λa j ih=>⟨a.p,ih⟩) l
section
variable {W:Ws PG}{n:Nat}{cx:Cx}{s s':S}
theorem wY{α β:Type}{l:List cI}{x:α}{y:β}{P:Prop}(h:uj l x y=P):P:=Eq.mp h (OH ⟨rfl,rfl⟩)
theorem alB{l:List cI}{P:Prop}(h:al l (s'=s')=P):P:=Eq.mp h (OH rfl)
abbrev Rf(W:Ws PG)(n:Nat)(cx:Cx)(b:List br)(s:S)(x:Fl)(s':S)(l:List cI):Prop:=uj l x s'=(run W (hn l) n).ex cx b s (λf t=>f=x/\t=s')
abbrev OuE(W:Ws PG)(n:Nat)(cx:Cx)(b:ai)(s:S)(x:R)(s':S)(l:List cI):Prop:=uj l x s'=(run W (hn l) n).ev cx b s (λf t=>f=x/\t=s')
abbrev RN(W:Ws PG)(n:Nat)(cx:Cx)(b:ai)(s:S)(x:Bool)(s':S)(l:List cI):Prop:=uj l x s'=(run W (hn l) n).ts cx b s (λf t=>f=x/\t=s')
abbrev OuC(W:Ws PG)(n:Nat)(a:Nat)(vs:List V)(m:List M)(v:V)(m':List M)(l:List cI):Prop:=uj l v m'=(run W (hn l) n).ca a vs m (λf t=>f=v/\t=m')
abbrev RL(W:Ws PG)(n:Nat)(cx:Cx)(b:br)(s:S)(x:Fl)(s':S)(l:List cI):Prop:=uj l x s'=zK (G:=PG) W n (hn l) (run W (hn l) n) cx b s (λf t=>f=x/\t=s')
abbrev Hz(W:Ws PG)(n:Nat)(cx:Cx)(p:Bool)(t:ai)(v:V)(b:List br)(s:S)(x:Fl)(s':S)(l:List cI):Prop:=uj l x s'=Cw (G:=PG) (hn l) (run W (hn l) n) cx p t v s (λu=>(run W (hn l) n).ex cx b u λf t=>f=x/\t=s')
abbrev OuB(W:Ws PG)(n:Nat)(cx:Cx)(p:Bool)(t:ai)(v:V)(s s':S)(l:List cI):Prop:=al l (s'=s')=Cw (G:=PG) (hn l) (run W (hn l) n) cx p t v s (λt=>t=s')
theorem cV{b:List br}{fl:Fl}(l:List cI)(h:Rf W n cx b s fl s' l):Ex W n cx b s fl s':=(oe W (hn l) n).ex (k:=λf t=>f=fl/\t=s') (wY h) λf t a e=>e.1▸e.2▸a
theorem jf{b:ai}{fl:R}(l:List cI)(h:OuE W n cx b s fl s' l):Ev W n cx b s fl s':=(oe W (hn l) n).ev (k:=λf t=>f=fl/\t=s') (wY h) λf t a e=>e.1▸e.2▸a
theorem fj{b:ai}{fl:Bool}(l:List cI)(h:RN W n cx b s fl s' l):Ts W n cx b s fl s':=(oe W (hn l) n).ts (k:=λf t=>f=fl/\t=s') (wY h) λf t a e=>e.1▸e.2▸a
theorem bU{a:Nat}{vs:List V}{m m':List M}{v:V}(l:List cI)(h:OuC W n a vs m v m' l):Ca W n a vs m v m':=(oe W (hn l) n).ca (k:=λf t=>f=v/\t=m') (wY h) λf t a e=>e.1▸e.2▸a
theorem aL{v:br}{fl:Fl}(l:List cI)(h:RL W n cx v s fl s' l):Sm W (n+1) cx v s fl s':=OE (oe W (hn l) n) (k:=λf t=>f=fl/\t=s') (wY h) λf t a e=>e.1▸e.2▸a
theorem Gl{b:ai}{fl:Bool}(l:List cI)(h:RN W n cx b s fl s l):Ts W n cx b s fl s:=fj l h
theorem aeg{b:List br}{fl:Fl}(l:List cI)(h:Rf W n cx b s fl s l):Ex W n cx b s fl s:=cV l h
theorem OK{v:br}{fl:Fl}(l:List cI)(h:RL W n cx v s fl s l):Sm W (n+1) cx v s fl s:=aL l h
theorem f7{p:Bool}{t:ai}{v:V}(l:List cI)(h:OuB W n cx p t v s s' l):Bd W n cx p t v s s':=FG (oe W (hn l) n) (k:=λt=>t=s') (alB h) λt a e=>e▸a
noncomputable abbrev sb(k:Nat){o:Option Bool}{d:Bool}(p:o=U d):cI:=⟨k,.b d,o=U d,p⟩
noncomputable abbrev sr(k:Nat){o:Option R}{d:R}(p:o=U d):cI:=⟨k,.r d,o=U d,p⟩
noncomputable abbrev sv(k:Nat){o:Option V}{d:V}(p:o=U d):cI:=⟨k,.v d,o=U d,p⟩
noncomputable abbrev sx(k:Nat){o:Option (V×S)}{v:V}(p:o=U (v,s')):cI:=⟨k,.c v s',o=U (v,s'),p⟩
noncomputable abbrev sz(k:Nat){o:Option (List V)}{d:List V}(p:o=U d):cI:=⟨k,.v (.list d),o=U d,p⟩
noncomputable abbrev sk(k:Nat){o:Option (List (Int×V))}{d:List (Int×V)}(p:o=U d):cI:=⟨k,.k d,o=U d,p⟩
noncomputable abbrev sp(k:Nat){c:Prop}(p:c):cI:=⟨k,.b J,c,p⟩
noncomputable abbrev sg(k:Nat){o:Option (Option V)}{d:V}(p:o=U (U d)):cI:=⟨k,.v d,o=U (U d),p⟩
noncomputable abbrev sn(k:Nat){o:Option (Option V)}(p:o=U aj):cI:=⟨k,.b J,o=U aj,p⟩
noncomputable abbrev sc(k:Nat){m a:Nat}{vs:List V}{v:V}(p:Ca W m a vs [] v [])(f:V.bI vs=J)(d:v.free=J):cI:=⟨k,.v v,V.bI vs=J/\Ca W m a vs [] v []/\deep 20 v []=U (v,[]),f,p,En d⟩
noncomputable abbrev sy(k:Nat){m a:Nat}{vs:List V}{v:V}(p:Cv W m a vs s v s'):cI:=⟨k,.c v s',Cv W m a vs s v s',p⟩
noncomputable abbrev eV(k:Nat){it:It}{t:ai}{b:List br}{fl:Fl}(p:iS W n cx it t b s fl s'):cI:=⟨k,.s fl s',iS W n cx it t b s fl s',p⟩
noncomputable abbrev sw(k:Nat){t:ai}{b:List br}{fl:Fl}(p:iV W n cx t b s fl s'):cI:=⟨k,.s fl s',iV W n cx t b s fl s',p⟩
noncomputable abbrev sm(k:Nat){it:It}{e t:ai}{b:List ai}{ys:List V}(p:dB W n cx it e t b s ys s'):cI:=⟨k,.l ys s',dB W n cx it e t b s ys s',p⟩
end
section
variable (W:Ws PG)
def agH(n:Nat)(cx:Cx)(p:Bool)(t:ai)(b:List br)(fl:Fl)(s':S)(more:S->Prop)(v:V)(s:S):Prop:=∀C:Prop,(∀(s1:S) (f:Fl) (s2:S) (hb:Bd W n cx p t v s s1) (hx:Ex W n cx b s1 f s2) (ht:Turn more fl s' f s2),C)->C
def wH(n:Nat)(cx:Cx)(p:Bool)(t:ai)(b:List br)(fl:Fl)(s':S):List V->S->Prop
 |[],s=>fl=.next/\s'=s
 |v::r,s=>agH W n cx p t b fl s' (wH n cx p t b fl s' r) v s
theorem lpI{n:Nat}{cx:Cx}{p:Bool}{t:ai}{b:List br}{fl:Fl}{s':S}(l:List V):∀{s:S},wH W n cx p t b fl s' l s->∀pr:List V,∃m,l6 W.w W.K W.mg W.mb n cx (.items p (pr++l)) t b fl s' m pr.length s:=by
 induction l with
 |nil=>exact λh pr=>⟨1,.stop (sT (by rw[bx];exact kZ (aQ _))) h.1 h.2⟩
 |cons v r ih=>
  intro s h pr
  have ha:(It.items p (pr++v::r)).at pr.length s=U (U v):=sT (tA pr v r)
  refine h _ λs1 f s2 hb hx ht=>?_
  have go:wH W n cx p t b fl s' r s2->∃m,l6 W.w W.K W.mg W.mb n cx (.items p (pr++v::r)) t b fl s' m (pr.length+1) s2:=λh=>by
   have:=ih h (pr++[v])
   rwa [aN,aX] at this
  induction f with
  |next=>exact(go ht).elim λm k=>⟨m+1,.item v s1 .next s2 ha hb hx k⟩
  |cont=>exact(go ht).elim λm k=>⟨m+1,.item v s1 .cont s2 ha hb hx k⟩
  |brk=>exact⟨1,.item v s1 .brk s2 ha hb hx ht⟩
  |ret u=>exact⟨1,.item v s1 (.ret u) s2 ha hb hx ht⟩
theorem zj{n:Nat}{cx:Cx}{p:Bool}{t:ai}{b:List br}{fl:Fl}{s':S}{l:List V}{s:S}(h:wH W n cx p t b fl s' l s):iS W n cx (.items p l) t b s fl s':=lpI W l h []
inductive zz(n:Nat)(cx:Cx)(p:Bool)(elt t:ai)(ifs:List ai)(s:S)(v:V):Option V->Prop
 |skip (bs:List (af×V)) (hb:bindC cx p t v=U bs) (ht:oZ W.w W.K W.mg W.mb n cx ifs {s with cv:=bs} ah {s with cv:=bs}):zz n cx p elt t ifs s v aj
 |take (bs:List (af×V)) (u:V) (hb:bindC cx p t v=U bs) (ht:oZ W.w W.K W.mg W.mb n cx ifs {s with cv:=bs} J {s with cv:=bs}) (he:Va W n cx elt {s with cv:=bs} u {s with cv:=bs}):zz n cx p elt t ifs s v (U u)
theorem cmI{n:Nat}{cx:Cx}{p:Bool}{elt t:ai}{ifs:List ai}{s:S}{α:Type}{enc:α->V}{g:α->Option V}(l:List α):∀(c:List (af×V)) (pr:List V),(∀a∈l,zz W n cx p elt t ifs s (enc a) (g a))->
  ∃m c',jg W.w W.K W.mg W.mb n cx (.items p (pr++l.map enc)) elt t ifs {s with cv:=c'} m pr.length {s with cv:=c} (l.filterMap g):=by
 induction l with
 |nil=>exact λc pr h=>⟨1,c,.stop (sT (by rw[DL,bx];exact kZ (aQ _))) rfl rfl⟩
 |cons a r ih=>
  intro c pr h
  have ha:(It.items p (pr++(a::r).map enc)).at pr.length {s with cv:=c}=U (U (enc a)):=sT (tA pr (enc a) (r.map enc))
  have go:∀c,∃m c',jg W.w W.K W.mg W.mb n cx (.items p (pr++(a::r).map enc)) elt t ifs {s with cv:=c'} m (pr.length+1) {s with cv:=c} (r.filterMap g):=λc=>by
   have:=ih c (pr++[enc a]) λb hb=>h b (.tail _ hb)
   rwa [aN,aX] at this
  have H:=h a (.head _)
  cases q:g a with
  |none=>
   rw[q] at H
   cases H with
   |skip bs hb ht=>exact(go bs).elim λm k=>k.elim λc' k=>⟨m+1,c',by rw[Jc q];exact .skip (enc a) bs _ ha hb ht k⟩
  |some u=>
   rw[q] at H
   cases H with
   |take bs _ hb ht he=>exact(go bs).elim λm k=>k.elim λc' k=>⟨m+1,c',by rw[C8 q];exact .take (enc a) bs _ u _ (r.filterMap g) ha hb ht he k rfl⟩
theorem IY{n:Nat}{cx:Cx}{p:Bool}{elt t:ai}{ifs:List ai}{s:S}{α:Type}{enc:α->V}{g:α->Option V}{l:List α}(h:∀a∈l,zz W n cx p elt t ifs s (enc a) (g a))(c:List (af×V)):∃c',dB W n cx (.items p (l.map enc)) elt t ifs {s with cv:=c} (l.filterMap g) {s with cv:=c'}:=
 (cmI W l c [] h).elim λm k=>k.imp λc' k=>⟨m,k⟩
theorem pS{n:Nat}{cx:Cx}{p:Bool}{elt t:ai}{s:S}{α:Type}{enc u:α->V}{bs:α->List (af×V)}{l:List α}(h:∀a∈l,bindC cx p t (enc a)=U (bs a)/\Va W n cx elt {s with cv:=bs a} (u a) {s with cv:=bs a})(c:List (af×V)):
  ∃c',dB W n cx (.items p (l.map enc)) elt t [] {s with cv:=c} (l.map u) {s with cv:=c'}:=by
 have:=IY W (g:=λa=>U (u a)) (λa ha=>.take (bs a) (u a) (h a ha).1 oC (h a ha).2) c
 have e:l.filterMap (λa=>U (u a))=l.map u:=congrFun (List.filterMap_eq_map (f:=u)) l
 rwa [e] at this
def FU(I:Prop)(Q:Fl->S->Prop)(f:Fl)(s2:S):Prop:=match f with
 |.next=>I
 |.cont=>I
 |.brk=>Q .next s2
 |.ret v=>Q (.ret v) s2
def eC(n:Nat)(cx:Cx)(p:Bool)(t:ai)(b:List br)(Q:Fl->S->Prop)(I:S->Prop)(v:V)(s:S):Prop:=∀C:Prop,(∀(s1:S) (f:Fl) (s2:S) (hb:Bd W n cx p t v s s1) (hx:Ex W n cx b s1 f s2) (ht:FU (I s2) Q f s2),C)->C
def Gm(n:Nat)(cx:Cx)(p:Bool)(t:ai)(b:List br)(Q:Fl->S->Prop)(l:List V)(s:S):Prop:=∀C:Prop,(∀(fl:Fl) (s':S) (q:Q fl s') (h:wH W n cx p t b fl s' l s),C)->C
theorem pT{n:Nat}{cx:Cx}{p:Bool}{t:ai}{b:List br}{α:Type}{enc:α->V}{Q:Fl->S->Prop}{I:List α->S->Prop}(l:List α):(∀a∈l,∀r s,I (a::r) s->eC W n cx p t b Q (I r) (enc a) s)->(∀s,I [] s->Q .next s)->∀{s:S},I l s->Gm W n cx p t b Q (l.map enc) s:=by
 induction l with
 |nil=>exact λj rE s h Q_ k_=>k_ .next _ (rE _ h) ⟨rfl,rfl⟩
 |cons a r ih=>
  intro hstep rE s h
  have ih:=@ih (λa ha=>hstep a (.tail _ ha)) rE
  refine hstep a (.head _) r s h _ λs1 f s2 hb hx ht=>?_
  induction f with
  |next=>exact ih ht _ λfl s' q h Q_ k_=>k_ fl s' q λQ_ k_=>k_ s1 .next s2 hb hx h
  |cont=>exact ih ht _ λfl s' q h Q_ k_=>k_ fl s' q λQ_ k_=>k_ s1 .cont s2 hb hx h
  |brk=>exact λQ_ k_=>k_ .next s2 ht λQ_ k_=>k_ s1 .brk s2 hb hx ⟨rfl,rfl⟩
  |ret v=>exact λQ_ k_=>k_ (.ret v) s2 ht λQ_ k_=>k_ s1 (.ret v) s2 hb hx ⟨rfl,rfl⟩
theorem Ci{W:Ws PG}{n:Nat}{cx:Cx}{s s':S}{p:Bool}{t:ai}{v:V}{b:List br}{x:Fl}{Q:Fl->S->Prop}{I:S->Prop}(l:List cI)(h:Hz W n cx p t v b s x s' l)(k:FU (I s') Q x s'):eC W n cx p t b Q I v s:=
 λQ_ k_=>FG (oe W (hn l) n) (k:=λu=>(run W (hn l) n).ex cx b u λf t=>f=x/\t=s') (wY h) λs1 hb he=>(oe W (hn l) n).ex he λf u hx e=>k_ s1 f u hb hx (by rw[e.1,e.2];exact k)
theorem Gm.run{n:Nat}{cx:Cx}{p:Bool}{t:ai}{b:List br}{Q:Fl->S->Prop}{l:List V}{s:S}(h:Gm W n cx p t b Q l s){P:Prop}(k:∀fl s',Q fl s'->iS W n cx (.items p l) t b s fl s'->P):P:=by
 exact h _ λfl s' q h=>k fl s' q (zj W h)
theorem mG{W:Ws PG}{n:Nat}{cx:Cx}{s s':S}{p:Bool}{t:ai}{v:V}{b:List br}{Q:Fl->S->Prop}{I:S->Prop}(l:List cI)(h:Hz W n cx p t v b s .next s' l)(k:I s'):eC W n cx p t b Q I v s:=Ci l h k
theorem wa{W:Ws PG}{n:Nat}{cx:Cx}{s s':S}{p:Bool}{t:ai}{v u:V}{b:List br}{Q:Fl->S->Prop}{I:S->Prop}(l:List cI)(h:Hz W n cx p t v b s (.ret u) s' l)(k:Q (.ret u) s'):eC W n cx p t b Q I v s:=Ci l h k
theorem rD{W:Ws PG}{n:Nat}{cx:Cx}{p:Bool}{t:ai}{b:List br}{α:Type}{enc:α->V}{I:List α->S->Prop}(l:List α)(step:∀a∈l,∀r s,I (a::r) s->eC W n cx p t b (λf s=>f=.next/\I [] s) (I r) (enc a) s){s:S}(h:I l s){P:Prop}(k:∀s',I [] s'->iS W n cx (.items p (l.map enc)) t b s .next s'->P):P:=
 (pT W (Q:=λf s=>f=.next/\I [] s) l step (λs h=>⟨rfl,h⟩) h).run W λfl s' q h=>k s' q.2 (q.1▸h)
end
end
section
noncomputable abbrev L(T:List Int):V:=.list (T.map .int)
noncomputable def codes:List Int:=[97,98,99,100,768,803,837,192,193,194,199,8490,2392,64256,170,171,836]
noncomputable def aB:List Int:=847::codes
noncomputable def oJ:Nat->List Int
 |0=>[2392]
 |1=>[2392,192]
 |_=>[2392,194]
noncomputable def QB:Nat->Int
 |0=>192
 |_=>194
noncomputable def exS:Nat->List Int
 |0=>[0,2392,2393]
 |b+1=>[0,QB b,QB b+1,2392,2393]
noncomputable def exV:Nat->List V
 |0=>[.bool ah,.bool J,.bool ah]
 |_=>[.bool ah,.bool J,.bool ah,.bool J,.bool ah]
noncomputable def tg(k:String)(l:List Int):V:=.tup [.str (n! k),.tup (l.map .int)]
noncomputable def Vi:V:=.dict [.str (n! "gc"),.str (n! "ccc"),.str (n! "bc"),.str (n! "lb"),.str (n! "ea"),.str (n! "sc"),.str (n! "jt"),.str (n! "incb"),.str (n! "gcb"),.str (n! "wb"),.str (n! "sb"),.str (n! "ex"),.str (n! "sd"),.str (n! "cased"),.str (n! "ci"),.str (n! "ep"),.str (n! "di"),.str (n! "ids"),.str (n! "idc"),.str (n! "xids"),.str (n! "xidc"),.str (n! "pat_syn"),.str (n! "pat_ws"),.str (n! "idst"),.str (n! "dm"),.str (n! "uc"),.str (n! "lc"),.str (n! "tc"),.str (n! "cf"),.str (n! "bm"),.str (n! "bpb"),.str (n! "scx"),.str (n! "nt"),.str (n! "nv"),.str (n! "name"),.str (n! "conf"),.str (n! "nfkc_cf"),.str (n! "suc"),.str (n! "slc"),.str (n! "stc"),.str (n! "alias"),.str (n! "idna")] [.str (n! "Cn"),.int 0,.str (n! "L"),.str (n! "XX"),.str (n! "N"),.str (n! "Zzzz"),.str (n! "U"),.str (n! "None"),.str (n! "Other"),.str (n! "Other"),.str (n! "Other"),.bool ah,.bool ah,.bool ah,.bool ah,.bool ah,.bool ah,.bool ah,.bool ah,.bool ah,.bool ah,.bool ah,.bool ah,.bool ah,.none,.none,.none,.none,.none,.none,.none,.none,.none,.none,.none,.none,.none,.tup [],.tup [],.tup [],.tup [],.tup [.str (n! "disallowed"),.tup []]]
noncomputable def G7(d:V)(s:List Int)(v:List V):V:=.inst 397 [n! "default",n! "starts",n! "values"] [d,L s,.list v]
noncomputable def ahA(r:Int):V:=G7 (.int 0) [0,768,769,803,804,836,837,838] [.int 0,.int 230,.int 0,.int r,.int 0,.int 230,.int 240,.int 0]
noncomputable def dmV:V:=G7 .none [0,170,171,172,192,193,194,195,199,200,836,837,2392,2393,8490,8491,64256,64257]
 [.none,tg "compat" [768,803],tg "compat" [768,98,803],.none,tg "" [97,768],tg "" [97,803],tg "" [193,768],.none,tg "" [98,100],.none,tg "" [768,837],.none,tg "" [98,768],.none,tg "" [99],.none,tg "compat" [98,98],.none]
noncomputable def af7:List Str:=[n! "defaults",n! "maps",n! "properties",n! "words"]
noncomputable def Pu(r:Int)(b:Nat):List V:=[Vi,.dict [.str (n! "ccc"),.str (n! "dm"),.str (n! "ex")] [ahA r,dmV,G7 (.bool ah) (exS b) (exV b)],.dict [] [],.dict [] []]
noncomputable abbrev dat(r:Int)(b:Nat):V:=.inst 453 af7 (Pu r b)
noncomputable def dQ:Nat->List ((Int×Int)×Int)
 |0=>[((97,768),192),((97,803),193),((193,768),194),((98,100),199)]
 |1=>[((97,803),193),((193,768),194),((98,100),199)]
 |_=>[((97,768),192),((97,803),193),((98,100),199)]
noncomputable def jV:Nat->List Int
 |0=>[768,803,100]
 |1=>[803,768,100]
 |_=>[768,803,100]
noncomputable def gr(p:(Int×Int)×Int):V:=.tup [.int p.1.1,.int p.1.2]
noncomputable abbrev pairD(b:Nat):V:=.dict ((dQ b).map gr) ((dQ b).map λp=>.int p.2)
noncomputable abbrev agP(b:Nat):V:=.dict ((jV b).map .int) ((jV b).map λj=>.bool J)
noncomputable abbrev fY(b:Nat):V:=.inst 168 [n! "pairs",n! "seconds"] [pairD b,agP b]
noncomputable def pQ(r:Int):V:=.dict (([768,803,837,836]:List Int).map .int) [.int 230,.int r,.int 240,.int 230]
noncomputable def pR:V:=.dict (([192,193,194,199,8490,2392,64256,170,171,836]:List Int).map .int)
 [tg "" [97,768],tg "" [97,803],tg "" [193,768],tg "" [98,100],tg "" [99],tg "" [98,768],tg "compat" [98,98],tg "compat" [768,803],tg "compat" [768,98,803],tg "" [768,837]]
noncomputable def rk(r:Int)(c:Int):Int:=if c=768 then 230 else if c=803 then r else if c=837 then 240 else if c=836 then 230 else 0
noncomputable def ex(k:Bool)(c:Int):List Int:=
 if c=192 then[97,768] else if c=193 then[97,803] else if c=194 then[97,803,768] else if c=199 then[98,100] else if c=8490 then[99] else if c=2392 then[98,768] else if c=836 then[768,837]
 else if k=J/\c=64256 then[98,98] else if k=J/\c=170 then[768,803] else if k=J/\c=171 then[768,98,803] else[c]
noncomputable def bB:Nat->af
 |0=>n! "nfd"
 |1=>n! "nfc"
 |2=>n! "nfkd"
 |_=>n! "nfkc"
theorem aZ{r:Int}{b:Nat}:V.bI (Pu r b)=true:=by
 rcases b with _|_|b<;>kernel_rfl
theorem u5{b:Nat}:V.bI ((dQ b).map gr)=J/\V.bI ((dQ b).map λp=>V.int p.2)=J/\V.bI ((jV b).map λj=>V.bool J)=true:=by
 refine⟨?_,?_,?_⟩<;>rcases b with _|_|b<;>kernel_rfl
noncomputable def rJ{α:Type}(g:Int->α):List Int->List α
 |[]=>[]
 |c::r=>g c::rJ g r
theorem yn{α:Type}{f g:Int->α}{l:List Int}(h:rJ f l=rJ g l):∀c∈l,f c=g c:=by
 induction l with
 |nil=>exact λc h=>dq h
 |cons a l ih=>exact eF.2 ⟨(nV h).1,ih (nV h).2⟩
noncomputable def each{α:Type}(g:Int->α):List α:=[g 847,g 97,g 98,g 99,g 100,g 768,g 803,g 837,g 192,g 193,g 194,g 199,g 8490,g 2392,g 64256,g 170,g 171,g 836]
theorem Nn{α:Type}(g:Int->α):rJ g aB=each g:=rfl
theorem rn{W:Ws PG}{n a:Nat}{f:Int->List V}{g:Int->V}(h:rJ (λc=>(run W (hn []) n).ca a (f c) [] λv m=>v=g c/\m=[]) aB=each λc=>g c=g c/\([]:List M)=[]):∀c∈aB,Ca W n a (f c) [] (g c) []:=λc hc=>
 bU [] (yn (h.trans (Nn λc=>g c=g c/\([]:List M)=[]).symm) c hc).symm
section
variable (W:Ws PG)
theorem vN{r:Int}{b n:Nat}:∀c∈aB,Ca W (n+20) 443 [dat r b,.str (n! "ccc"),.int c] [] (.int (rk r c)) []:=rn ⋯
theorem NI{r:Int}{n b:Nat}{k:Bool}(h:rJ (λc=>(run W (hn []) (n+30)).ca 103 [.int c,dat r b,.bool k] [] λv m=>v=L (ex k c)/\m=[]) aB=each λc=>L (ex k c)=L (ex k c)/\([]:List M)=[]):∀c∈aB,Ca W (n+30) 103 [.int c,dat r b,.bool k] [] (L (ex k c)) []:=rn h
theorem aeU{r:Int}{n:Nat}{k:Bool}:∀c∈aB,Ca W (n+30) 103 [.int c,dat r 0,.bool k] [] (L (ex k c)) []:=by
 induction k<;>exact NI W ⋯
theorem afu{r:Int}{n b:Nat}{k:Bool}:∀c∈aB,Ca W (n+30) 103 [.int c,dat r (b+1),.bool k] [] (L (ex k c)) []:=by
 induction k<;>exact NI W ⋯
theorem Bl{r:Int}{n:Nat}{k:Bool}:∀b:Nat,∀c∈aB,Ca W (n+30) 103 [.int c,dat r b,.bool k] [] (L (ex k c)) []
 |0=>aeU W
 |b+1=>afu W
theorem abP{r:Int}{n:Nat}:∀b:Nat,Ca W (n+40) 197 [dat r b,.str (n! "nfc"),.none] [] (fY b) []
 |0=>bU [] ⋯
 |1=>bU [] ⋯
 |_+2=>bU [] ⋯
end
end
noncomputable def wc(p:Int×Int):V:=.tup [.int p.1,.int p.2]
noncomputable def oG(p:Int×Int):List (Int×Int)->List (Int×Int)
 |[]=>[p]
 |q::r=>if p.1<=q.1 then p::q::r else q::oG p r
noncomputable def gS:List (Int×Int)->List (Int×Int)
 |[]=>[]
 |p::r=>oG p (gS r)
theorem VO(run:List (Int×Int)):vF (run.map wc)=U (run.map λp=>(p.1,wc p)):=by
 induction run with
 |nil=>rfl
 |cons p r ih=>exact(congrArg (λo=>o.map ((p.1,wc p)::·)) ih:_)
theorem Zw(p:Int×Int)(run:List (Int×Int)):tZ p.1 (wc p) (run.map λp=>(p.1,wc p))=(oG p run).map λp=>(p.1,wc p):=by
 induction run with
 |nil=>rfl
 |cons q r ih=>
  rw[ff,tZ,oG]
  split
  ·rfl
  ·rw[ih];rfl
theorem YN(run:List (Int×Int)):kC (run.map λp=>(p.1,wc p))=(gS run).map λp=>(p.1,wc p):=by
 induction run with
 |nil=>rfl
 |cons p r ih=>rw[ff,kC,ih,Zw];rfl
theorem MK(run:List (Int×Int)):V.bI (run.map wc)=true:=by
 induction run with
 |nil=>rfl
 |cons a T ih=>exact ak rfl ih
noncomputable def OW:Cx:=eK PG 115 GN
noncomputable def ru:Expr:=dx (st 0 GN.body)
noncomputable def ahy(e:ai):Keyword:=(((yP e).bind λc=>c.2.2.1[0]?)).getD ⟨aj,e,⟨0,0,0,0⟩⟩
theorem ac1:N2 (ahy (bF ru).iter):=λQ_ k_=>k_ _ _ _ _ _ _ _ rfl ⟨rfl,rfl,rfl,rfl⟩
theorem jd{W:Ws PG}{n:Nat}{cx:Cx}{e:ai}{s s':S}{v:V}(h:Ev W n cx e s (.val v) s'):Va W n cx e s v s':=HQ h rfl
theorem vA{α:Type}(l:List α)(f:α->Int):(l.map f).map V.int=l.map λa=>V.int (f a):=nW ..
theorem JI{W:Ws PG}{n:Nat}(run:List (Int×Int))(hl:run.length<64):Ca W (n+10) 115 [.list (run.map wc)] [] (L ((gS run).map (·.2))) []:=by
 have e:(kC (run.map λp=>(p.1,wc p))).map (·.2)=(gS run).map wc:=by rw[YN,nW];rfl
 refine(pS W (n:=n+7) (cx:=dk OW ru) (p:=ah) (elt:=dg ru) (t:=(bF ru).target) (s:={vars:=[(n! "run",.val (.list (run.map wc)))]}) (enc:=wc) (u:=λp=>.int p.2) (l:=gS run) (λp j=>⟨rfl,jd ((jf [] ⋯))⟩) []).elim λc' h=>?_
 rw[L,vA]
 exact bU [sp 0 (ac1),sk 920370740 ((VO run)),sp 920370744 ((by rw[aO];exact hl):(run.map λp=>(p.1,wc p)).length<64),sm 920110753 ((e▸h):dB W (n+7) (dk OW ru) (.items ah ((kC (run.map λp=>(p.1,wc p))).map (·.2))) (dg ru) (bF ru).target (bF ru).ifs {vars:=[(n! "run",.val (.list (run.map wc)))]} (cA (λa=>V.int a.snd) (gS run)) {vars:=[(n! "run",.val (.list (run.map wc)))],cv:=c'})] ⋯
noncomputable def adX:Cx:=eK PG 110 G4
noncomputable def NH:Stmt:=st 1 G4.body
noncomputable def od(tx d:V)(F R:List V)(tl:List (af×Sl)):S:={vars:=(n! "text",.val tx)::(n! "data",.val d)::(n! "run",.list R)::(n! "found",.list F)::tl}
inductive IP:List (af×Sl)->Prop
 |z:IP []
 |s (c w):IP [(n! "code",.val c),(n! "weight",.val w)]
noncomputable def ew(r:Int):List Int->List (Int×Int)->List Int
 |[],run=>(gS run).map (·.2)
 |c::t,run=>if 0<rk r c then ew r t (run++[(rk r c,c)]) else(gS run).map (·.2)++c::ew r t []
noncomputable def fh(r:Int)(T:List Int):List Int:=ew r T []
theorem W5(p:Int×Int)(run:List (Int×Int)):(oG p run).length=run.length+1:=by
 induction run with
 |nil=>rfl
 |cons q r ih=>
  rw[oG];split
  ·rfl
  ·rw[fP,ih];rfl
theorem Az(run:List (Int×Int)):(gS run).length=run.length:=by
 induction run with
 |nil=>rfl
 |cons p r ih=>rw[gS,W5,ih];rfl
theorem aR(l:List Int):V.bI (l.map V.int)=true:=by
 induction l with
 |nil=>rfl
 |cons a r ih=>exact ak rfl ih
theorem Fp{k:Nat}(h:k<64):k<=cG:=bf (ee h) (by decide+kernel)
theorem Bw{k:Nat}(h:k<64):k<cG:=d9 h (by decide+kernel)
inductive uB(r:Int)(b:Nat)(tx:V)(T l:List Int):S->Prop
 |mk (F:List Int) (R:List (Int×Int)) (tl) (ht:IP tl) (hl:F.length+R.length+l.length<64) (e:F++ew r l R=fh r T):uB r b tx T l (od tx (dat r b) (F.map .int) (R.map wc) tl)
theorem aan{W:Ws PG}{n b:Nat}{r c:Int}{tx:V}{T l:List Int}{s:S}(hc:c∈aB)(h:uB r b tx T (c::l) s):eC W (n+24) adX ah (cE NH) (ba NH) (λf s=>f=.next/\uB r b tx T [] s) (uB r b tx T l) (.int c) s:=by
 induction h with
 |mk F R tl ht hl e=>
  rw[fP] at hl
  rw[ew] at e
  have f0:=vN W (r:=r) (b:=b) (n:=n+2) c hc
  by_cases q:0<rk r c
  ·rw[if_pos q] at e
   have k:=uB.mk (b:=b) (tx:=tx) F (R++[(rk r c,c)]) _ (.s (.int c) (.int (rk r c))) (by rw[aX,iY];lia) e
   rw[bZ] at k
   have h1:(R.map wc).length<cG:=Bw (by rw[aO];lia)
   induction ht<;>exact mG [sc 820170380 f0 (ak aZ rfl) rfl,sb 830200211 (kD q),sp 840120384 h1] ⋯ k
  ·rw[if_neg q] at e
   have hs:=JI (W:=W) (n:=n+10) R (by lia)
   have z:((gS R).map (·.2)).length=R.length:=(aO ..).trans (Az R)
   have k:=uB.mk (b:=b) (tx:=tx) (l:=l) (F++(gS R).map (·.2)++[c]) [] _ (.s (.int c) (.int (rk r c))) (by rw[aX,aX,z,iY,j7];lia) (by rw[aN,aN];exact e)
   rw[bZ,bZ] at k
   have h1:(F.map V.int).length+(((gS R).map (·.2)).map V.int).length<=cG:=Fp (by rw[aO,aO,z];lia)
   have h2:(F.map V.int++((gS R).map (·.2)).map V.int).length<cG:=Bw (by rw[aX,aO,aO,z];lia)
   induction ht<;>exact mG [sc 820170380 f0 (ak aZ rfl) rfl,sb 830200211 (kJ q),sc 860250410 hs (ak (MK R) rfl) (aR _),sp 860120424 h1,sp 870120304 h2] ⋯ k
theorem UR{W:Ws PG}{n b:Nat}{r:Int}(T:List Int)(hT:∀c∈T,c∈aB)(hl:T.length<64):Ca W (n+30) 110 [L T,dat r b] [] (L (fh r T)) []:=
 rD (W:=W) (I:=uB r b (L T) T) T (λc hc l s h=>aan (n:=n+4) (hT c hc) h) (.mk [] [] [] .z (by rw[j7,j7];lia) rfl) λs' i h=>by
  cases i with
  |mk F R tl ht hR e=>
   have z:((gS R).map (·.2)).length=R.length:=(aO ..).trans (Az R)
   have h1:(F.map V.int).length+(((gS R).map (·.2)).map V.int).length<=cG:=Fp (by rw[aO,aO,z];exact hR)
   rw[<-e,ew,L,L,bZ]
   exact bU [eV 810040203 h,sc 890170330 (JI (W:=W) (n:=n+16) R (by lia)) (ak (MK R) rfl) (aR _),sp 890040344 h1] ⋯
theorem lu{P:Int->Prop}[d:DecidablePred P](h:aB.all (λc=>aJ (P c))=J):∀c∈aB,P c:=λc hc=>of_decide_eq_true (md.mp h c hc)
theorem abS{k:Bool}:∀c∈aB,∀d∈ex k c,d∈aB:=by
 induction k
 ·exact lu (P:=λc=>∀d∈ex ah c,d∈aB) (by decide+kernel)
 ·exact lu (P:=λc=>∀d∈ex J c,d∈aB) (by decide+kernel)
theorem te{k:Bool}:∀c∈aB,0<(ex k c).length/\(ex k c).length<=3:=by
 induction k
 ·exact lu (P:=λc=>0<(ex ah c).length/\(ex ah c).length<=3) (by decide+kernel)
 ·exact lu (P:=λc=>0<(ex J c).length/\(ex J c).length<=3) (by decide+kernel)
noncomputable def aM(k:Bool)(T:List Int):List Int:=T.flatMap (ex k)
theorem ym{k:Bool}{T:List Int}(hT:∀c∈T,c∈aB):∀d∈aM k T,d∈aB:=λd hd=>(List.mem_flatMap.mp hd).elim λc h=>abS c (hT c h.1) d h.2
noncomputable def aeB:Cx:=eK PG 123 GH
noncomputable def N7:Stmt:=st 1 GH.body
noncomputable def dc(tx d k:V)(F:List V)(tl:List (af×Sl)):S:={vars:=(n! "text",.val tx)::(n! "data",.val d)::(n! "is_compat",.val k)::(n! "found",.list F)::tl}
inductive Hw:List (af×Sl)->Prop
 |z:Hw []
 |s (c):Hw [(n! "code",.val c)]
inductive wu(tx d:V)(k:Bool)(T l:List Int):S->Prop
 |mk (F:List Int) (tl) (ht:Hw tl) (e:F++aM k l=aM k T):wu tx d k T l (dc tx d (.bool k) (F.map .int) tl)
theorem YY{W:Ws PG}{n b:Nat}{r c:Int}{tx:V}{k:Bool}{T l:List Int}{s:S}(hc:c∈aB)(hl:(aM k T).length<64)(h:wu tx (dat r b) k T (c::l) s):eC W (n+34) aeB ah (cE N7) (ba N7) (λf s=>f=.next/\wu tx (dat r b) k T [] s) (wu tx (dat r b) k T l) (.int c) s:=by
 induction h with
 |mk F tl ht e=>
  have e:(F++ex k c)++aM k l=aM k T:=(aN ..).trans e
  have i:=wu.mk (tx:=tx) (d:=dat r b) _ _ (.s (.int c)) e
  have z:(F.map V.int).length+((ex k c).map V.int).length<=cG:=Fp (by rw[aO,aO,<-aX];exact bq (by rw[<-e,aX (bs:=aM k l)];exact fe ..) hl)
  rw[bZ] at i
  induction ht<;>exact mG [sc 960210570 (m:=n+31) (Bl W (r:=r) (k:=k) b c hc) (ak rfl (ak aZ rfl)) (aR _),sp 960080584 z] ⋯ i
theorem S7{W:Ws PG}{n b:Nat}{r:Int}{k:Bool}(T:List Int)(hT:∀c∈T,c∈aB)(hl:(aM k T).length<64):Ca W (n+40) 123 [L T,dat r b,.bool k] [] (L (fh r (aM k T))) []:=
 rD (W:=W) (n:=n+38) (I:=wu (L T) (dat r b) k T) T (λc hc l s h=>YY (n:=n+4) (hT c hc) hl h) (.mk [] [] .z rfl) λs' i h=>by
  have hq:=UR (W:=W) (n:=n+7) (b:=b) (r:=r) _ (ym (k:=k) hT) hl
  cases i with
  |mk F tl ht e=>
   rw[aM,z7,bx] at e
   subst e
   exact bU [eV 950040583 h,sc 970110310 hq (ak (aR _) (ak aZ rfl)) (aR _)] ⋯
theorem aei{W:Ws PG}{n:Nat}{c:Int}(h1:0<=c-44032)(h2:¬c-44032<11172):Ca W (n+10) 68 [.int c] [] (.bool ah) []:=bU [sb 320160371 (B6 h1),sb 320400491 (nB h2)] ⋯
theorem Kp:∀c∈aB,¬(0<=c-4352/\c-4352<19)/\¬(0<=c-44032/\c-44032<11172)/\¬(0<=c-4449/\c-4449<21)/\¬(4519<c/\c<4547):=
 lu (by decide+kernel)
theorem Tf{W:Ws PG}{n:Nat}{c:Int}(h:¬(0<=c-44032/\c-44032<11172)):Ca W (n+10) 68 [.int c] [] (.bool ah) []:=by
 by_cases h1:0<=c-44032
 ·exact aei h1 λh2=>h ⟨h1,h2⟩
 ·exact bU [sb 320160371 (yZ h1)] ⋯
theorem adZ{W:Ws PG}{n:Nat}{x y:Int}(f1:∀j,Ca W (j+10) 68 [.int x] [] (.bool ah) [])(h1:0<=x-4352)(h2:¬x-4352<19):Ca W (n+20) 89 [.int x,.int y] [] .none []:=bU [sb 460120161 (B6 h1),sb 460190241 (nB h2),sc 480070300 (m:=n+15) (f1 _) rfl rfl] ⋯
theorem SX{W:Ws PG}{n:Nat}{x y:Int}(hx:x∈aB):Ca W (n+20) 89 [.int x,.int y] [] .none []:=by
 have f1:=λj=>Tf (W:=W) (n:=j) (Kp x hx).2.1
 by_cases h1:0<=x-4352
 ·exact adZ f1 h1 λh2=>(Kp x hx).1 ⟨h1,h2⟩
 ·exact bU [sb 460120161 (yZ h1),sc 480070300 (m:=n+15) (f1 _) rfl rfl] ⋯
noncomputable def gW(x y:Int):List ((Int×Int)×Int)->Option Int
 |[]=>aj
 |p::l=>if p.1.1=x/\p.1.2=y then U p.2 else gW x y l
noncomputable def tQ(b:Nat)(x y:Int):Option Int:=gW x y (dQ b)
noncomputable def agm:Option Int->V
 |some i=>.int i
 |none=>.none
theorem Ej{x y:Int}(l:List ((Int×Int)×Int)):gs (.tup [.int x,.int y]) (l.map gr) (l.map λp=>.int p.2)=U ((gW x y l).map .int):=by
 induction l with
 |nil=>rfl
 |cons p l h=>
  have h:=aA h
  have hv:pw (pd (gr p)) (pd (.tup [.int x,.int y]))=(aJ (p.1.1=x)&&(aJ (p.1.2=y)&&J)):=rfl
  show U ((List.findIdx? _ (gr p::l.map gr)).bind λi=>(V.int p.2::l.map λp=>V.int p.2)[i]?)=_
  rw[qD,hv,gW]
  by_cases hp:p.1.1=x/\p.1.2=y
  ·rw[if_pos hp,decide_eq_true hp.1,decide_eq_true hp.2];rfl
  ·have e:(aJ (p.1.1=x)&&(aJ (p.1.2=y)&&J))=false:=by
    rw[Bool.and_true,<-Bool.decide_and];exact decide_eq_false hp
   rw[if_neg hp,<-h,e,dJ]
   cases List.findIdx? (λx_1=>pw (pd x_1) (pd (.tup [.int x,.int y]))) (l.map gr)<;>rfl
theorem Aw{x y:Int}(l:List ((Int×Int)×Int)):dz (.tup [.int x,.int y]) (l.map gr)=true:=by
 have h:kd (.tup [.int x,.int y])=3:=rfl
 rw[dz,h]
 simp only[List.all_map,Du,md]
 exact⟨rfl,λp j=>rfl⟩
theorem Y6{W:Ws PG}{n b:Nat}{x y:Int}{p:V}(f1:∀j,Ca W (j+20) 89 [.int x,.int y] [] .none [])(f2:dz (.tup [.int x,.int y]) ((dQ b).map gr)=J)(f3:gs (.tup [.int x,.int y]) ((dQ b).map gr) ((dQ b).map λp=>.int p.2)=U (U p)):Ca W (n+30) 158 [fY b,.int x,.int y] [] p []:=bU [sc 1200160390 (m:=n+27) (f1 _) rfl rfl,sp 1210470814 f2,sg 1210470810 f3] ⋯
theorem aau{W:Ws PG}{n b:Nat}{x y:Int}(hx:x∈aB):Ca W (n+30) 158 [fY b,.int x,.int y] [] (agm (tQ b x y)) []:=by
 have f1:=λj=>SX (W:=W) (n:=j) (y:=y) hx
 have f3:=Ej (x:=x) (y:=y) (dQ b)
 rw[tQ]
 cases q:gW x y (dQ b) with
 |none=>exact bU [sc 1200160390 (m:=n+27) (f1 _) rfl rfl,sp 1210470814 ((Aw _):dz (.tup [.int x,.int y]) ((dQ b).map gr)=J),sn 1210470810 ((f3.trans (congrArg (λo=>U (o.map V.int)) q)):gs (.tup [.int x,.int y]) ((dQ b).map gr) ((dQ b).map λp=>.int p.2)=U aj)] ⋯
 |some i=>exact Y6 f1 (Aw _) (f3.trans (congrArg (λo=>U (o.map V.int)) q))
section
inductive Gz:br->ai->List br->List br->Prop
 |mk {t b e} (p:aY):Gz (.If t b e p) t b e
theorem PH{W:Ws PG}{n:Nat}{cx:Cx}{v:br}{t:ai}{b e:List br}{s s1 s':S}{fl:Fl}(hv:Gz v t b e)(ht:Ts W n cx t s J s1)(hb:Ex W n cx b s1 fl s'):Sm W (n+1) cx v s fl s':=by
 induction hv;exact(Rj ht hb).up
noncomputable def gU:Cx:=eK PG 180 GK
noncomputable def og:Stmt:=st 2 GK.body
noncomputable def dS(i:Nat):Stmt:=st i (ba og)
noncomputable def cs(tx d co mo sr:V)(F:List V)(tl:List (af×Sl)):S:={vars:=(n! "text",.val tx)::(n! "data",.val d)::(n! "composer",.val co)::(n! "most",.val mo)::(n! "starter",.val sr)::(n! "found",.list F)::tl}
noncomputable def dE(c w:V)(tl:List (af×Sl)):List (af×Sl):=(n! "code",.val c)::(n! "weight",.val w)::tl
noncomputable def RJ(c:V):List (af×Sl):=[(n! "code",.val c)]
noncomputable def o5(p:V):List (af×Sl):=[(n! "pair",.val p)]
theorem XX{W:Ws PG}{n:Nat}{tx d co mo sr:V}{F:List V}{c' w' p' c:V}:Bd W (n+43) gU ah (cE og) c (cs tx d co mo sr F []) (cs tx d co mo sr F (RJ c)):=f7 [] ⋯
theorem Xg{W:Ws PG}{n:Nat}{tx d co mo sr:V}{F:List V}{c' w' p' c:V}:Bd W (n+43) gU ah (cE og) c (cs tx d co mo sr F (dE c' w' [])) (cs tx d co mo sr F (dE c w' [])):=f7 [] ⋯
theorem Yu{W:Ws PG}{n:Nat}{tx d co mo sr:V}{F:List V}{c' w' p' c:V}:Bd W (n+43) gU ah (cE og) c (cs tx d co mo sr F (dE c' w' (o5 p'))) (cs tx d co mo sr F (dE c w' (o5 p'))):=f7 [] ⋯
theorem afU{W:Ws PG}{n b:Nat}{r c:Int}{tx co mo sr:V}{F:List V}{w' p':V}(hc:c∈aB):Sm W (n+44) gU (dS 0) (cs tx (dat r b) co mo sr F (RJ (.int c))) .next (cs tx (dat r b) co mo sr F (dE (.int c) (.int (rk r c)) [])):=aL [sc 1300170380 (m:=n+42) ((vN W c hc)) (ak ((aZ (r:=r) (b:=b))) rfl) rfl] ⋯
theorem aeR{W:Ws PG}{n b:Nat}{r c:Int}{tx co mo sr:V}{F:List V}{w' p':V}(hc:c∈aB):Sm W (n+44) gU (dS 0) (cs tx (dat r b) co mo sr F (dE (.int c) w' [])) .next (cs tx (dat r b) co mo sr F (dE (.int c) (.int (rk r c)) [])):=aL [sc 1300170380 (m:=n+42) ((vN W c hc)) (ak ((aZ (r:=r) (b:=b))) rfl) rfl] ⋯
theorem aeN{W:Ws PG}{n b:Nat}{r c:Int}{tx co mo sr:V}{F:List V}{w' p':V}(hc:c∈aB):Sm W (n+44) gU (dS 0) (cs tx (dat r b) co mo sr F (dE (.int c) w' (o5 p'))) .next (cs tx (dat r b) co mo sr F (dE (.int c) (.int (rk r c)) (o5 p'))):=aL [sc 1300170380 (m:=n+42) ((vN W c hc)) (ak ((aZ (r:=r) (b:=b))) rfl) rfl] ⋯
theorem aec{W:Ws PG}{n b:Nat}{c k s:Int}{tx d mo:V}{F:List V}{w p':V}(ha:cC (.list F) (.int k)=U (.int s))(hq:∀j,Ca W (j+30) 158 [fY b,.int s,.int c] [] .none [])(pf:(fY b).free=J):Ex W (n+43) gU (ba (dS 1)) (cs tx d (fY b) mo (.int k) F (dE (.int c) w [])) .next (cs tx d (fY b) mo (.int k) F (dE (.int c) w (o5 .none))):=cV [sv 1320330470 ha,sc 1320190540 (m:=n+41) (hq _) (ak pf rfl) rfl] ⋯
theorem afI{W:Ws PG}{n b:Nat}{c k s p:Int}{tx d mo:V}{F:List V}{w p':V}(ha:cC (.list F) (.int k)=U (.int s))(hq:∀j,Ca W (j+30) 158 [fY b,.int s,.int c] [] (.int p) [])(pf:(fY b).free=J)(hb:0<=k/\k<(F.length:Int)):Ex W (n+43) gU (ba (dS 1)) (cs tx d (fY b) mo (.int k) F (dE (.int c) w [])) .cont (cs tx d (fY b) mo (.int k) (F.set k.toNat (.int p)) (dE (.int c) w (o5 (.int p)))):=cV [sv 1320330470 ha,sc 1320190540 (m:=n+41) (hq _) (ak pf rfl) rfl,sp 1340160304 hb] ⋯
set_option genInjectivity false in
structure CS where
 pre:List Int
 st:Option Int
 tl:List Int
noncomputable def CS.out(c:CS):List Int:=c.pre++c.st.toList++c.tl
noncomputable def CS.ix(c:CS):Int:=match c.st with
 |none=> -1
 |some _=>c.pre.length
noncomputable def fm(r:Int)(l:List Int):Int:=l.foldl (λm c=>max m (rk r c)) (-1)
noncomputable def CS.push(r:Int)(x:CS)(c:Int):CS:=if rk r c=0 then⟨x.out,U c,[]⟩ else{x with tl:=x.tl++[c]}
noncomputable def ey(r:Int)(PL:List ((Int×Int)×Int))(x:CS)(c:Int):CS:=x.st.elim (x.push r c) λs=>if x.tl=[]\/fm r x.tl<rk r c then(gW s c PL).elim (x.push r c) λp=>{x with st:=U p} else x.push r c
noncomputable abbrev dP(r:Int)(b:Nat)(x:CS)(c:Int):CS:=ey r (dQ b) x c
section
variable {r:Int}{PL:List ((Int×Int)×Int)}{x:CS}{c s p:Int}
theorem vn(hs:x.st=aj):ey r PL x c=x.push r c:=by rw[ey,hs];rfl
theorem vM(h:¬(x.tl=[]\/fm r x.tl<rk r c)):ey r PL x c=x.push r c:=by
 rw[ey]
 cases x.st with
 |none=>rfl
 |some s=>exact if_neg h
theorem vm(hs:x.st=U s)(q:gW s c PL=aj):ey r PL x c=x.push r c:=by
 rw[ey,hs,Option.elim_some,q];exact ite_self _
theorem sZ(hs:x.st=U s)(h:x.tl=[]\/fm r x.tl<rk r c)(q:gW s c PL=U p):ey r PL x c={x with st:=U p}:=by
 rw[ey,hs,Option.elim_some,q];exact if_pos h
theorem m7{Q:CS->Prop}(push:ey r PL x c=x.push r c->Q (x.push r c))(put:∀s p,x.st=U s->gW s c PL=U p->(x.tl=[]\/fm r x.tl<rk r c)->Q {x with st:=U p}):Q (ey r PL x c):=by
 cases hs:x.st with
 |none=>have e:=vn (r:=r) (PL:=PL) (c:=c) hs;rw[e];exact push e
 |some s=>
  by_cases h:x.tl=[]\/fm r x.tl<rk r c
  ·cases q:gW s c PL with
   |none=>have e:=vm (r:=r) hs q;rw[e];exact push e
   |some p=>rw[sZ hs h q];exact put s p hs q h
  ·have e:=vM (PL:=PL) h;rw[e];exact push e
theorem yg{y:Int}:∀{l:List ((Int×Int)×Int)},gW s y l=U p->((s,y),p)∈l:=by
 intro l h
 induction l with
 |nil=>exact nomatch h
 |cons q l ih=>
  rw[show gW s y (q::l)=if q.1.1=s/\q.1.2=y then U q.2 else gW s y l from rfl] at h
  by_cases e:q.1.1=s/\q.1.2=y
  ·rw[if_pos e] at h;rw[<-e.1,<-e.2,<-aA h];exact .head _
  ·rw[if_neg e] at h;exact .tail _ (ih h)
end
noncomputable def ju(r:Int)(b:Nat)(T:List Int):List Int:=(T.foldl (dP r b) ⟨[],aj,[]⟩).out
theorem Ky{b:Nat}{x y p:Int}(h:tQ b x y=U p):p∈aB:=by
 revert h
 refine λh=>(show ∀q∈dQ b,q.2∈aB from ?_) _ (yg h)
 rcases b with _|_|b
 ·decide+kernel
 ·decide+kernel
 ·exact(by decide+kernel:∀q∈dQ 2,q.2∈aB)
noncomputable def CS.mo(r:Int)(x:CS):Int:=fm r x.tl
theorem m8(r:Int)(x:CS)(c:Int):(x.push r c).out=x.out++[c]:=by
 unfold CS.push
 split
 ·exact bx _
 ·exact(aN ..).symm
theorem Kf(r:Int)(l:List Int)(c:Int):fm r (l++[c])=if fm r l<rk r c then rk r c else fm r l:=by
 rw[fm,z5]
 show max (fm r l) (rk r c)=_
 split<;>lia
theorem YZ{r:Int}{x:CS}{c p:Int}(hc:c∈aB)(h:∀p,x.st=U p->p∈aB)(e:(x.push r c).st=U p):p∈aB:=by
 unfold CS.push at e
 split at e
 ·cases e;exact hc
 ·exact h p e
theorem i5{x:CS}{s:Int}(h:x.st=U s):x.out=x.pre++s::x.tl:=by rw[CS.out,h,aN];rfl
theorem rg{x:CS}{s:Int}(h:x.st=U s):x.ix=x.pre.length:=by rw[CS.ix,h]
theorem yl{x:CS}{s:Int}(h:x.st=U s):cC (.list (x.out.map .int)) (.int x.ix)=U (.int s):=by
 rw[i5 h,rg h]
 show jx ((x.pre++s::x.tl).map V.int) (x.pre.length:Int)=_
 rw[jx,if_pos (fw _),nS,gj,tA]
 rfl
theorem Ng{x:CS}{s p:Int}(h:x.st=U s):(x.out.map V.int).set x.ix.toNat (.int p)=(CS.out {x with st:=U p}).map .int:=by
 rw[i5 h,rg h,i5 rfl,nS,<-JW,List.set_append_right _ _ (aQ _),qK]
 rfl
theorem By{x:CS}{s:Int}(h:x.st=U s):0<=x.ix/\x.ix<(x.out.length:Int)/\(x.ix=(x.out.length:Int)-1↔x.tl=[]):=by
 rw[i5 h,rg h,aX,fP,<-pg]
 lia
inductive Tl:List (af×Sl)->Prop
 |z:Tl []
 |a (c w):Tl (dE c w [])
 |b (c w p):Tl (dE c w (o5 p))
inductive r9:List (af×Sl)->Prop
 |a:r9 []
 |b (p):r9 (o5 p)
theorem r9.tl{c w:V}{t:List (af×Sl)}(h:r9 t):Tl (dE c w t):=by
 induction h
 ·exact .a c w
 ·exact .b c w _
section
variable {W:Ws PG}{n b:Nat}{r:Int}{tx:V}{T l:List Int}
noncomputable def gI(r:Int)(b:Nat)(tx:V)(x:CS)(tl:List (af×Sl)):S:=cs tx (dat r b) (fY b) (.int (x.mo r)) (.int x.ix) (x.out.map .int) tl
inductive qi(r:Int)(b:Nat)(tx:V)(T l:List Int):S->Prop
 |mk (x:CS) (t) (ht:Tl t) (hx:∀p,x.st=U p->p∈aB) (hl:x.out.length+l.length<64) (e:(l.foldl (dP r b) x).out=ju r b T):qi r b tx T l (gI r b tx x t)
inductive IT(W:Ws PG)(n b:Nat)(r:Int)(tx:V)(T l:List Int)(B:List br)(s:S):Prop
 |next (s2:S) (h:Ex W (n+44) gU B s .next s2) (i:qi r b tx T l s2)
 |cont (s2:S) (h:Ex W (n+44) gU B s .cont s2) (i:qi r b tx T l s2)
variable {x:CS}{c:Int}{t t2:List (af×Sl)}
theorem ZL(hl:x.out.length<64):Ex W (n+44) gU [dS 2,dS 3] (gI r b tx x (dE (.int c) (.int (rk r c)) t)) .next (gI r b tx (x.push r c) (dE (.int c) (.int (rk r c)) t)):=by
 have hc:(x.out.map V.int).length<cG:=Bw (by rw[aO];exact hl)
 by_cases h:rk r c=0
 ·have hp:x.push r c=⟨x.out,U c,[]⟩:=if_pos h
  have:=(cV [sb 1360210221 (tY h),sp 1400080264 hc] ⋯:Ex W (n+44) gU [dS 2,dS 3] (cs tx (dat r b) (fY b) (.int (x.mo r)) (.int x.ix) (cA V.int x.out) (dE (.int c) (.int (rk r c)) t)) .next (cs tx (dat r b) (fY b) (.int (-1)) (.int (cA V.int x.out).length) ((cA V.int x.out)++[(.int c)]) (dE (.int c) (.int (rk r c)) t)))
  rw[aO] at this
  rw[gI,gI,m8,bZ,hp]
  exact this
 ·have hp:x.push r c={x with tl:=x.tl++[c]}:=if_neg h
  have:=(cV [sb 1360210221 (oQ h),sp 1400080264 hc] ⋯:Ex W (n+44) gU [dS 2,dS 3] (cs tx (dat r b) (fY b) (.int (x.mo r)) (.int x.ix) (cA V.int x.out) (dE (.int c) (.int (rk r c)) t)) .next (cs tx (dat r b) (fY b) (.int (if(x.mo r)<(rk r c) then(rk r c) else(x.mo r))) (.int x.ix) ((cA V.int x.out)++[(.int c)]) (dE (.int c) (.int (rk r c)) t)))
  rw[gI,gI,m8,bZ,hp,show CS.mo r {x with tl:=x.tl++[c]}=_ from Kf r x.tl c]
  exact this
theorem Fd(h:Sm W (n+44) gU (dS 1) (gI r b tx x (dE (.int c) (.int (rk r c)) t)) .next (gI r b tx x (dE (.int c) (.int (rk r c)) t2)))(ht:r9 t2)(hc:c∈aB)(hx:∀p,x.st=U p->p∈aB)(hl:x.out.length+(l.length+1)<64)(e:((c::l).foldl (dP r b) x).out=ju r b T)(he:dP r b x c=x.push r c):
  IT W n b r tx T l [dS 1,dS 2,dS 3] (gI r b tx x (dE (.int c) (.int (rk r c)) t)):=
 .next _ (aT h (ZL (by lia))) (.mk (x.push r c) _ ht.tl (λp e=>YZ hc hx e) (by rw[m8,aX,iY];lia) (by rw[ll,he] at e;exact e))
theorem Pn:Gz (dS 1) (dx (dS 1)) (ba (dS 1)) (PT (dS 1)):=.mk _
theorem N0{s:Int}(ht:r9 t)(hc:c∈aB)(hx:∀p,x.st=U p->p∈aB)(hl:x.out.length+(l.length+1)<64)(e:((c::l).foldl (dP r b) x).out=ju r b T)(hs:x.st=U s)(ho:x.tl=[]\/fm r x.tl<rk r c)
  (hT:Ts W (n+43) gU (dx (dS 1)) (gI r b tx x (dE (.int c) (.int (rk r c)) t)) J (gI r b tx x (dE (.int c) (.int (rk r c)) t))):IT W n b r tx T l [dS 1,dS 2,dS 3] (gI r b tx x (dE (.int c) (.int (rk r c)) t)):=by
 have f2:=λj=>aau (W:=W) (n:=j) (b:=b) (y:=c) (hx s hs)
 have pf:(fY b).free=true:=ak (ak u5.1 u5.2.1) (ak (ak (aR _) u5.2.2) rfl)
 cases q:tQ b s c with
 |none=>
  rw[q] at f2
  refine Fd (t2:=o5 .none) (PH Pn hT ?_) (.b _) hc hx hl e (vm hs q)
  induction ht
  ·exact aec (p':=.none) (yl hs) f2 pf
  ·exact cV [sv 1320330470 (yl hs),sc 1320190540 (m:=n+41) (f2 _) (ak pf rfl) rfl] ⋯
 |some p=>
  rw[q] at f2
  have he:dP r b x c={x with st:=U p}:=sZ hs ho q
  have ob:0<=x.ix/\x.ix<((x.out.map V.int).length:Int):=⟨(By hs).1,by rw[aO];exact(By hs).2.1⟩
  have hb:Ex W (n+43) gU (ba (dS 1)) (gI r b tx x (dE (.int c) (.int (rk r c)) t)) .cont (gI r b tx {x with st:=U p} (dE (.int c) (.int (rk r c)) (o5 (.int p)))):=by
   have hi:CS.ix {x with st:=U p}=x.ix:=(rg rfl).trans (rg hs).symm
   rw[gI,gI,<-Ng hs,hi]
   induction ht
   ·exact afI (p':=.none) (yl hs) f2 pf ob
   ·exact cV [sv 1320330470 (yl hs),sc 1320190540 (m:=n+41) (f2 _) (ak pf rfl) rfl,sp 1340160304 ob] ⋯
  exact .cont _ (n9 (λe=>by cases e) (PH Pn hT hb)) (.mk {x with st:=U p} _ (.b _ _ _) (λp' e=>by cases e;exact Ky q) (by rw[i5 rfl];rw[i5 hs] at hl;simp only[aX,fP] at hl ⊢;lia) (by rw[ll,he] at e;exact e))
theorem aay(ht:r9 t)(hc:c∈aB)(hx:∀p,x.st=U p->p∈aB)(hl:x.out.length+(l.length+1)<64)(e:((c::l).foldl (dP r b) x).out=ju r b T):IT W n b r tx T l [dS 1,dS 2,dS 3] (gI r b tx x (dE (.int c) (.int (rk r c)) t)):=by
 cases hs:x.st with
 |none=>exact Fd ((aL [sb 1310220231 (P7 ((by rw[show x.ix= -1 by rw[CS.ix,hs]];decide):¬0<=x.ix))] ⋯)) ht hc hx hl e (vn hs)
 |some s=>
  have o:=By hs
  have hm:((x.out.map V.int).length:Int)=x.out.length:=congrArg _ (aO ..)
  by_cases h:x.ix=(x.out.length:Int)-1
  ·exact N0 ht hc hx hl e hs (.inl (o.2.2.mp h)) ((fj [sb 1310220231 (B3 o.1),sb 1310400541 (tY (hm▸h))] ⋯))
  ·by_cases h2:x.mo r<rk r c
   ·exact N0 ht hc hx hl e hs (.inr h2) ((fj [sb 1310220231 (B3 o.1),sb 1310400541 (oQ (hm▸h)),sb 1310650711 (mI h2)] ⋯))
   ·exact Fd ((aL [sb 1310220231 (B3 o.1),sb 1310400541 (oQ (hm▸h)),sb 1310650711 (nB h2)] ⋯)) ht hc hx hl e (vM λq=>q.elim (λq=>h (o.2.2.mpr q)) h2)
theorem afx:ba og=[dS 0,dS 1,dS 2,dS 3]:=by kernel_rfl
theorem Zy(hc:c∈aB){s:S}(h:qi r b tx T (c::l) s):eC W (n+44) gU ah (cE og) (ba og) (λf s=>f=.next/\qi r b tx T [] s) (qi r b tx T l) (.int c) s:=by
 induction h with
 |mk x t ht hx hl e=>
  have go:∀{s1 t2},r9 t2->Bd W (n+44) gU ah (cE og) (.int c) (gI r b tx x t) s1->Sm W (n+44) gU (dS 0) s1 .next (gI r b tx x (dE (.int c) (.int (rk r c)) t2))->eC W (n+44) gU ah (cE og) (ba og) (λf s=>f=.next/\qi r b tx T [] s) (qi r b tx T l) (.int c) (gI r b tx x t):=λ{s1 t2} h2 hb hw=>by
   rw[afx]
   induction aay h2 hc hx hl e with
   |next s2 h i=>exact λQ_ k_=>k_ _ _ s2 hb (aT hw h) i
   |cont s2 h i=>exact λQ_ k_=>k_ _ _ s2 hb (aT hw h) i
  induction ht with
  |z=>exact go .a (XX (c':=.none) (w':=.none) (p':=.none)) (afU (w':=.none) (p':=.none) hc)
  |a c w=>exact go .a (Xg (p':=.none)) (aeR (p':=.none) hc)
  |b c w p=>exact go (.b p) Yu (aeN hc)
end
theorem Ua{W:Ws PG}{n b:Nat}{r:Int}(T:List Int)(hT:∀c∈T,c∈aB)(hl:T.length<64):Ca W (n+50) 180 [L T,dat r b,fY b] [] (L (ju r b T)) []:=by
 refine(pT W (I:=qi r b (L T) T) T (λc hc l s h=>Zy (n:=n+4) (hT c hc) h) (λs h=>⟨rfl,h⟩) (.mk ⟨[],aj,[]⟩ [] .z (λp e=>by cases e) (by rw[CS.out];exact(fx _).symm▸hl) rfl)).run W λfl s' q h=>?_
 induction q with
 |intro e i=>
  subst e
  induction i with
  |mk x t ht hx hl e=>rw[<-e];exact bU [eV 1290040263 h] ⋯
end
noncomputable def wk:Nat->Bool
 |0=>ah
 |1=>ah
 |_=>J
noncomputable def wz:Nat->Bool
 |0=>ah
 |1=>J
 |2=>ah
 |_=>J
noncomputable def cW(w b:Nat):V:=if wz w=J then fY b else .none
theorem ia{b:Nat}:(fY b).free=true:=ak (ak u5.1 u5.2.1) (ak (ak (aR _) u5.2.2) rfl)
theorem AQ{w b:Nat}:(cW w b).free=true:=by
 rw[cW];split
 ·exact ia
 ·rfl
inductive mE(b:Nat):V->Prop
 |n:mE b .none
 |c:mE b (fY b)
theorem mE.free{b:Nat}{co:V}(h:mE b co):co.free=true:=by
 cases h
 ·rfl
 ·exact ia
theorem oh{w b:Nat}:mE b (cW w b):=by
 rw[cW];split
 ·exact .c
 ·exact .n
noncomputable def aD(r:Int)(b w:Nat)(T:List Int):List Int:=if wz w=J then ju r b (fh r (aM (wk w) T)) else fh r (aM (wk w) T)
theorem VN(r:Int)(l:List Int):∀(R:List (Int×Int)),(ew r l R).length=l.length+R.length:=by
 induction l with
 |nil=>exact λR=>by rw[ew,aO,Az,j7,fx]
 |cons c l ih=>
  intro R
  rw[ew]
  split
  ·rw[ih,aX,iY,fP];lia
  ·rw[aX,fP,aO,Az,ih,fP,j7];lia
theorem x7(r:Int)(T:List Int):(fh r T).length=T.length:=VN r T []
theorem Xr{p q:Int×Int}{run:List (Int×Int)}:q∈oG p run->q=p\/q∈run:=by
 induction run with
 |nil=>exact λh=>.inl (cK.mp h)
 |cons a r ih=>
  intro h
  rw[oG] at h
  split at h
  ·exact cf.mp h
  ·exact(cf.mp h).elim (λh=>.inr (h▸.head _)) λh=>(ih h).imp id (.tail _)
theorem U8{q:Int×Int}{run:List (Int×Int)}:q∈gS run->q∈run:=by
 induction run with
 |nil=>exact id
 |cons a r ih=>exact λh=>(Xr h).elim (λe=>e▸.head _) λh=>.tail _ (ih h)
theorem Ke{d:Int}{R:List (Int×Int)}(h:d∈(gS R).map (·.2)):d∈R.map (·.2):=(i4.mp h).elim λq h=>i4.mpr ⟨q,U8 h.1,h.2⟩
theorem Lg{r d:Int}{l:List Int}:∀{R:List (Int×Int)},d∈ew r l R->d∈l\/d∈R.map (·.2):=by
 induction l with
 |nil=>exact λh=>.inr (Ke h)
 |cons c l ih=>
  intro R h
  rw[ew] at h
  split at h
  ·refine(ih h).elim (λh=>.inl (.tail _ h)) λh=>?_
   rw[bZ,gx] at h
   exact h.elim .inr λh=>.inl (cK.mp h▸.head _)
  ·refine(gx.mp h).elim (λh=>.inr (Ke h)) λh=>.inl ?_
   exact(cf.mp h).elim (λh=>h▸.head _) λh=>(ih h).elim (.tail _) λh=>by cases h
theorem AI{r:Int}{T:List Int}(hT:∀c∈T,c∈aB):∀d∈fh r T,d∈aB:=λd hd=>(Lg hd).elim (hT d) λh=>by cases h
theorem xP{W:Ws PG}{n b w:Nat}{r:Int}(hw:w<4)(T:List Int)(hT:∀c∈T,c∈aB)(hl:(aM (wk w) T).length<64):Ca W (n+60) 188 [L T,dat r b,.str (bB w),cW w b] [] (L (aD r b w T)) []:=by
 have f0:=λk (hl:(aM k T).length<64) j=>S7 (W:=W) (n:=j) (b:=b) (r:=r) T hT hl
 have f1:=λk (hl:(aM k T).length<64) j=>Ua (W:=W) (n:=j) (b:=b) (r:=r) (fh r (aM k T)) (AI (ym hT)) (by rw[x7];exact hl)
 clear hw
 rcases w with _|_|_|w
 ·exact bU [sc 1430120600 (m:=n+57) ((f0 _ hl) _) (ak (aR _) (ak aZ rfl)) (aR _)] ⋯
 ·exact bU [sc 1430120600 (m:=n+57) ((f0 _ hl) _) (ak (aR _) (ak aZ rfl)) (aR _),sc 1440490800 (m:=n+56) ((f1 _ hl) _) (ak (aR _) (ak aZ (ak ia rfl))) (aR _)] ⋯
 ·exact bU [sc 1430120600 (m:=n+57) ((f0 _ hl) _) (ak (aR _) (ak aZ rfl)) (aR _)] ⋯
 ·exact bU [sc 1430120600 (m:=n+57) ((f0 _ hl) _) (ak (aR _) (ak aZ rfl)) (aR _),sc 1440490800 (m:=n+56) ((f1 _ hl) _) (ak (aR _) (ak aZ (ak ia rfl))) (aR _)] ⋯
theorem xm{W:Ws PG}{n b w:Nat}{r:Int}(hw:w<4):Ca W (n+40) 197 [dat r b,.str (bB w),.none] [] (cW w b) []:=by
 clear hw
 rcases w with _|_|_|w
 ·exact bU [] ⋯
 ·exact abP W b
 ·exact bU [] ⋯
 ·rcases b with _|_|b<;>exact bU [] ⋯
theorem zT{W:Ws PG}{n b w:Nat}{r:Int}(hw:w<4):Ca W (n+40) 197 [dat r b,.str (bB w),cW w b] [] (cW w b) []:=by
 clear hw
 rcases w with _|_|_|w<;>exact bU [] ⋯
theorem jF{c:Int}{l:List Int}:dz (.int c) (l.map .int)=true:=by
 have h:kd (.int c)=1:=rfl
 rw[dz,h,List.all_map]
 exact md.mpr λj j=>rfl
theorem Ko{c:Int}{l:List Int}:isKey (.int c) (l.map .int)=U (l.contains c):=by
 have h2:(dJ (.int c) (l.map .int)).isSome=l.contains c:=by
  induction l with
  |nil=>rfl
  |cons a l ih=>
   rw[ff,dJ,qD,List.contains_cons,<-ih,dJ]
   show Option.isSome (if aJ (a=c)=J then _ else _)=((c==a)||_)
   have e:(c==a)=aJ (a=c):=by rw[Bool.eq_iff_iff,beq_iff_eq,decide_eq_true_iff];exact eq_comm
   rw[e]
   induction aJ (a=c)
   ·rw[if_neg (by decide),JP,Dm]
   ·rfl
 rw[isKey,if_pos jF,h2]
section
noncomputable def GA(b:Nat)(c:Int):Bool:=(dQ b).any λp=>aJ (p.1.1=c)
section
variable (W:Ws PG){n:Nat}
theorem To:∀b,∀c∈aB,Ca W (n+20) 165 [fY b,.int c] [] (.bool ((jV b).contains c)) []
 |0=>rn ⋯
 |1=>rn ⋯
 |_+2=>rn ⋯
theorem TQ:∀b,∀c∈aB,Ca W (n+50) 220 [.int c,fY b] [] (.bool (GA b c)) []
 |0=>rn ⋯
 |1=>rn ⋯
 |_+2=>rn ⋯
end
noncomputable def hd(k:Bool)(c:Int):Int:=(ex k c).headD 0
noncomputable def cF(r:Int)(b w:Nat)(c:Int):Bool:=!decide (0<rk r (hd (wk w) c))&&!(wz w&&(jV b).contains (hd (wk w) c))
theorem NS{k:Bool}:∀c∈aB,hd k c∈aB:=by
 induction k
 ·exact lu (P:=λc=>hd ah c∈aB) (by decide+kernel)
 ·exact lu (P:=λc=>hd J c∈aB) (by decide+kernel)
theorem afz{k:Bool}{c:Int}(hc:c∈aB):cC (L (ex k c)) (.int 0)=U (.int (hd k c)):=by
 have h1:=(te (k:=k) c hc).1
 rw[hd]
 cases q:ex k c with
 |nil=>rw[q] at h1;exact absurd h1 (sL 0)
 |cons a l=>rfl
noncomputable def lst(k:Bool)(c:Int):Int:=(ex k c).getLastD 0
theorem aa4{k:Bool}:∀c∈aB,lst k c∈aB:=by
 induction k
 ·exact lu (P:=λc=>lst ah c∈aB) (by decide+kernel)
 ·exact lu (P:=λc=>lst J c∈aB) (by decide+kernel)
theorem abL{k:Bool}{c:Int}(hc:c∈aB):cC (L (ex k c)) (.int (-1))=U (.int (lst k c)):=by
 have h1:=(te (k:=k) c hc).1
 rw[lst]
 show jx ((ex k c).map V.int) (-1)=_
 rw[jx,if_neg (by decide),if_pos (by rw[aO];exact Int.le_add_of_sub_left_le (pn.mpr h1))]
 rw[aO,gj,show((-1:Int)+((ex k c).length:Nat)).toNat=(ex k c).length-1 from(congrArg Eo (JY _ _)).trans (Ai (ex k c).length 1),<-List.getLast?_eq_getElem?,List.getLastD_eq_getLast?]
 cases q:(ex k c).getLast? with
 |none=>rw[List.getLast?_eq_none_iff] at q;rw[q] at h1;exact absurd h1 (sL 0)
 |some a=>rfl
noncomputable abbrev inW(wd:af):Option Bool:=bC .In (.str wd) (.tup [.str (n! "nfkd"),.str (n! "nfkc")])
theorem Ei{w:Nat}(hw:w<4):inW (bB w)=U (wk w):=
 by clear hw;rcases w with _|_|_|w<;>kernel_rfl
theorem yz{w b:Nat}{q:Bool}(e:wz w=q):cW w b=if q=J then fY b else .none:=e▸rfl
theorem uV{W:Ws PG}{n b w:Nat}{r c:Int}(hw:w<4)(hc:c∈aB):Ca W (n+60) 205 [.int c,dat r b,.str (bB w),cW w b] [] (.bool (cF r b w c)) []:=by
 have f0:=Bl W (n:=n+26) (r:=r) (k:=wk w) b c hc
 have f1:=vN W (n:=n+36) (r:=r) (b:=b) (hd (wk w) c) (NS c hc)
 have f2:=zT (W:=W) (n:=n+17) (b:=b) (r:=r) hw
 let A (l:List cI):List cI:=sb 1550460561 (Ei hw)::sc 1550120570 f0 (ak rfl (ak aZ rfl)) (aR _)::sv 1550120600 (afz (k:=wk w) hc)::sc 1560070290 f1 (ak aZ rfl) rfl::l
 rw[cF]
 by_cases c0:0<rk r (hd (wk w) c)
 ·rw[decide_eq_true c0]
  exact bU (A [sb 1560320331 (kD c0)]) ⋯
 ·rw[decide_eq_false c0]
  cases q:wz w<;>rw[yz q] at f2 ⊢
  ·exact bU (A [sb 1560320331 (kJ c0),sc 1580150520 f2 (ak aZ rfl) rfl]) ⋯
  ·have f3:=To W (n:=n+35) b _ (NS (k:=wk w) c hc)
   cases q:(jV b).contains (hd (wk w) c)<;>rw[q] at f3<;>exact bU (A [sb 1560320331 (kJ c0),sc 1580150520 f2 (ak aZ (ak rfl (ak ia rfl))) ia,sc 1590350600 f3 (ak ia rfl) rfl]) ⋯
noncomputable def vJ(r:Int)(b w:Nat)(c:Int):Bool:=cF r b w c&&aJ (aD r b w [c]=[c])&&!decide (0<rk r (lst (wk w) c))&&!(wz w&&GA b c)
theorem L6(A:List Int):fq 8 (L A)=true:=md.mpr λv hv=>(i4.mp hv).elim λi h=>h.2▸rfl
theorem pB{A B:List Int}:rT (L A) (L B)=U (aJ (A=B)):=by
 rw[rT,L6,L6]
 exact congrArg U (ER A B)
theorem pF{A B:List Int}:bC .NotEq (L A) (L B)=U (!decide (A=B)):=congrArg kK pB
theorem TV{W:Ws PG}{n b w:Nat}{r c:Int}(hw:w<4)(hc:c∈aB):Ca W (n+80) 213 [.int c,dat r b,.str (bB w)] [] (.bool (vJ r b w c)) []:=by
 have f0:=Bl W (n:=n+44) (r:=r) (k:=wk w) b c hc
 have f1:=vN W (n:=n+56) (r:=r) (b:=b) (lst (wk w) c) (aa4 c hc)
 have f2:=xm (W:=W) (n:=n+37) (b:=b) (r:=r) hw
 have f5:=uV (W:=W) (n:=n+14) (b:=b) (r:=r) hw hc
 have f6:=xP (W:=W) (n:=n+15) (b:=b) (r:=r) hw [c] (λd hd=>cK.mp hd▸hc) (by rw[aM,List.flatMap_singleton];exact bq (te (k:=wk w) c hc).2 (by decide))
 have he:=pF (A:=aD r b w [c]) (B:=[c])
 have fc:=AQ (w:=w) (b:=b)
 have hk:=oh (w:=w) (b:=b)
 rw[vJ]
 cases q0:cF r b w c<;>rw[q0] at f5
 ·generalize cW w b=co at f2 f5 fc hk
  induction hk<;>exact bU [sc 1610150520 f2 (ak aZ rfl) fc,sc 1620110540 f5 (ak rfl (ak aZ (ak rfl (ak fc rfl)))) rfl] ⋯
 by_cases q1:aD r b w [c]=[c]
 ·rw[decide_eq_true q1] at he ⊢
  let B (l:List cI):List cI:=sb 1640570671 (Ei hw)::sc 1640230680 f0 (ak rfl (ak aZ rfl)) (aR _)::sv 1640230720 (abL (k:=wk w) hc)::sc 1640070730 f1 (ak aZ rfl) rfl::l
  by_cases q2:0<rk r (lst (wk w) c)
  ·rw[decide_eq_true q2]
   generalize cW w b=co at f2 f5 f6 fc hk
   induction hk<;>exact bU ([sc 1610150520 f2 (ak aZ rfl) fc,sc 1620110540 f5 (ak rfl (ak aZ (ak rfl (ak fc rfl)))) rfl,sc 1620580950 f6 (ak rfl (ak aZ (ak rfl (ak fc rfl)))) (aR _),sb 1620991051 he]++B [sb 1640760771 (kD q2)]) ⋯
  ·rw[decide_eq_false q2]
   cases q:wz w<;>rw[yz q] at f2 f5 f6 fc
   ·exact bU ([sc 1610150520 f2 (ak aZ rfl) fc,sc 1620110540 f5 (ak rfl (ak aZ (ak rfl (ak fc rfl)))) rfl,sc 1620580950 f6 (ak rfl (ak aZ (ak rfl (ak fc rfl)))) (aR _),sb 1620991051 he]++B [sb 1640760771 (kJ q2)]) ⋯
   ·have f3:=TQ W (n:=n+25) b c hc
    cases q3:GA b c<;>rw[q3] at f3<;>exact bU ([sc 1610150520 f2 (ak aZ rfl) fc,sc 1620110540 f5 (ak rfl (ak aZ (ak rfl (ak fc rfl)))) rfl,sc 1620580950 f6 (ak rfl (ak aZ (ak rfl (ak fc rfl)))) (aR _),sb 1620991051 he]++B [sb 1640760771 (kJ q2),sc 1660350660 f3 (ak rfl (ak ia rfl)) rfl]) ⋯
 ·rw[decide_eq_false q1] at he ⊢
  generalize cW w b=co at f2 f5 f6 fc hk
  induction hk<;>exact bU [sc 1610150520 f2 (ak aZ rfl) fc,sc 1620110540 f5 (ak rfl (ak aZ (ak rfl (ak fc rfl)))) rfl,sc 1620580950 f6 (ak rfl (ak aZ (ak rfl (ak fc rfl)))) (aR _),sb 1620991051 he] ⋯
end
section
def eW(r:Int):Prop:=r=220\/r=230\/r=202
noncomputable def IV(r:Int):List Int->Int
 |[]=>0
 |c::l=>if 0<rk r c then IV r l+1 else 0
noncomputable def ld(r c:Int):Int:=IV r (ex J c)
noncomputable def tr(r c:Int):Int:=IV r (ex J c).reverse
noncomputable def am(r c:Int):Bool:=(ex J c).all λd=>aJ (0<rk r d)
noncomputable def GC(K:Nat)(v:V)(k:Nat):Option H:=hn.QQ (ie k K) (U (.v v)) aj
theorem Y7{W:Ws PG}{n a m a' K:Nat}{f f':Int->List V}{g g':Int->V}(hf:∀c,V.bI (f' c)=J)(hg:∀c,(g' c).free=J)(h0:∀c∈aB,Ca W m a' (f' c) [] (g' c) [])
  (h:rJ (λc=>(run W (GC K (g' c)) n).ca a (f c) [] λv m=>v=g c/\m=[]) aB=each λc=>(V.bI (f' c)=J/\Ca W m a' (f' c) [] (g' c) []/\deep 20 (g' c) []=U (g' c,[]))/\(g c=g c/\([]:List M)=[])):∀c∈aB,Ca W n a (f c) [] (g c) []:=λc hc=>
 (oe W (GC K (g' c)) n).ca (Eq.mpr (yn (h.trans (Nn _).symm) c hc) ⟨⟨hf c,h0 c hc,En (hg c)⟩,rfl,rfl⟩) λf t a e=>e.1▸e.2▸a
section
variable (W:Ws PG)
theorem vh{n b:Nat}{r:Int}(h:rJ (λc=>(run W (GC 2720490800 (L (ex J c))) (n+50)).ca 326 [.int c,dat r b] [] λv m=>v=.tup [.int (ld r c),.int (tr r c),.bool (am r c)]/\m=[]) aB=each λc=>(V.bI [.int c,dat r b,.bool J]=J/\Ca W (n+47) 103 [.int c,dat r b,.bool J] [] (L (ex J c)) []/\deep 20 (L (ex J c)) []=U (L (ex J c),[]))/\(V.tup [.int (ld r c),.int (tr r c),.bool (am r c)]=.tup [.int (ld r c),.int (tr r c),.bool (am r c)]/\([]:List M)=[])):∀c∈aB,Ca W (n+50) 326 [.int c,dat r b] [] (.tup [.int (ld r c),.int (tr r c),.bool (am r c)]) []:=
 Y7 (f':=λc=>[.int c,dat r b,.bool J]) (g':=λc=>L (ex J c)) (λc=>ak rfl (ak aZ rfl)) (λc=>aR _) (Bl W b) h
def mR(r:Int):Prop:=∀(W:Ws PG) (n b:Nat),∀c∈aB,Ca W (n+50) 326 [.int c,dat r b] [] (.tup [.int (ld r c),.int (tr r c),.bool (am r c)]) []
theorem mR0:mR 220:=λW n j=>match j with
 |0=>vh W ⋯
 |_+1=>vh W ⋯
theorem mR1:mR 230:=λW n j=>match j with
 |0=>vh W ⋯
 |_+1=>vh W ⋯
theorem mR2:mR 202:=λW n j=>match j with
 |0=>vh W ⋯
 |_+1=>vh W ⋯
theorem Ls{n:Nat}{r:Int}(hr:eW r):∀b,∀c∈aB,Ca W (n+50) 326 [.int c,dat r b] [] (.tup [.int (ld r c),.int (tr r c),.bool (am r c)]) []:=
 hr.elim (λe=>e▸mR0 W n) λh=>h.elim (λe=>e▸mR1 W n) λe=>e▸mR2 W n
end
end
section
noncomputable def adW:Cx:=eK PG 334 GR
noncomputable def NU:Stmt:=st 1 GR.body
noncomputable def sf(tx d mo mn:V)(F:List V)(tl:List (af×Sl)):S:={vars:=(n! "text",.val tx)::(n! "data",.val d)::(n! "most",.val mo)::(n! "many",.val mn)::(n! "found",.list F)::tl}
noncomputable def IC(c l t a:V):List (af×Sl):=[(n! "code",.val c),(n! "lead",.val l),(n! "trail",.val t),(n! "is_marks",.val a)]
noncomputable def jK(r most:Int):List Int->Int->List Int
 |[],_=>[]
 |c::t,m=>if 0<m/\most<m+ld r c then 847::c::jK r most t (if am r c=J then 0+ld r c else tr r c) else c::jK r most t (if am r c=J then m+ld r c else tr r c)
noncomputable def iM(r most:Int):List Int->Int->Bool
 |[],_=>J
 |c::t,m=>if most<m+ld r c then ah else if most<(if am r c=J then m+ld r c else tr r c) then ah else iM r most t (if am r c=J then m+ld r c else tr r c)
inductive C2:List (af×Sl)->Prop
 |z:C2 []
 |s (c l t a):C2 (IC c l t a)
section
variable {W:Ws PG}{n b:Nat}{r most:Int}{tx:V}{T l:List Int}
inductive uo(r:Int)(b:Nat)(most:Int)(tx:V)(T l:List Int):S->Prop
 |mk (F:List Int) (m:Int) (tl) (ht:C2 tl) (hl:F.length+2*l.length<1000) (e:F++jK r most l m=jK r most T 0):uo r b most tx T l (sf tx (dat r b) (.int most) (.int m) (F.map .int) tl)
theorem nk{k:Nat}(h:k<1000):k<cG:=d9 h (by decide+kernel)
theorem aa5{c:Int}(hr:eW r)(hc:c∈aB){s:S}(h:uo r b most tx T (c::l) s):eC W (n+64) adW ah (cE NU) (ba NU) (λf s=>f=.next/\uo r b most tx T [] s) (uo r b most tx T l) (.int c) s:=by
 have f0:=λj=>Ls W (n:=j) hr b c hc
 induction h with
 |mk F m tl ht hl e=>
  rw[fP] at hl
  rw[jK] at e
  have hF:(F.map V.int).length<cG:=nk (by rw[aO];lia)
  by_cases h1:0<m/\most<m+ld r c
  ·rw[if_pos h1] at e
   have hG:(F.map V.int++[V.int 847]).length<cG:=nk (by rw[aX,aO,iY];lia)
   have k:=uo.mk (b:=b) (tx:=tx) (l:=l) (F++[847]++[c]) _ _ (.s (.int c) (.int (ld r c)) (.int (tr r c)) (.bool (am r c))) (by rw[aX,aX,iY,iY];lia) (by rw[aN,aN];exact e)
   rw[bZ,bZ] at k
   generalize am r c=a at f0 k
   induction ht<;>induction a<;>exact mG [sc 2830320560 (m:=n+62) (f0 _) (ak rfl (ak aZ rfl)) rfl,sb 2840180191 (kD h1.1),sb 2840380421 (kD h1.2),sp 2850120324 hF,sp 2870080264 hG] ⋯ k
  ·rw[if_neg h1] at e
   have k:=uo.mk (b:=b) (tx:=tx) (l:=l) (F++[c]) _ _ (.s (.int c) (.int (ld r c)) (.int (tr r c)) (.bool (am r c))) (by rw[aX,iY];lia) (by rw[aN];exact e)
   rw[bZ] at k
   generalize am r c=a at f0 k
   by_cases h2:0<m
   ·induction ht<;>induction a<;>exact mG [sc 2830320560 (m:=n+62) (f0 _) (ak rfl (ak aZ rfl)) rfl,sb 2840180191 (kD h2),sb 2840380421 (kJ λq=>h1 ⟨h2,q⟩),sp 2870080264 hF] ⋯ k
   ·induction ht<;>induction a<;>exact mG [sc 2830320560 (m:=n+62) (f0 _) (ak rfl (ak aZ rfl)) rfl,sb 2840180191 (kJ h2),sp 2870080264 hF] ⋯ k
end
theorem ZO{W:Ws PG}{n b:Nat}{r most:Int}(hr:eW r)(T:List Int)(hT:∀c∈T,c∈aB)(hl:T.length<100):Ca W (n+70) 334 [L T,dat r b,.int most] [] (L (jK r most T 0)) []:=by
 refine rD (W:=W) (I:=uo r b most (L T) T) T (λc hc l s h=>aa5 (n:=n+4) hr (hT c hc) h) (.mk [] 0 [] .z (by rw[j7];lia) rfl) λs' i h=>?_
 induction i with
 |mk F m tl ht hl e=>rw[<-e,jK,bx];exact bU [eV 2820040493 h] ⋯
end
section
noncomputable def aew:Cx:=eK PG 342 GW
noncomputable def NQ:Stmt:=st 1 GW.body
noncomputable def ft(tx d mo mn:V)(tl:List (af×Sl)):S:={vars:=(n! "text",.val tx)::(n! "data",.val d)::(n! "most",.val mo)::(n! "many",.val mn)::tl}
section
variable {W:Ws PG}{n b:Nat}{r most:Int}{tx:V}{T l:List Int}
inductive za(r:Int)(b:Nat)(most:Int)(tx:V)(T l:List Int):S->Prop
 |mk (m:Int) (tl) (ht:C2 tl) (e:iM r most l m=iM r most T 0):za r b most tx T l (ft tx (dat r b) (.int most) (.int m) tl)
inductive zh(r:Int)(b:Nat)(most:Int)(tx:V)(T:List Int):Fl->S->Prop
 |t (m:Int) (tl) (e:iM r most T 0=J):zh r b most tx T .next (ft tx (dat r b) (.int most) (.int m) tl)
 |f (m:Int) (tl) (e:iM r most T 0=ah):zh r b most tx T (.ret (.bool ah)) (ft tx (dat r b) (.int most) (.int m) tl)
theorem Zl{c:Int}(hr:eW r)(hc:c∈aB){s:S}(h:za r b most tx T (c::l) s):eC W (n+64) aew ah (cE NQ) (ba NQ) (zh r b most tx T) (za r b most tx T l) (.int c) s:=by
 have f0:=λj=>Ls W (n:=j) hr b c hc
 induction h with
 |mk m tl ht e=>
  rw[iM] at e
  by_cases h1:most<m+ld r c
  ·rw[if_pos h1] at e
   have k:=zh.f (tx:=tx) (b:=b) m (IC (.int c) (.int (ld r c)) (.int (tr r c)) (.bool (am r c))) e.symm
   generalize am r c=a at f0 k
   induction ht<;>induction a<;>exact wa [sc 2930320560 (m:=n+62) (f0 _) (ak rfl (ak aZ rfl)) rfl,sb 2940250291 (kD h1)] ⋯ k
  ·rw[if_neg h1] at e
   by_cases h2:most<(if am r c=J then m+ld r c else tr r c)
   ·rw[if_pos h2] at e
    have k:=zh.f (tx:=tx) (b:=b) (if am r c=J then m+ld r c else tr r c) (IC (.int c) (.int (ld r c)) (.int (tr r c)) (.bool (am r c))) e.symm
    generalize am r c=a at f0 h2 k
    induction ht<;>induction a<;>exact wa [sc 2930320560 (m:=n+62) (f0 _) (ak rfl (ak aZ rfl)) rfl,sb 2940250291 (kJ h1),sb 2970180221 (kD h2)] ⋯ k
   ·rw[if_neg h2] at e
    have k:=za.mk (tx:=tx) (b:=b) _ _ (.s (.int c) (.int (ld r c)) (.int (tr r c)) (.bool (am r c))) e
    generalize am r c=a at f0 h2 k
    induction ht<;>induction a<;>exact mG [sc 2930320560 (m:=n+62) (f0 _) (ak rfl (ak aZ rfl)) rfl,sb 2940250291 (kJ h1),sb 2970180221 (kJ h2)] ⋯ k
end
theorem Ow{W:Ws PG}{n b:Nat}{r most:Int}(hr:eW r)(T:List Int)(hT:∀c∈T,c∈aB):Ca W (n+70) 342 [L T,dat r b,.int most] [] (.bool (iM r most T 0)) []:=by
 refine(pT W (I:=za r b most (L T) T) T (λc hc l s h=>Zl (n:=n+4) hr (hT c hc) h) (λs h=>?_) (.mk 0 [] .z rfl)).run W λfl s' q h=>?_
 ·induction h with
  |mk m tl ht e=>exact .t m tl e.symm
 ·induction q with
  |t m tl e=>rw[e];exact bU [eV 2920040243 h] ⋯
  |f m tl e=>rw[e];exact bU [eV 2920040243 h] ⋯
noncomputable def af2:Cx:=eK PG 347 Hk
noncomputable def tK:Expr:=dx (st 0 Hk.body)
theorem ady:(bF tK).ifs=[((bF tK).ifs[0]?).getD tK]:=by kernel_rfl
noncomputable def wC(c:Int):Option V:=if c=847 then aj else U (.int c)
theorem UX{W:Ws PG}{n:Nat}(T:List Int):Ca W (n+20) 347 [L T] [] (L (T.filter λc=>!decide (c=847))) []:=by
 refine(IY W (n:=n+17) (cx:=dk af2 tK) (p:=ah) (elt:=dg tK) (t:=(bF tK).target) (ifs:=(bF tK).ifs) (s:={vars:=[(n! "text",.val (L T))]}) (enc:=V.int) (g:=wC) (l:=T) (λc j=>?_) []).elim λc' h=>?_
 ·rw[ady]
  by_cases q:c=847
  ·rw[show wC c=aj from if_pos q]
   exact .skip [(n! "code",.int c)] rfl (vC ((fj [sb 3010450511 (ahP q)] ⋯)))
  ·rw[show wC c=U (.int c) from if_neg q]
   exact .take [(n! "code",.int c)] (.int c) rfl (tD ((fj [sb 3010450511 (ahv q)] ⋯)) oC) (jd ((jf [] ⋯)))
 ·have e:T.filterMap wC=(T.filter λc=>!decide (c=847)).map V.int:=by
   clear h
   induction T with
   |nil=>rfl
   |cons a T ih=>
    by_cases q:a=847
    ·rw[Jc (show wC a=aj from if_pos q),Sa (by rw[decide_eq_true q];decide),ih]
    ·rw[C8 (show wC a=U (.int a) from if_neg q),Jd (by rw[decide_eq_false q];rfl),ih];rfl
  rw[e] at h
  exact bU [sm 3010110523 h] ⋯
end
section
theorem v9{W:Ws PG}{n a:Nat}{f:bb}{vs:List V}{b:List (af×Sl)}{v:V}{s':S}(hf:PG.fn a=U f)(hb:vT f.params vs f.defaults=U b)(hx:Ex W n (eK PG a f) f.body {vars:=b} (.ret v) s')(hm:s'.mem=[]):Ca W (n+1) a vs [] v []:=by
 have h:=C5 (W.hf a f hf) hb hx (.inl rfl)
 rwa [hm] at h
theorem AP{a b:Int}(h:0<=a)(h1:a<1000)(h2: -1000<b)(h3:b<1000):ja a b=U (.items ah (cj a b)):=if_pos ⟨bf (by lia:(b-a).toNat<=1000) (by decide+kernel),by lia⟩
theorem rh{a:Int}{n:Nat}(h:0<=a)(h1:a<1000)(hn:n<1000):ja a n=U (.items ah (cj a n)):=AP h h1 (uK (by decide) (fw n)) (hO.mpr hn)
theorem ZF{n:Nat}(hn:n<1000):ja 0 ((n:Int)-1)=U (.items ah (cj 0 ((n:Int)-1))):=AP (gz 0) (by decide) (uK (by decide) (Int.sub_le_sub_right (fw n) 1)) (qF (Int.sub_le_self _ (by decide)) (hO.mpr hn))
noncomputable def Gg:Cx:=eK PG 228 yR
noncomputable def y7(i:Nat):Stmt:=st i yR.body
noncomputable def pl(tx d wd co:V)(tl:List (af×Sl)):S:={vars:=(n! "text",.val tx)::(n! "data",.val d)::(n! "word",.val wd)::(n! "composer",.val co)::tl}
noncomputable def Ii(F:List V)(tl:List (af×Sl)):List (af×Sl):=(n! "found",.list F)::tl
noncomputable def jw(r:Int)(b w:Nat)(T:List Int)(l:List Nat):List Int:=(l.filter λi=>cF r b w (T.getD (1+i) 0)).map λi=>((1+i:Nat):Int)
noncomputable def ef(r:Int)(b w:Nat)(T:List Int):List Int:=[0]++jw r b w T (cb (T.length-1))++if T.length=0 then[] else[(T.length:Int)]
theorem mr{T:List Int}{i:Nat}(h:i<T.length):cC (L T) (.int (i:Int))=U (.int (T.getD i 0)):=by
 show jx (T.map V.int) (i:Int)=_
 rw[jx,if_pos (fw _),nS,gj,j6,gi h]
 rfl
section
variable {W:Ws PG}{n b w:Nat}{r:Int}{T:List Int}{l:List Nat}{co:V}
inductive CM:List (af×Sl)->Prop
 |z:CM []
 |s (a):CM [(n! "at",.val a)]
inductive wK(r:Int)(b w:Nat)(T:List Int)(co:V)(l:List Nat):S->Prop
 |mk (F:List Int) (tl) (ht:CM tl) (hl:F.length+l.length<100) (e:F++jw r b w T l=[0]++jw r b w T (cb (T.length-1))):wK r b w T co l (pl (L T) (dat r b) (.str (bB w)) co (Ii (F.map .int) tl))
theorem aaV{i c:Int}{d:Bool}{F:List V}{tl:List (af×Sl)}{wd:af}{Q:Fl->S->Prop}{I:S->Prop}(ht:CM tl)(hc:mE b co)(hs:cC (L T) (.int i)=U (.int c))(f5:∀j,Ca W (j+60) 205 [.int c,dat r b,.str wd,co] [] (.bool d) [])(hF:F.length<cG)
  (k:I (pl (L T) (dat r b) (.str wd) co (Ii (cond d (F++[.int i]) F) [(n! "at",.val (.int i))]))):eC W (n+64) Gg ah (cE (y7 2)) (ba (y7 2)) Q I (.int i) (pl (L T) (dat r b) (.str wd) co (Ii F tl)):=by
 have fc:=hc.free
 cases d<;>induction hc<;>induction ht
 iterate 4 exact mG [sv 1760270350 hs,sc 1760110580 (m:=n+61) (f5 _) (ak rfl (ak aZ (ak rfl (ak fc rfl)))) rfl] ⋯ k
 all_goals exact mG [sv 1760270350 hs,sc 1760110580 (m:=n+61) (f5 _) (ak rfl (ak aZ (ak rfl (ak fc rfl)))) rfl,sp 1770120284 hF] ⋯ k
theorem aaX{i:Nat}(hw:w<4)(iz:co=cW w b)(hi:1+i<T.length)(hT:∀c∈T,c∈aB){s:S}(h:wK r b w T co (i::l) s):eC W (n+64) Gg ah (cE (y7 2)) (ba (y7 2)) (λf s=>f=.next/\wK r b w T co [] s) (wK r b w T co l) (.int (1+(i:Int))) s:=by
 induction h with
 |mk F tl ht hl e=>
  rw[fP] at hl
  have hs:=mr hi
  rw[Ac] at hs
  have f5:=λj=>uV (W:=W) (n:=j) (b:=b) (r:=r) (c:=T.getD (1+i) 0) hw (hT _ (by rw[j6,gi hi];exact JC _))
  rw[<-iz] at f5
  refine aaV ht (iz▸oh) hs f5 (nk (by rw[aO];lia)) ?_
  rw[jw,xA] at e
  cases q:cF r b w (T.getD (1+i) 0)<;>rw[q] at e
  ·exact .mk F _ (.s _) (by lia) e
  ·rw[show(if J=J then i::l.filter _ else _)=i::l.filter _ from if_pos rfl,ff,<-Jg,<-aN] at e
   have:=wK.mk (co:=co) _ _ (.s (.int (1+(i:Int)))) (by rw[aX,iY];lia) e
   rw[bZ] at this
   exact this
theorem KJ{vs:List V}{X:V}(hw:w<4)(hT:∀c∈T,c∈aB)(hl:T.length<64)(hb:vT yR.params vs yR.defaults=U [(n! "text",.val (L T)),(n! "data",.val (dat r b)),(n! "word",.val (.str (bB w))),(n! "composer",.val X)])
  (hc:Sm W (n+69) Gg (y7 0) (pl (L T) (dat r b) (.str (bB w)) X []) .next (pl (L T) (dat r b) (.str (bB w)) (cW w b) [])):Ca W (n+70) 228 vs [] (L (ef r b w T)) []:=by
 have hm:((T.map V.int).length:Int)=T.length:=congrArg _ (aO ..)
 have hr:cj 1 ((T.map V.int).length:Int)=(cb (T.length-1)).map λi:Nat=>V.int (1+(i:Int)):=by
  rw[hm,cj,show((T.length:Int)-1).toNat=T.length-1 from Ai T.length 1]
 refine rD (W:=W) (I:=wK r b w T (cW w b)) (cb (T.length-1)) (λi hi l s h=>aaX (n:=n+4) hw rfl (by have:=lr.mp hi;lia) hT h) (.mk [0] [] .z (by rw[g8,iY];lia) rfl) λs' i h=>?_
 rw[<-hr] at h
 induction i with
 |mk F tl ht jC e=>
  rw[jw,List.filter_nil,DL,bx] at e
  have hg:=rh (a:=1) (n:=(T.map V.int).length) (by decide) (by decide) (by rw[aO];exact ct hl (by decide))
  rw[ef,<-e]
  by_cases q:T.length=0
  ·rw[if_pos q,bx]
   exact v9 (s':=pl (L T) (dat r b) (.str (bB w)) (cW w b) ((n! "found",.val (L F))::tl)) rfl hb (aT hc (cV [sp 1750140330 hg,eV 1750040283 h,sb 1780190201 (kJ (a:=(T.map V.int).length) (b:=0) (by lia))] ⋯)) rfl
  ·rw[if_neg q,<-hm,L,bZ]
   exact v9 (s':=pl (L T) (dat r b) (.str (bB w)) (cW w b) ((n! "found",.val (.list (F.map V.int++[.int (T.map V.int).length])))::tl)) rfl hb (aT hc (cV [sp 1750140330 hg,eV 1750040283 h,sb 1780190201 (kD (a:=(T.map V.int).length) (b:=0) (by lia)),sp 1790080314 (show(F.map V.int).length<cG from nk (by rw[aO];lia))] ⋯)) rfl
theorem TM(hw:w<4)(hT:∀c∈T,c∈aB)(hl:T.length<64):Ca W (n+70) 228 [L T,dat r b,.str (bB w)] [] (L (ef r b w T)) []:=
 KJ hw hT hl rfl (aL [sc 1730150520 (xm (W:=W) (n:=n+27) (b:=b) (r:=r) hw) (ak aZ rfl) AQ] ⋯)
theorem TL(hw:w<4)(hT:∀c∈T,c∈aB)(hl:T.length<64):Ca W (n+70) 228 [L T,dat r b,.str (bB w),cW w b] [] (L (ef r b w T)) []:=by
 refine KJ hw hT hl rfl ?_
 have f2:=zT (W:=W) (n:=n+27) (b:=b) (r:=r) hw
 have fc:=AQ (w:=w) (b:=b)
 have hc:=oh (w:=w) (b:=b)
 generalize cW w b=co at f2 fc hc ⊢
 induction hc<;>exact aL [sc 1730150520 f2 (ak aZ (ak rfl (ak fc rfl))) fc] ⋯
end
end
section
noncomputable def vR:Cx:=eK PG 300 GJ
noncomputable def oI(i:Nat):Stmt:=st i GJ.body
noncomputable def qu(tx d wd:V)(tl:List (af×Sl)):S:={vars:=(n! "text",.val tx)::(n! "data",.val d)::(n! "word",.val wd)::tl}
noncomputable def rR(co:V)(tl:List (af×Sl)):List (af×Sl):=(n! "composer",.val co)::tl
noncomputable def CN(P F:List V)(tl:List (af×Sl)):List (af×Sl):=(n! "places",.val (.list P))::(n! "found",.list F)::tl
noncomputable def IF(i:V)(tl:List (af×Sl)):List (af×Sl):=(n! "at",.val i)::tl
noncomputable def HT(p:Sl)(tl:List (af×Sl)):List (af×Sl):=(n! "part",p)::tl
noncomputable def Ic(g:V):List (af×Sl):=[(n! "formed",.val g)]
noncomputable def jj{α:Type}(T:List α)(p q:Int):List α:=x4 (jG T.length q-jG T.length p) (T.drop (jG T.length p))
theorem acG{W:Ws PG}{n:Nat}{tx d wd co:V}{P F:List V}{tl:List (af×Sl)}(hr:ja 0 ((P.length:Int)-1)=U (.items ah (cj 0 ((P.length:Int)-1))))(h:iS W (n+78) vR (.items ah (cj 0 ((P.length:Int)-1))) (cE (oI 3)) (ba (oI 3)) (qu tx d wd (rR co (CN P [] []))) .next (qu tx d wd (rR co (CN P F tl)))):Ex W (n+79) vR [oI 3,oI 4] (qu tx d wd (rR co (CN P [] []))) (.ret (.list F)) (qu tx d wd (rR co ((n! "places",.val (.list P))::(n! "found",.val (.list F))::tl))):=cV [sp 2410140360 hr,eV 2410040623 h] ⋯
noncomputable def sl{α:Type}(T:List α)(p q:Nat):List α:=(T.drop p).take (q-p)
noncomputable def bO(c:Int×Int×List Int):V:=.tup [.int c.1,.int c.2.1,L c.2.2]
noncomputable def di(T:List Int)(p q:Int):List Int:=sl T p.toNat q.toNat
noncomputable def yS(r:Int)(b w:Nat)(T P:List Int)(l:List Nat):List (Int×Int×List Int):=
 (l.filter λi=>aJ (aD r b w (di T (P.getD i 0) (P.getD (i+1) 0))≠di T (P.getD i 0) (P.getD (i+1) 0))).map λi=>(P.getD i 0,P.getD (i+1) 0,aD r b w (di T (P.getD i 0) (P.getD (i+1) 0)))
noncomputable def EL(r:Int)(b w:Nat)(T:List Int):List (Int×Int×List Int):=yS r b w T (ef r b w T) (cb ((ef r b w T).length-1))
theorem A6(l:List (Int×Int×List Int)):V.bI (l.map bO)=true:=by
 induction l with
 |nil=>rfl
 |cons a l ih=>exact ak (show V.free (L a.2.2)&&J=J from ak (aR _) rfl) ih
theorem L4(n p:Nat):jG n p=min p n:=by
 have e:min (p:Int) n=((min p n:Nat):Int):=by
  by_cases h:p<=n
  ·rw[xE h,Int.min_eq_left (pn.mpr h)]
  ·have h:=Nat.le_of_not_le h
   rw[Dw h,Int.min_eq_right (pn.mpr h)]
 rw[jG,if_neg (gA.mpr (fw p)),e,Int.max_eq_right (fw _)];rfl
theorem aav(n:Nat):jG n (-1)=n-1:=by
 rw[jG,if_pos (by decide)]
 induction n with
 |zero=>rfl
 |succ n=>rw[Int.natCast_succ,JY,Int.add_neg_cancel_right,Int.min_eq_left (Int.le_add_one (gz _)),Int.max_eq_right (fw n)];rfl
theorem A9{n:Nat}{p:Int}(h0:0<=p)(h1:p<=n):jG n p=p.toNat:=
 (zR h0).elim λk e=>by rw[e] at h1;rw[e,L4];exact xE (pn.mp h1)
theorem UE(N:Nat):((N:Int)-1).toNat=N-1:=Ai N 1
theorem Et{T:List Int}{p q:Int}(h0:0<=p)(h1:p<=T.length)(h3:0<=q)(h2:q<=T.length):jj (T.map V.int) p q=(di T p q).map .int:=by
 rw[jj,aO,A9 h0 h1,A9 h3 h2,di,sl,Ah,List.map_drop]
theorem Bn{α:Type}{T:List α}{p q:Nat}{c:α}(h:c∈sl T p q):c∈T:=uH (xn h)
theorem vk{k:Bool}{a:Int}{l:List Int}:aM k (a::l)=ex k a++aM k l:=mT
theorem A5{k:Bool}{A T:List Int}(h:A.Sublist T):(aM k A).length<=(aM k T).length:=by
 induction h with
 |slnil=>exact aQ _
 |cons a h ih=>rw[vk,aX];exact bf ih (xF ..)
 |cons_cons a h ih=>rw[vk,vk,aX,aX];exact gd ih _
theorem U2{k:Bool}{T:List Int}{p q:Nat}:(aM k (sl T p q)).length<=(aM k T).length:=A5 ((List.take_sublist ..).trans (Dq ..))
theorem Tt{r:Int}{b w:Nat}{T:List Int}:∀p∈ef r b w T,0<=p/\p<=T.length:=by
 intro p hp
 rw[ef,gx,gx,jw,i4] at hp
 refine hp.elim (λh=>h.elim (λh=>by rw[cK.mp h];exact⟨gz 0,fw _⟩) λh=>?_) λh=>?_
 ·refine h.elim λi h=>?_
  have:=lr.mp (xD.mp h.1).1
  rw[<-h.2];exact⟨fw _,pn.mpr (kb 1 i▸ee (SF this))⟩
 ·split at h
  ·cases h
  ·rw[cK.mp h];exact⟨fw _,gz _⟩
theorem places_len{r:Int}{b w:Nat}{T:List Int}:(ef r b w T).length<=T.length+1:=by
 have:=List.length_filter_le (λi=>cF r b w (T.getD (1+i) 0)) (cb (T.length-1))
 rw[g8] at this
 rw[ef,aX,aX,jw,aO,iY]
 split
 ·rw[j7];exact bf (eA (kb 1 _)) (gM (bf this (qP ..)))
 ·rename_i q
  rw[iY,kb 1];exact gM (bf (gM this) (eA (Dj (Nat.pos_of_ne_zero q))))
section
variable {W:Ws PG}{n b w:Nat}{r:Int}{T P:List Int}{l:List Nat}{co:V}
inductive CX:List (af×Sl)->Prop
 |z:CX []
 |s (a p q):CX (IF a (HT p (Ic q)))
noncomputable def CY(r:Int)(b w:Nat)(T P:List Int)(co:V)(F:List V)(tl:List (af×Sl)):S:=qu (L T) (dat r b) (.str (bB w)) (rR co (CN (P.map .int) F tl))
inductive wZ(r:Int)(b w:Nat)(T P:List Int)(co:V)(l:List Nat):S->Prop
 |mk (F:List (Int×Int×List Int)) (tl) (ht:CX tl) (hl:F.length+l.length<100) (e:F++yS r b w T P l=yS r b w T P (cb (P.length-1))):wZ r b w T P co l (CY r b w T P co (F.map bO) tl)
theorem getD_mem{T:List Int}{i:Nat}(h:i<T.length):T.getD i 0∈T:=by
 rw[j6,gi h];exact JC _
theorem abi{i:Nat}{p q:Int}{G:List Int}{F:List V}{tl:List (af×Sl)}{Q:Fl->S->Prop}{I:S->Prop}{d:Bool}(ht:CX tl)(hc:mE b co)(h1:cC (L P) (.int i)=U (.int p))(h2:cC (L P) (.int ((i:Int)+1))=U (.int q))
  (f2:∀j,Ca W (j+60) 188 [.list (jj (T.map .int) p q),dat r b,.str (bB w),co] [] (L G) []) (fA:V.bI (jj (T.map .int) p q)=J) (he:bC .NotEq (L G) (.list (jj (T.map .int) p q))=U d) (hF:F.length<cG)
  (k:FU (I (CY r b w T P co (cond d (F++[bO (p,q,G)]) F) (IF (.int i) (HT (.val (.list (jj (T.map .int) p q))) (Ic (L G)))))) Q .next (CY r b w T P co (cond d (F++[bO (p,q,G)]) F) (IF (.int i) (HT (.val (.list (jj (T.map .int) p q))) (Ic (L G)))))):
  eC W (n+74) vR ah (cE (oI 3)) (ba (oI 3)) Q I (.int i) (CY r b w T P co F tl):=by
 have fc:=hc.free
 cases d<;>induction hc<;>induction ht
 iterate 4 exact Ci [sv 2420200300 h1,sv 2420310450 h2,sc 2430170520 (m:=n+72) (f2 _) (ak fA (ak aZ (ak rfl (ak fc rfl)))) (aR _),sb 2440210251 he] ⋯ k
 all_goals exact Ci [sv 2420200300 h1,sv 2420310450 h2,sc 2430170520 (m:=n+72) (f2 _) (ak fA (ak aZ (ak rfl (ak fc rfl)))) (aR _),sb 2440210251 he,sv 2450260360 h1,sv 2450380520 h2,sp 2450120624 hF] ⋯ k
theorem Y5{i:Nat}(hw:w<4)(iz:co=cW w b)(hi:i+1<P.length)(hP:∀p∈P,0<=p/\p<=T.length)(hT:∀c∈T,c∈aB)(hx:(aM (wk w) T).length<64){s:S}(h:wZ r b w T P co (i::l) s):eC W (n+74) vR ah (cE (oI 3)) (ba (oI 3)) (λf s=>f=.next/\wZ r b w T P co [] s) (wZ r b w T P co l) (.int (0+(i:Int))) s:=by
 induction h with|mk F tl ht hl e=>_
 rw[Int.zero_add]
 rw[fP] at hl
 have Io:i<P.length:=xw hi
 have h3:=Et (hP _ (getD_mem Io)).1 (hP _ (getD_mem Io)).2 (hP _ (getD_mem hi)).1 (hP _ (getD_mem hi)).2
 have h2:=mr hi
 rw[Ac] at h2
 have f2:=λj=>xP (W:=W) (n:=j) (b:=b) (r:=r) hw (di T (P.getD i 0) (P.getD (i+1) 0)) (λc hc=>hT c (Bn hc)) (bq U2 hx)
 have he:=pF (A:=aD r b w (di T (P.getD i 0) (P.getD (i+1) 0))) (B:=di T (P.getD i 0) (P.getD (i+1) 0))
 rw[L,<-h3,<-iz] at f2
 rw[show L (di T (P.getD i 0) (P.getD (i+1) 0))=.list (jj (T.map .int) (P.getD i 0) (P.getD (i+1) 0)) from congrArg V.list h3.symm] at he
 refine abi ht (iz▸oh) (mr Io) h2 f2 (h3▸aR _) he (nk (by rw[aO];lia)) ?_
 rw[yS,xA] at e
 by_cases c:aD r b w (di T (P.getD i 0) (P.getD (i+1) 0))=di T (P.getD i 0) (P.getD (i+1) 0)
 ·rw[if_neg λq=>(of_decide_eq_true q:¬_) c] at e
  rw[decide_eq_true c]
  exact .mk F _ (.s ..) (by lia) e
 ·rw[if_pos (decide_eq_true c),ff,<-Jg,<-aN] at e
  rw[decide_eq_false c]
  have:=wZ.mk (co:=co) _ _ (.s (.int i) (.val (.list (jj (T.map .int) (P.getD i 0) (P.getD (i+1) 0)))) (L (aD r b w (di T (P.getD i 0) (P.getD (i+1) 0))))) (by rw[aX,iY];lia) e
  rw[bZ] at this
  exact this
theorem UJ(hw:w<4)(hT:∀c∈T,c∈aB)(hl:T.length<60)(hx:(aM (wk w) T).length<64):Ca W (n+80) 300 [L T,dat r b,.str (bB w)] [] (.list ((EL r b w T).map bO)) []:=by
 have f1:=λj=>xm (W:=W) (n:=j) (b:=b) (r:=r) hw
 have f2:=λj=>TL (W:=W) (n:=j) (b:=b) (r:=r) hw hT (ct hl (by decide))
 have k9:=places_len (r:=r) (b:=b) (w:=w) (T:=T)
 have k8:=Tt (r:=r) (b:=b) (w:=w) (T:=T)
 rw[EL]
 generalize ef r b w T=P at*
 have hm:((P.map V.int).length:Int)=P.length:=congrArg _ (aO ..)
 have hr:cj 0 ((P.length:Int)-1)=(cb (P.length-1)).map λi:Nat=>V.int (0+(i:Int)):=by
  rw[cj,show((P.length:Int)-1-0).toNat=P.length-1 from(congrArg Eo (DM _)).trans (Ai P.length 1)]
 refine(pT W (I:=wZ r b w T P (cW w b)) (cb (P.length-1)) (λi hi l s h=>Y5 (n:=n+4) hw rfl (by have:=lr.mp hi;lia) k8 hT hx h) (λs h=>⟨rfl,h⟩) (.mk [] [] .z (by rw[g8,j7];lia) rfl)).run W λfl s' q h=>?_
 induction q with
 |intro e i=>
  subst e
  rw[<-hr] at h
  induction i with
  |mk F tl ht jC e=>
   rw[show yS r b w T P []=[] from rfl,bx] at e
   rw[<-e]
   have k:=acG (by rw[hm];exact ZF (bq k9 (ct (qI hl) (by decide)))) (by rw[hm];exact h)
   have go:Sm W (n+79) vR (oI 0) (qu (L T) (dat r b) (.str (bB w)) []) .next (qu (L T) (dat r b) (.str (bB w)) (rR (cW w b) []))->Sm W (n+79) vR (oI 1) (qu (L T) (dat r b) (.str (bB w)) (rR (cW w b) [])) .next (qu (L T) (dat r b) (.str (bB w)) (rR (cW w b) [(n! "places",.val (L P))]))->Ca W (n+80) 300 [L T,dat r b,.str (bB w)] [] (.list (F.map bO)) []:=λk1 k2=>
    v9 rfl rfl (aT k1 (aT k2 (aT (aL [] ⋯) k))) rfl
   cases q2:wz w<;>rw[yz q2] at f1 f2 go
   ·exact go ((aL [sc 2380150480 (m:=n+77) (f1 _) (ak aZ rfl) rfl] ⋯)) ((aL [sc 2390130540 (m:=n+77) (f2 _) (ak (aR _) (ak aZ rfl)) (aR _)] ⋯))
   ·exact go ((aL [sc 2380150480 (m:=n+77) (f1 _) (ak aZ rfl) ia] ⋯)) ((aL [sc 2390130540 (m:=n+77) (f2 _) (ak (aR _) (ak aZ (ak rfl (ak ia rfl)))) (aR _)] ⋯))
end
end
section
noncomputable def HI(cs a sh:V)(tl:List (af×Sl)):S:={vars:=(n! "changes",.val cs)::(n! "at",.val a)::(n! "shift",.val sh)::tl}
noncomputable def w5(b e l:V)(tl:List (af×Sl)):List (af×Sl):=(n! "start",.val b)::(n! "end",.val e)::(n! "codes",.val l)::tl
noncomputable def aem:Cx:=eK PG 314 Gw
noncomputable def NY:Stmt:=st 1 Gw.body
noncomputable def afA:Cx:=eK PG 321 GX
noncomputable def NP:Stmt:=st 1 GX.body
noncomputable def HO(g:V):List (af×Sl):=[(n! "begun",.val g)]
noncomputable def i9:List (Int×Int×List Int)->Int->Int->Int
 |[],a,sh=>a+sh
 |c::r,a,sh=>if a<c.2.1 then(if a<=c.1 then a else c.1)+sh else i9 r a (sh+(c.2.2.length-(c.2.1-c.1)))
noncomputable def jc:List (Int×Int×List Int)->Int->Int->Int
 |[],a,sh=>a-sh
 |c::r,a,sh=>if a<=c.1+sh then a-sh else if a<c.1+sh+c.2.2.length then c.1 else jc r a (sh+(c.2.2.length-(c.2.1-c.1)))
section
variable {W:Ws PG}{n:Nat}{cs a:V}{l:List (Int×Int×List Int)}{v:Int}{f:Int->Int}{g:List (Int×Int×List Int)->Int->Int}{c:Int×Int×List Int}
inductive r6(cs a:V)(v:Int)(P:List (af×Sl)->Prop)(g:List (Int×Int×List Int)->Int->Int)(l:List (Int×Int×List Int)):S->Prop
 |mk (sh:Int) (tl) (ht:P tl) (e:g l sh=v):r6 cs a v P g l (HI cs a (.int sh) tl)
inductive y9(cs a:V)(v:Int)(f:Int->Int):Fl->S->Prop
 |n (sh:Int) (tl) (e:f sh=v):y9 cs a v f .next (HI cs a (.int sh) tl)
 |r (sh:V) (tl):y9 cs a v f (.ret (.int v)) (HI cs a sh tl)
inductive xe:List (af×Sl)->Prop
 |z:xe []
 |s (b e l):xe (w5 b e l [])
inductive zB:List (af×Sl)->Prop
 |z:zB []
 |s (b e l g):zB (w5 b e l (HO g))
theorem aa8{a:Int}{s:S}(h:r6 cs (.int a) v xe (λl sh=>i9 l a sh) (c::l) s):eC W (n+14) aem ah (cE NY) (ba NY) (y9 cs (.int a) v λsh=>a+sh) (r6 cs (.int a) v xe (λl sh=>i9 l a sh) l) (bO c) s:=by
 induction h with
 |mk sh tl ht e=>
  have e:(if a<c.2.1 then(if a<=c.1 then a else c.1)+sh else i9 l a (sh+(c.2.2.length-(c.2.1-c.1))))=v:=e
  by_cases h:a<c.2.1
  ·rw[if_pos h] at e
   subst e
   by_cases h2:a<=c.1
   ·rw[if_pos h2]
    induction ht<;>exact wa [sb 2570160191 (mI h),sb 2580320371 (B6 h2)] ⋯ (.r (.int sh) (w5 (.int c.1) (.int c.2.1) (L c.2.2) []))
   ·rw[if_neg h2]
    induction ht<;>exact wa [sb 2570160191 (mI h),sb 2580320371 (yZ h2)] ⋯ (.r (.int sh) (w5 (.int c.1) (.int c.2.1) (L c.2.2) []))
  ·rw[if_neg h] at e
   induction ht<;>exact mG [sb 2570160191 (nB h)] ⋯ (.mk (sh+((c.2.2.map V.int).length-(c.2.1-c.1))) _ (.s (.int c.1) (.int c.2.1) (L c.2.2)) (by rw[aO];exact e))
theorem abd{a:Int}{s:S}(h:r6 cs (.int a) v zB (λl sh=>jc l a sh) (c::l) s):eC W (n+14) afA ah (cE NP) (ba NP) (y9 cs (.int a) v λsh=>a-sh) (r6 cs (.int a) v zB (λl sh=>jc l a sh) l) (bO c) s:=by
 induction h with
 |mk sh tl ht e=>
  have e:(if a<=c.1+sh then a-sh else if a<c.1+sh+c.2.2.length then c.1 else jc l a (sh+(c.2.2.length-(c.2.1-c.1))))=v:=e
  rw[<-aO V.int] at e
  by_cases h:a<=c.1+sh
  ·rw[if_pos h] at e
   subst e
   induction ht<;>exact wa [sb 2650170221 (B6 h)] ⋯ (.r (.int sh) (w5 (.int c.1) (.int c.2.1) (L c.2.2) (HO (.int (c.1+sh)))))
  ·rw[if_neg h] at e
   by_cases h2:a<c.1+sh+(c.2.2.map V.int).length
   ·rw[if_pos h2] at e
    subst e
    induction ht<;>exact wa [sb 2650170221 (yZ h),sb 2670160341 (mI h2)] ⋯ (.r (.int sh) (w5 (.int c.1) (.int c.2.1) (L c.2.2) (HO (.int (c.1+sh)))))
   ·rw[if_neg h2] at e
    induction ht<;>exact mG [sb 2650170221 (yZ h),sb 2670160341 (nB h2)] ⋯ (.mk (sh+((c.2.2.map V.int).length-(c.2.1-c.1))) _ (.s (.int c.1) (.int c.2.1) (L c.2.2) (.int (c.1+sh))) e)
end
theorem Of{cs a:V}{v:Int}{P:List (af×Sl)->Prop}{g:List (Int×Int×List Int)->Int->Int}(s:S)(h:r6 cs a v P g [] s):y9 cs a v (g []) .next s:=by
 induction h with
 |mk sh tl ht e=>exact .n sh tl e
theorem S0{W:Ws PG}{n:Nat}(cs:List (Int×Int×List Int))(a:Int):Ca W (n+20) 314 [.list (cs.map bO),.int a] [] (.int (i9 cs a 0)) []:=
 (pT W (I:=r6 (.list (cs.map bO)) (.int a) (i9 cs a 0) xe λl sh=>i9 l a sh) cs (λc j l s h=>aa8 (n:=n+4) h) Of (.mk 0 [] .z rfl)).run W λfl s' q h=>by
 induction q with
 |n sh tl e=>exact e▸(bU [eV 2560040433 h] ⋯)
 |r sh tl=>exact bU [eV 2560040433 h] ⋯
theorem Tj{W:Ws PG}{n:Nat}(cs:List (Int×Int×List Int))(a:Int):Ca W (n+20) 321 [.list (cs.map bO),.int a] [] (.int (jc cs a 0)) []:=
 (pT W (I:=r6 (.list (cs.map bO)) (.int a) (jc cs a 0) zB λl sh=>jc l a sh) cs (λc j l s h=>abd (n:=n+4) h) Of (.mk 0 [] .z rfl)).run W λfl s' q h=>by
 induction q with
 |n sh tl e=>exact e▸(bU [eV 2630040433 h] ⋯)
 |r sh tl=>exact bU [eV 2630040433 h] ⋯
end
section
noncomputable def aeb:Cx:=eK PG 307 He
noncomputable def Ox:Stmt:=st 1 He.body
noncomputable def eU{α:Type}(T:List α)(p:Int):List α:=x4 (T.length-jG T.length p) (T.drop (jG T.length p))
noncomputable def cd(tx cs a:V)(F:List V)(tl:List (af×Sl)):S:={vars:=(n! "text",.val tx)::(n! "changes",.val cs)::(n! "at",.val a)::(n! "found",.list F)::tl}
noncomputable def pA(T:List Int):List (Int×Int×List Int)->Int->List Int
 |[],a=>T.drop a.toNat
 |c::r,a=>di T a c.1++c.2.2++pA T r c.2.1
theorem LP{T:List Int}{p:Int}(h0:0<=p)(h1:p<=T.length):eU (T.map V.int) p=(T.drop p.toNat).map .int:=by
 rw[eU,aO,A9 h0 h1,<-List.map_drop,<-Ah,xi (eA (mU ..))]
theorem qY{A B:List V}(h:A.length+B.length<=cG):fg .Add (.list A) (.list B)=U (.list (A++B)):=if_pos h
theorem ET{T:List Int}{p q:Int}:(di T p q).length<=T.length:=by
 rw[di,sl];exact bf (List.length_take_le' ..) (by rw[mU];exact qP ..)
section
variable {W:Ws PG}{n:Nat}{T:List Int}{cs:V}{l L0:List (Int×Int×List Int)}{c:Int×Int×List Int}
def PK(T:List Int)(c:Int×Int×List Int):Prop:=0<=c.1/\c.1<=(T.length:Int)/\0<=c.2.1/\c.2.1<=(T.length:Int)/\c.2.2.length<100
inductive wN(T:List Int)(cs:V)(L0 l:List (Int×Int×List Int)):S->Prop
 |mk (F:List Int) (a:Int) (tl) (ht:xe tl) (h0:0<=a) (h1:a<=(T.length:Int)) (hl:F.length+l.length*200<30000) (e:F++pA T l a=pA T L0 0):wN T cs L0 l (cd (L T) cs (.int a) (F.map .int) tl)
theorem oj{k:Nat}(h:k<40000):k<=cG:=bf (ee h) (by decide+kernel)
theorem Zz{s:S}(hT:T.length<100)(hc:PK T c)(h:wN T cs L0 (c::l) s):eC W (n+14) aeb ah (cE Ox) (ba Ox) (λf s=>f=.next/\wN T cs L0 [] s) (wN T cs L0 l) (bO c) s:=by
 induction h with
 |mk F a tl ht h0 h1 hl e=>
  have h2:=Et h0 h1 hc.1 hc.2.1
  have h3:=ET (T:=T) (p:=a) (q:=c.1)
  have h4:=hc.2.2.2.2
  rw[fP] at hl
  have e:F++(di T a c.1++c.2.2++pA T l c.2.1)=pA T L0 0:=e
  have i:wN T cs L0 l _:=.mk (F++di T a c.1++c.2.2) c.2.1 _ (.s (.int c.1) (.int c.2.1) (L c.2.2)) hc.2.2.1 hc.2.2.2.1 (by rw[aX,aX];lia) (by rw[<-e,aN,aN,aN])
  rw[bZ,bZ,<-h2] at i
  have k1:(F.map V.int).length+(jj (T.map V.int) a c.1).length<=cG:=by rw[h2,aO,aO];exact oj (by lia)
  have k2:(F.map V.int++jj (T.map V.int) a c.1).length+(c.2.2.map V.int).length<=cG:=by rw[h2,aX,aO,aO,aO];exact oj (by lia)
  induction ht<;>exact mG [sp 2500080364 k1,sp 2510080274 k2] ⋯ i
end
theorem SO{W:Ws PG}{n:Nat}{T:List Int}(hT:T.length<100)(cs:List (Int×Int×List Int))(hn:cs.length<100)(hc:∀c∈cs,PK T c):Ca W (n+20) 307 [L T,.list (cs.map bO)] [] (L (pA T cs 0)) []:=
 rD (W:=W) (I:=wN T (.list (cs.map bO)) cs) cs (λc h l s k=>Zz (n:=n+4) hT (hc c h) k) (.mk [] 0 [] .z (gz 0) (fw _) (by rw[j7,fx];exact d9 (Nat.mul_lt_mul_of_pos_right hn (by decide)) (by decide)) rfl) λs' i h=>by
 induction i with
 |mk F a tl ht h0 h1 hl e=>
  have h2:=LP h0 h1
  rw[<-e,show L (F++pA T [] a)=.list (F.map V.int++eU (T.map V.int) a) from congrArg V.list (by rw[bZ,h2];rfl)]
  exact bU [eV 2490040163 h,sr 2530110280 (qY (A:=F.map V.int) (B:=eU (T.map V.int) a) (by rw[h2,aO,aO,mU];exact oj (by lia)))] ⋯
end
section
noncomputable def F9:Cx:=eK PG 286 Hd
noncomputable def BS(i:Nat):Stmt:=st i Hd.body
noncomputable def eZ{α:Type}(T:List α)(q:Int):List α:=x4 (jG T.length q) T
noncomputable def jo(A B d wd co:V)(tl:List (af×Sl)):S:={vars:=(n! "one",.val A)::(n! "other",.val B)::(n! "data",.val d)::(n! "word",.val wd)::(n! "composer",.val co)::tl}
noncomputable def zC(e:V)(tl:List (af×Sl)):List (af×Sl):=(n! "end",.val e)::tl
noncomputable def II(s:V):List (af×Sl):=[(n! "start",.val s)]
section
variable {W:Ws PG}{n:Nat}{cx:Cx}{t:ai}{b:List br}{s s1 s2 s':S}{fl:Fl}
theorem vX(ht:Ts W n cx t s ah s'):iV W n cx t b s .next s':=⟨1,.stop ht rfl⟩
theorem yW(ht:Ts W n cx t s J s1)(hx:Ex W n cx b s1 .next s2)(k:iV W n cx t b s2 fl s'):iV W n cx t b s fl s':=k.elim λm k=>⟨m+1,.turn _ .next _ ht hx k⟩
theorem aeQ(ht:Ts W n cx t s J s1)(hx:Ex W n cx b s1 .brk s'):iV W n cx t b s .next s':=⟨1,.turn _ .brk _ ht hx ⟨rfl,rfl⟩⟩
end
noncomputable def iu(r:Int)(b w:Nat):List Int->Nat
 |[]=>0
 |c::l=>if cF r b w c=J then 0 else iu r b w l+1
noncomputable def jI(r:Int)(b w:Nat)(T:List Int):Nat->Nat
 |0=>0
 |k+1=>if cF r b w (T.getD k 0)=J then k else jI r b w T k
noncomputable def jM(r:Int)(b w:Nat)(A B:List Int):List Int:=
 if iu r b w B=0 then A++B else A.take (jI r b w A A.length)++aD r b w (A.drop (jI r b w A A.length)++B.take (iu r b w B))++B.drop (iu r b w B)
theorem ZW{r:Int}{b w:Nat}{B:List Int}:iu r b w B<=B.length:=by
 induction B with
 |nil=>exact aQ _
 |cons c l ih=>
  rw[show iu r b w (c::l)=if cF r b w c=J then 0 else iu r b w l+1 from rfl]
  split
  ·exact eO _
  ·exact gM ih
theorem We{r:Int}{b w:Nat}{A:List Int}{k:Nat}:jI r b w A k<=k:=by
 induction k with
 |zero=>exact aQ _
 |succ k ih=>
  rw[show jI r b w A (k+1)=if cF r b w (A.getD k 0)=J then k else jI r b w A k from rfl]
  split
  ·exact dm _
  ·exact sC ih
theorem YA{r:Int}{b:Nat}{x:CS}{c:Int}(hc:c∈aB)(hx:∀c∈x.out,c∈aB):∀d∈(dP r b x c).out,d∈aB:=by
 refine m7 (Q:=λy=>∀d∈y.out,d∈aB) (λj=>?_) λs p hs q j=>?_
 ·rw[m8]
  exact λd hd=>(gx.mp hd).elim (hx d) λh=>cK.mp h▸hc
 ·rw[i5 hs] at hx
  rw[i5 rfl]
  exact λd hd=>(gx.mp hd).elim (λh=>hx d (bp _ h)) λh=>(cf.mp h).elim (λh=>h▸Ky q) λh=>hx d (cy _ (.tail _ h))
theorem ME{r:Int}{PL:List ((Int×Int)×Int)}{x:CS}{c:Int}:(ey r PL x c).out.length<=x.out.length+1:=by
 refine m7 (Q:=λy=>y.out.length<=x.out.length+1) (λj=>?_) λs p hs j j=>?_
 ·rw[m8,aX];exact aQ _
 ·rw[i5 hs,i5 rfl,aX,aX];exact dm _
theorem Wq{r:Int}{b:Nat}{l:List Int}:∀{x:CS},(∀c∈l,c∈aB)->(∀c∈x.out,c∈aB)->∀c∈(l.foldl (dP r b) x).out,c∈aB:=by
 induction l with
 |nil=>exact λj h=>h
 |cons c l ih=>exact λhl hx=>ih (λc hc=>hl c (.tail _ hc)) (YA (hl c (.head _)) hx)
theorem Yg{r:Int}{b:Nat}{l:List Int}:∀{x:CS},(l.foldl (dP r b) x).out.length<=x.out.length+l.length:=by
 induction l with
 |nil=>exact aQ _
 |cons c l ih=>
  intro x
  refine bf ih ?_
  rw[fP,kb l.length,<-j9]
  exact uI ME _
theorem qR{r:Int}{b w:Nat}{T:List Int}(hT:∀c∈T,c∈aB):∀c∈aD r b w T,c∈aB:=by
 rw[aD]
 split
 ·exact Wq (AI (ym hT)) λc hc=>by cases hc
 ·exact AI (ym hT)
theorem vg{r:Int}{b w:Nat}(T:List Int):(aD r b w T).length<=(aM (wk w) T).length:=by
 rw[aD]
 split
 ·exact bf Yg (by rw[x7];exact eA (fx _))
 ·rw[x7];exact aQ _
theorem Mt(k:Bool)(A B:List Int):aM k (A++B)=aM k A++aM k B:=Jr
theorem qZ{T:List Int}{q:Nat}(h:q<=T.length):eZ (T.map V.int) (q:Int)=(T.take q).map .int:=by
 rw[eZ,aO,A9 (fw _) (pn.mpr h),nS,Ah]
theorem nf{T:List Int}{p:Nat}(h:p<=T.length):eU (T.map V.int) (p:Int)=(T.drop p).map .int:=by
 rw[LP (fw _) (pn.mpr h),nS]
theorem we{A B:List Int}(h:A.length+B.length<40000):fg .Add (L A) (L B)=U (.list ((A++B).map .int)):=by
 rw[bZ];exact qY (by rw[aO,aO];exact oj h)
section
variable {W:Ws PG}{n b w:Nat}{r:Int}{A B:List Int}{co:V}
noncomputable def jX(r:Int)(b w:Nat)(A B:List Int)(co:V)(tl:List (af×Sl)):S:=jo (L A) (L B) (dat r b) (.str (bB w)) co tl
theorem abO(hw:w<4)(iz:co=cW w b)(hB:∀c∈B,c∈aB):∀(k e:Nat),e+k=B.length->∀N,e+iu r b w (B.drop e)=N->iV W (n+94) F9 (dx (BS 2)) (ba (BS 2)) (jX r b w A B co (zC (.int e) [])) .next (jX r b w A B co (zC (.int N) [])):=by
 have hm:((B.map V.int).length:Int)=B.length:=congrArg _ (aO ..)
 intro k
 induction k with
 |zero=>
  intro e he N hN
  rw[De (by lia)] at hN
  subst hN
  exact vX ((fj [sb 2230160261 (nB ((by rw[hm];lia):¬↑e<((cA V.int B).length:Int)))] ⋯))
 |succ k ih=>
  intro e he N hN
  have hc:=getD_mem (T:=B) (i:=e) (by lia)
  have h1:=mr (T:=B) (i:=e) (by lia)
  have f5:=λj=>uV (W:=W) (n:=j) (b:=b) (r:=r) hw (hB _ hc)
  rw[<-iz] at f5
  have hd:B.drop e=B.getD e 0::B.drop (e+1):=by
   rw[I9 (by lia:e<B.length),j6,gi (by lia:e<B.length)];rfl
  rw[hd,show iu r b w (B.getD e 0::B.drop (e+1))=if cF r b w (B.getD e 0)=J then 0 else iu r b w (B.drop (e+1))+1 from rfl] at hN
  have cX:(e:Int)<((B.map V.int).length:Int):=by rw[hm];lia
  have iz:mE b co:=iz▸oh
  have fc:=iz.free
  cases q:cF r b w (B.getD e 0)<;>rw[q] at f5 hN
  ·have k:=ih (e+1) (by lia) N (by rw[<-hN,if_neg (by decide)];lia)
   clear ih
   induction iz<;>exact yW (Gl [sb 2230160261 (mI cX),sv 2230520620 h1,sc 2230360850 (m:=(n+1)+89) (f5 _) (ak rfl (ak aZ (ak rfl (ak fc rfl)))) rfl] ⋯) (cV [] ⋯) k
  ·subst hN
   clear ih
   induction iz<;>exact vX (fj [sb 2230160261 (mI cX),sv 2230520620 h1,sc 2230360850 (m:=(n+1)+89) (f5 _) (ak rfl (ak aZ (ak rfl (ak fc rfl)))) rfl] ⋯)
theorem YJ{e:V}(hw:w<4)(iz:co=cW w b)(hA:∀c∈A,c∈aB):∀k:Nat,k<=A.length->iV W (n+94) F9 (dx (BS 5)) (ba (BS 5)) (jX r b w A B co (zC e (II (.int k)))) .next (jX r b w A B co (zC e (II (.int (jI r b w A k:Nat))))):=by
 intro k
 induction k with
 |zero=>exact λx=>vX (fj [sb 2280180191 (kJ (a:=0) (b:=0) (by decide))] ⋯)
 |succ k ih=>
  intro hk
  have hc:=getD_mem hk
  have h1:=mr hk
  have f5:=λj=>uV (W:=W) (n:=j) (b:=b) (r:=r) hw (hA _ hc)
  rw[<-iz] at f5
  have hs:((k+1:Nat):Int)-1=(k:Int):=by lia
  have h0:(0:Int)<((k+1:Nat):Int):=by lia
  rw[<-hs] at h1
  have ih:=ih (z6 hk)
  rw[show jI r b w A (k+1)=if cF r b w (A.getD k 0)=J then k else jI r b w A k from rfl]
  rw[<-hs] at ih
  have iz:mE b co:=iz▸oh
  have fc:=iz.free
  cases q:cF r b w (A.getD k 0)<;>rw[q] at f5
  ·rw[if_neg (by decide)]
   induction iz<;>exact yW (Gl [sb 2280180191 (kD h0)] ⋯) (cV [sv 2300270370 h1,sc 2300110600 (m:=(n+1)+90) (f5 _) (ak rfl (ak aZ (ak rfl (ak fc rfl)))) rfl] ⋯) ih
  ·rw[if_pos rfl]
   clear ih
   show iV W (n+94) F9 _ _ _ .next (jX r b w A B _ (zC e (II (.int (k:Int)))))
   rw[<-hs]
   induction iz<;>exact aeQ (Gl [sb 2280180191 (kD h0)] ⋯) (cV [sv 2300270370 h1,sc 2300110600 (m:=(n+1)+90) (f5 _) (ak rfl (ak aZ (ak rfl (ak fc rfl)))) rfl] ⋯)
theorem Lc(hw:w<4)(hA:∀c∈A,c∈aB)(hB:∀c∈B,c∈aB)(lA:A.length<100)(lB:B.length<100)(hx:(aM (wk w) A).length+(aM (wk w) B).length<64):Ca W (n+100) 286 [L A,L B,dat r b,.str (bB w),cW w b] [] (L (jM r b w A B)) []:=by
 have f0:=λj=>zT (W:=W) (n:=j) (b:=b) (r:=r) hw
 have k2:=abO (W:=W) (n:=n+4) (A:=A) hw rfl hB B.length 0 (fx _) (iu r b w B) (by rw[xG,fx])
 have fc:=AQ (w:=w) (b:=b)
 have hc:=oh (w:=w) (b:=b)
 have hE:=ZW (r:=r) (b:=b) (w:=w) (B:=B)
 rw[jM]
 by_cases c:iu r b w B=0
 ·rw[if_pos c]
  rw[c] at k2
  have hX:=we (ct (Af lA lB) (by decide))
  generalize cW w b=co at*
  induction hc<;>exact bU [sc 2210150520 (m:=n+97) (f0 _) (ak aZ (ak rfl (ak fc rfl))) fc,sw 2230040163 k2,sr 2260150260 hX] ⋯
 ·rw[if_neg c]
  have hS:=We (r:=r) (b:=b) (w:=w) (A:=A) (k:=A.length)
  have k5:=YJ (W:=W) (n:=n+4) (r:=r) (B:=B) (co:=cW w b) (e:=.int (iu r b w B:Nat)) hw rfl hA A.length (aQ _)
  generalize jI r b w A A.length=S at*
  generalize iu r b w B=E at*
  have x1:(aM (wk w) (A.drop S++B.take E)).length<64:=by
   have y1:=A5 (k:=wk w) (Dq S A)
   have y2:=A5 (k:=wk w) (List.take_sublist E B)
   rw[Mt,aX];exact bq (sH y1 y2) hx
  have f2:=λj=>xP (W:=W) (n:=j) (b:=b) (r:=r) hw (A.drop S++B.take E) (λc hc=>(gx.mp hc).elim (λh=>hA c (uH h)) λh=>hB c (xn h)) x1
  have x2:=bq (vg (r:=r) (b:=b) (w:=w) (A.drop S++B.take E)) x1
  generalize aD r b w (A.drop S++B.take E)=M at*
  have hX:fg .Add (.list (eU (A.map .int) S)) (.list (eZ (B.map .int) E))=U (.list ((A.drop S++B.take E).map .int)):=by
   rw[nf hS,qZ hE];exact we (by rw[mU,qH];exact ct (Af (bq (qP ..) lA) (bq (sE ..) lB)) (by decide))
  have hY:fg .Add (.list (eZ (A.map .int) S)) (L M)=U (.list ((A.take S++M).map .int)):=by
   rw[qZ hS];exact we (by rw[qH];exact ct (Af (bq (sE ..) lA) x2) (by decide))
  have hC:fg .Add (L (A.take S++M)) (.list (eU (B.map .int) E))=U (.list ((A.take S++M++B.drop E).map .int)):=by
   rw[nf hE];exact we (by rw[aX,qH,mU];exact ct (Af (Af (bq (sE ..) lA) x2) (bq (qP ..) lB)) (by decide))
  rw[<-aO (f:=V.int)] at k5
  generalize cW w b=co at*
  induction hc<;>exact bU [sc 2210150520 (m:=n+97) (f0 _) (ak aZ (ak rfl (ak fc rfl))) fc,sw 2230040163 k2,sb 2250140151 (oQ λe=>c (Int.ofNat_eq_zero.mp e)),sw 2280040173 k5,sr 2320330580 hX,sc 2320250810 (m:=n+95) (f2 _) (ak (aR _) (ak aZ (ak rfl (ak fc rfl)))) (aR _),sr 2320110810 hY,sr 2320110950 hC] ⋯
end
end
noncomputable def Cd(r:Int)(b w:Nat)(T:List Int)(a:Nat)(M:List Int):List Int:=jM r b w (jM r b w (T.take a) (aD r b w M)) (T.drop a)
theorem n5{A B:List Int}(hA:∀c∈A,c∈aB)(hB:∀c∈B,c∈aB):∀c∈A++B,c∈aB:=λc hc=>(gx.mp hc).elim (hA c) (hB c)
theorem qV{A:List Int}{k:Nat}(hA:∀c∈A,c∈aB):∀c∈A.take k,c∈aB:=λc hc=>hA c (xn hc)
theorem x6{A:List Int}{k:Nat}(hA:∀c∈A,c∈aB):∀c∈A.drop k,c∈aB:=λc hc=>hA c (uH hc)
theorem K8{r:Int}{b w:Nat}{A B:List Int}(hA:∀c∈A,c∈aB)(hB:∀c∈B,c∈aB):∀c∈jM r b w A B,c∈aB:=by
 rw[jM]
 split
 ·exact n5 hA hB
 ·exact n5 (n5 (qV hA) (qR (n5 (x6 hA) (qV hB)))) (x6 hB)
theorem TZ{W:Ws PG}{n b w a:Nat}{r:Int}{T M:List Int}(hw:w<4)(hT:∀c∈T,c∈aB)(hM:∀c∈M,c∈aB)(ha:a<=T.length)(lT:T.length<90)(lM:(aM (wk w) M).length<10)(l1:(aM (wk w) (T.take a)).length+(aM (wk w) (aD r b w M)).length<64)
  (l2:(aM (wk w) (jM r b w (T.take a) (aD r b w M))).length+(aM (wk w) (T.drop a)).length<64) (l3:(jM r b w (T.take a) (aD r b w M)).length<100):Ca W (n+110) 293 [L T,.int a,L M,dat r b,.str (bB w)] [] (L (Cd r b w T a M)) []:=by
 have h0:=λj=>xm (W:=W) (n:=j) (b:=b) (r:=r) hw
 have h1:=λj=>xP (W:=W) (n:=j) (b:=b) (r:=r) hw M hM (ct lM (by decide))
 have m1:=qR (r:=r) (b:=b) (w:=w) hM
 have n1:=bq (vg (r:=r) (b:=b) M) lM
 have h2:=λj=>Lc (W:=W) (n:=j) (b:=b) (r:=r) hw (qV hT) m1 (by rw[qH];lia) (by lia) l1
 have h3:=λj=>Lc (W:=W) (n:=j) (b:=b) (r:=r) hw (K8 (qV hT) m1) (x6 hT) l3 (by rw[mU];lia) l2
 rw[show L (T.take a)=.list (eZ (T.map .int) (a:Int)) from congrArg V.list (qZ ha).symm] at h2
 rw[show L (T.drop a)=.list (eU (T.map .int) (a:Int)) from congrArg V.list (nf ha).symm] at h3
 have g1:V.bI (eZ (T.map V.int) (a:Int))=true:=by rw[qZ ha];exact aR _
 have g2:V.bI (eU (T.map V.int) (a:Int))=true:=by rw[nf ha];exact aR _
 cases q:wz w<;>rw[yz q] at h0 h1 h2 h3
 ·exact bU [sc 2340150480 (m:=n+107) (h0 _) (ak aZ rfl) rfl,sc 2350130480 (m:=n+107) (h1 _) (ak (aR _) (ak aZ rfl)) (aR _),sc 2360180650 (m:=n+106) (h2 _) (ak g1 (ak (aR _) (ak aZ rfl))) (aR _),sc 2360110990 (m:=n+107) (h3 _) (ak (aR _) (ak g2 (ak aZ rfl))) (aR _)] ⋯
 ·exact bU [sc 2340150480 (m:=n+107) (h0 _) (ak aZ rfl) ia,sc 2350130480 (m:=n+107) (h1 _) (ak (aR _) (ak aZ (ak rfl (ak ia rfl)))) (aR _),sc 2360180650 (m:=n+106) (h2 _) (ak g1 (ak (aR _) (ak aZ (ak rfl (ak ia rfl))))) (aR _),sc 2360110990 (m:=n+107) (h3 _) (ak (aR _) (ak g2 (ak aZ (ak rfl (ak ia rfl))))) (aR _)] ⋯
noncomputable def CB(l:List V)(x:Int):List M:=[.list l,.dict [.str (n! "left"),.str (n! "mixed")] [.cell 0,.int x]]
theorem dr0{W:Ws PG}{n:Nat}{k x:Int}(hk:fg .Mod (.int ((x*4801+97)%1000003/7)) (.int k)=U (.val (.int (((x*4801+97)%1000003/7)%k)))):Ca W (n+20) 470 [.cell 1,.int k] (CB [] x) (.int (((x*4801+97)%1000003/7)%k)) (CB [] ((x*4801+97)%1000003)):=bU [sr 3850110360 hk] ⋯
noncomputable abbrev jt(d:List Int×Int):List M:=CB (d.1.map .int) d.2
noncomputable def cS(d:List Int×Int)(k:Int):Int×(List Int×Int):=match d.1 with
 |c::l=>(c%k,(l,d.2))
 |[]=>((d.2*4801+97)%1000003/7%k,([],(d.2*4801+97)%1000003))
theorem pK{W:Ws PG}{n:Nat}{k:Int}(hk:0<k)(d:List Int×Int):Ca W (n+20) 470 [.cell 1,.int k] (jt d) (.int (cS d k).1) (jt (cS d k).2):=by
 have hm:∀a:Int,fg .Mod (.int a) (.int k)=U (.val (.int (a%k))):=λa=>if_pos hk
 induction d with
 |mk l x=>induction l with
  |nil=>exact dr0 (hm _)
  |cons c l=>exact bU [sb 3820230251 (((pF (A:=c::l) (B:=[])).trans (by rw[decide_eq_false (uO c l)];rfl)):bC .NotEq (.list (.int c::(cA V.int l))) (.list [])=U J),sr 3830150410 ((hm _):fg .Mod (.int c) (.int k)=U (.val (.int (c%k))))] ⋯
theorem ml{d:List Int×Int}{k:Int}(hk:0<k):0<=(cS d k).1/\(cS d k).1<k:=by
 unfold cS
 split<;>exact⟨Int.emod_nonneg _ (mW hk),Int.emod_lt_of_pos _ hk⟩
noncomputable def mix(m:Int)(c:Int):Int:=(m*31+c+7)%1000003
noncomputable def pU(T:List Int):List Int×Int:=((T.take 24).map λc=>c%1000003,((T.take 24).map λc=>c%1000003).foldl mix 2003)
theorem abR(W:Ws PG){n c:Nat}{cx:Cx}{t:ai}{b:List br}{xs:List V}{Q:Fl->S->Prop}{I:List V->S->Prop}(hm:∀l s,I l s->(s.mem[c]?).bind M.gb=U xs)(hstep:∀a l s,I (a::l) s->eC W n cx ah t b Q (I l) a s)(rE:∀s,I [] s->Q .next s)(l:List V):
  ∀(pr:List V) {s:S},xs=pr++l->I l s->∃m fl s',Q fl s'/\l6 W.w W.K W.mg W.mb n cx (.cell c) t b fl s' m pr.length s:=by
 have ha:∀l s i,I l s->(It.cell c).at i s=U (xs[i]?):=λl s i h=>by
  show((s.mem[c]?).bind M.gb).map (λxs=>(xs[i]?).map λv=>v)=_
  rw[hm l s h];exact congrArg U (Option.map_id' ..)
 induction l with
 |nil=>exact λpr s e h=>⟨1,.next,s,rE _ h,.stop ((ha _ _ _ h).trans (by rw[e,bx];exact congrArg U (kZ (aQ _)))) rfl rfl⟩
 |cons a l ih=>
  intro pr s e h
  have hv:=(ha _ _ pr.length h).trans (congrArg U (e▸tA pr a l))
  have go:=λs2 (h:I l s2)=>ih (pr++[a]) (by rw[e,aN];rfl) h
  rw[aX] at go
  refine hstep a l s h _ λs1 f s2 hb hx ht=>?_
  induction f with
  |next=>exact(go s2 ht).elim λm k=>k.elim λfl k=>k.elim λs' k=>⟨m+1,fl,s',k.1,.item a s1 .next s2 hv hb hx k.2⟩
  |cont=>exact(go s2 ht).elim λm k=>k.elim λfl k=>k.elim λs' k=>⟨m+1,fl,s',k.1,.item a s1 .cont s2 hv hb hx k.2⟩
  |brk=>exact⟨1,.next,s2,ht,.item a s1 .brk s2 hv hb hx ⟨rfl,rfl⟩⟩
  |ret v=>exact⟨1,.ret v,s2,ht,.item a s1 (.ret v) s2 hv hb hx ⟨rfl,rfl⟩⟩
noncomputable def tN:Cx:=eK PG 463 Ho
noncomputable def oH(i:Nat):Stmt:=st i Ho.body
noncomputable def Gb:Expr:=((pX (dx (oH 0))).bind λq=>q.1[0]?).getD (dx (oH 0))
noncomputable def qr(T m:V)(l:Sl)(tl:List (af×Sl))(M:List M):S:={vars:=(n! "script",.val T)::(n! "mixed",.val m)::(n! "left",l)::tl,mem:=M}
noncomputable def CU(c:V):List (af×Sl):=[(n! "cell",.val c)]
theorem acX{W:Ws PG}{n:Nat}{T l:List V}{m:V}{s':S}(h:iS W (n+18) tN (.cell 0) (cE (oH 1)) (ba (oH 1)) (qr (.list T) m (.val (.cell 0)) [] [.list l]) .next s'):Sm W (n+19) tN (oH 1) (qr (.list T) m (.list l) [] []) .next s':=aL [eV 3780040493 h] ⋯
theorem M5{W:Ws PG}{n:Nat}{m c:Int}{T l:V}{M:List M}:Ex W (n+14) tN (ba (oH 1)) (qr T (.int m) (.val l) (CU (.int c)) M) .next (qr T (.int ((m*31+c+7)%1000003)) (.val l) (CU (.int c)) M):=cV [] ⋯
theorem adj{W:Ws PG}{n:Nat}{m:Int}{T:V}{l:List V}{tl:List (af×Sl)}:Ex W (n+19) tN [oH 2] (qr T (.int m) (.val (.cell 0)) tl [.list l]) (.ret (.cell 1)) (qr T (.int m) (.val (.cell 0)) tl (CB l m)):=cV [] ⋯
theorem F4{W:Ws PG}{n a:Nat}{f:bb}{vs:List V}{b:List (af×Sl)}{v:V}{m:List M}{s':S}(hf:PG.fn a=U f)(hb:vT f.params vs f.defaults=U b)(hx:Ex W n (eK PG a f) f.body {vars:=b,mem:=m} (.ret v) s'):Ca W (n+1) a vs m v s'.mem:=C5 (W.hf a f hf) hb hx (.inl rfl)
inductive xb(T:V)(l0:List Int):List V->S->Prop
 |mk (m:Int) (z:List Int) (tl) (ht:tl=[]\/∃c,tl=CU c) (e:z.foldl mix m=l0.foldl mix 2003):xb T l0 (z.map .int) (qr T (.int m) (.val (.cell 0)) tl [.list (l0.map .int)])
theorem Xx{W:Ws PG}{n:Nat}{T:V}{l0:List Int}{a:V}{l:List V}{s:S}(h:xb T l0 (a::l) s):eC W (n+14) tN ah (cE (oH 1)) (ba (oH 1)) (λf s=>f=.next/\xb T l0 [] s) (xb T l0 l) a s:=by
 generalize e:a::l=al at h
 induction h with
 |mk m z tl ht e2=>
  cases z with
  |nil=>cases e
  |cons c z=>
   cases e
   have i:xb T l0 (z.map .int) (qr T (.int (mix m c)) (.val (.cell 0)) (CU (.int c)) [.list (l0.map .int)]):=.mk (mix m c) z _ (.inr ⟨_,rfl⟩) e2
   induction ht with
   |inl h=>subst h;exact λQ_ k_=>k_ _ _ _ (f7 [] ⋯) M5 i
   |inr h=>induction h with
    |intro c' h=>subst h;exact λQ_ k_=>k_ _ _ _ (f7 [] ⋯) M5 i
theorem Z3{W:Ws PG}{n:Nat}(T:List Int):Ca W (n+20) 463 [L T] [] (.cell 1) (jt (pU T)):=by
 have hs:eZ (T.map V.int) 24=(T.take 24).map .int:=by
  rw[eZ,Ah]
  have:jG (T.map V.int).length 24=min 24 (T.map V.int).length:=L4 _ 24
  rw[this]
  cases Nat.le_total 24 (T.map V.int).length with
  |inl h=>rw[xE h]
  |inr h=>rw[Dw h,xi (aQ _),xi h]
 refine(pS W (n:=n+17) (cx:=dk tN Gb) (p:=ah) (elt:=dg Gb) (t:=(bF Gb).target) (s:={vars:=[(n! "script",.val (L T))]}) (u:=λc=>.int (c%1000003)) (bs:=λc=>[(n! "cell",.int c)]) (l:=T.take 24) (λc j=>⟨rfl,jd ((jf [] ⋯))⟩) []).elim λc' h=>?_
 rw[<-hs,show(T.take 24).map (λc=>V.int (c%1000003))=((T.take 24).map λc=>c%1000003).map V.int from(vA ..).symm] at h
 have h0:=(aL [sm 3770190643 h] ⋯:Sm W (n+19) tN (oH 0) {vars:=[(n! "script",.val (.list (cA V.int T)))]} .next (qr (.list (cA V.int T)) (.int 2003) (.list (cA V.int (cA (λc=>c%1000003) (x4 24 T)))) [] []))
 generalize el:(T.take 24).map (λc=>c%1000003)=l0 at h0
 rw[pU,el]
 refine(abR W (c:=0) (I:=xb (L T) l0) (λl s h=>by induction h;rfl) (λa l s h=>Xx (n:=n+4) h) (λs h=>⟨rfl,h⟩) (l0.map .int) [] rfl (.mk 2003 l0 [] (.inl rfl) rfl)).elim λm k=>k.elim λfl k=>k.elim λs' k=>?_
 induction k with
 |intro q k=>induction q with
  |intro e i=>
   subst e
   generalize e:([]:List V)=z0 at i
   induction i with
   |mk m z tl ht e2=>
    induction z with
    |cons _ _=>cases e
    |nil=>
     rw[<-e2]
     exact F4 rfl rfl (aT h0 (aT (acX ⟨_,k⟩) adj))
noncomputable def y4{α σ:Type}(u:α->σ->V)(nx:α->σ->σ)(l:List α):σ->List V×σ:=List.rec (λx=>([],x)) (λa j ih x=>(u a x::(ih (nx a x)).1,(ih (nx a x)).2)) l
theorem af0(W:Ws PG){n:Nat}{cx:Cx}{p:Bool}{elt t:ai}{α σ:Type}{enc:α->V}{u:α->σ->V}{nx:α->σ->σ}{St:σ->List (af×V)->S}(l:List α)(h:∀a x c,∃bs,bindC cx p t (enc a)=U bs/\Va W n cx elt {St x c with cv:=bs} (u a x) (St (nx a x) bs)):∀(pr:List V) (x:σ) (c:List (af×V)),
  ∃m c',jg W.w W.K W.mg W.mb n cx (.items p (pr++l.map enc)) elt t [] (St (y4 u nx l x).2 c') m pr.length (St x c) (y4 u nx l x).1:=by
 induction l with
 |nil=>exact λpr x c=>⟨1,c,.stop (sT (by rw[DL,bx];exact kZ (aQ _))) rfl rfl⟩
 |cons a l ih=>
  intro pr x c
  have ha:(It.items p (pr++(a::l).map enc)).at pr.length (St x c)=U (U (enc a)):=sT (tA pr (enc a) (l.map enc))
  have:=λbs=>ih (pr++[enc a]) (nx a x) bs
  rw[aN,aX] at this
  exact(h a x c).elim λbs k=>(this bs).elim λm q=>q.elim λc' q=>⟨m+1,c',.take (enc a) bs _ _ _ _ ha k.1 oC k.2 q rfl⟩
noncomputable def OM:Cx:=eK PG 475 GF
noncomputable def tO:Expr:=dx (st 0 GF.body)
noncomputable def so(le ma:V)(d:List Int×Int)(c:List (af×V)):S:={vars:=[(n! "deck",.val (.cell 1)),(n! "least",.val le),(n! "many",.val ma)],cv:=c,mem:=jt d}
theorem ahH{W:Ws PG}{n:Nat}{le ma i:V}{v c:Int}{d d':List Int×Int}(h:∀j,Cv W (j+20) 470 [.cell 1,.int 17] (so le ma d [(n! "go",i)]) (.int v) (so le ma d' [(n! "go",i)]))(hc:cC (.tup (codes.map .int)) (.int v)=U (.int c)):Ev W (n+33) (dk OM tO) (dg tO) (so le ma d [(n! "go",i)]) (.val (.int c)) (so le ma d' [(n! "go",i)]):=jf [sy 3870230420 (m:=n+31) (h _),sv 3870120430 hc] ⋯
theorem ahp{W:Ws PG}{n:Nat}{le v many:Int}{d d' d2:List Int×Int}{l:List V}{c':List (af×V)}(h:∀j,Cv W (j+20) 470 [.cell 1,.int many] (so (.int le) (.int many) d []) (.int v) (so (.int le) (.int many) d' []))(hr:ja 0 (le+v)=U (.items ah (cj 0 (le+v))))(h2:dB W (n+37) (dk OM tO) (.items ah (cj 0 (le+v))) (dg tO) (bF tO).target (bF tO).ifs (so (.int le) (.int many) d' []) l (so (.int le) (.int many) d2 c')):Ca W (n+40) 475 [.cell 1,.int le,.int many] (jt d) (.list l) (jt d2):=bU [sy 3870680890 (m:=n+35) (h _),sp 3870540900 hr,sm 3870110913 h2] ⋯
noncomputable def CA(i:Int):Int:=codes.getD i.toNat 0
theorem code_at{i:Int}(h0:0<=i)(h1:i<17):cC (.tup (codes.map .int)) (.int i)=U (.int (CA i)):=by
 have:=mr (T:=codes) (by show i.toNat<17;lia)
 rw[uJ h0] at this
 exact this
theorem abb{i:Int}(h0:0<=i)(h1:i<17):CA i∈codes:=getD_mem (by show i.toNat<17;lia)
noncomputable def tH:Nat->List Int×Int->List Int×(List Int×Int)
 |0,d=>([],d)
 |k+1,d=>(CA (cS d 17).1::(tH k (cS d 17).2).1,(tH k (cS d 17).2).2)
noncomputable def rA(d:List Int×Int)(least many:Int):List Int×(List Int×Int):=tH (least+(cS d many).1).toNat (cS d many).2
theorem VV{α:Type}(l:List α):∀d:List Int×Int,y4 (λ(_:α) d=>V.int (CA (cS d 17).1)) (λj d=>(cS d 17).2) l d=((tH l.length d).1.map V.int,(tH l.length d).2):=by
 induction l with
 |nil=>exact λd=>rfl
 |cons a l ih=>
  intro d
  show(V.int _::(y4 _ _ l _).1,(y4 _ _ l _).2)=_
  rw[ih];rfl
theorem MZ{W:Ws PG}{n:Nat}{least many:Int}(hl:0<=least/\least<100)(hk:0<many/\many<100)(d:List Int×Int):Ca W (n+40) 475 [.cell 1,.int least,.int many] (jt d) (L (rA d least many).1) (jt (rA d least many).2):=by
 have hr:=ml (d:=d) hk.1
 have hv:cj 0 (least+(cS d many).1)=(cb (least+(cS d many).1).toNat).map λi:Nat=>V.int (0+(i:Int)):=by rw[cj,DM]
 have k:=af0 W (p:=ah) (t:=(bF tO).target) (St:=λd c=>so (.int least) (.int many) d c) (cb (least+(cS d many).1).toNat) (λa x c=>⟨[(n! "go",.int (0+(a:Int)))],rfl,by
  have RD:=ml (d:=x) (k:=17) (by decide)
  exact jd (ahH (n:=n+4) (λj=>ij (pK (by decide) x)) (code_at RD.1 RD.2))⟩) [] (cS d many).2 []
 rw[VV,g8] at k
 rw[gk,<-hv] at k
 exact k.elim λm k=>k.elim λc' k=>ahp (λj=>ij (pK hk.1 d)) (AP (gz 0) (by decide) (by lia) (by lia)) ⟨m,k⟩
noncomputable def td(d:List Int×Int)(tl:List (af×Sl)):S:={vars:=(n! "deck",.val (.cell 1))::tl,mem:=jt d}
theorem told{W:Ws PG}{n:Nat}{d d1 d2:List Int×Int}{v1 v2 r:Int}{l:List V}(h1:∀j,Cv W (j+20) 470 [.cell 1,.int 3] (td d []) (.int v1) (td d1 []))(e1:cC (.tup [.int 220,.int 230,.int 202]) (.int v1)=U (.int r))(h2:∀j,Cv W (j+20) 470 [.cell 1,.int 3] (td d1 [(n! "ranks",.val (pQ r)),(n! "goals",.val pR)]) (.int v2) (td d2 [(n! "ranks",.val (pQ r)),(n! "goals",.val pR)]))(e2:cC (.list [.list [],.list [.int 192],.list [.int 194]]) (.int v2)=U (.list l))(hz:fg .Add (.list [.int 2392]) (.list l)=U (.list (.int 2392::l)))(hl:V.bI l=J):Ca W (n+40) 482 [.cell 1] (jt d) (.tup [pQ r,pR,.list (.int 2392::l)]) (jt d2):=bU [sy 3890440620 (m:=n+35) (h1 _),sv 3890280630 e1,sy 3910540720 (m:=n+34) (h2 _),sv 3910350730 e2,sr 3910260730 hz] ⋯
noncomputable def r3(i:Int):Int:=([220,230,202]:List Int).getD i.toNat 0
theorem three{P:Int->Prop}(h0:P 0)(h1:P 1)(h2:P 2){i:Int}(a:0<=i)(b:i<3):P i:=by
 have:i=0\/i=1\/i=2:=by lia
 exact this.elim (λe=>e▸h0) λh=>h.elim (λe=>e▸h1) λe=>e▸h2
theorem O3{i:Int}(h0:0<=i)(h1:i<3):eW (r3 i)/\cC (.tup [.int 220,.int 230,.int 202]) (.int i)=U (.int (r3 i)):=
 three (P:=λi=>eW (r3 i)/\cC (.tup [.int 220,.int 230,.int 202]) (.int i)=U (.int (r3 i))) ⟨.inl rfl,rfl⟩ ⟨.inr (.inl rfl),rfl⟩ ⟨.inr (.inr rfl),rfl⟩ h0 h1
theorem aeH{i:Int}(h0:0<=i)(h1:i<3):∃l:List Int,cC (.list [.list [],.list [.int 192],.list [.int 194]]) (.int i)=U (L l)/\oJ i.toNat=2392::l/\l.length<=1:=
 three (P:=λi=>∃l:List Int,cC (.list [.list [],.list [.int 192],.list [.int 194]]) (.int i)=U (L l)/\oJ i.toNat=2392::l/\l.length<=1) ⟨[],rfl,rfl,by decide⟩ ⟨[192],rfl,rfl,by decide⟩ ⟨[194],rfl,rfl,by decide⟩ h0 h1
theorem ZT{W:Ws PG}{n:Nat}(d:List Int×Int):Ca W (n+40) 482 [.cell 1] (jt d) (.tup [pQ (r3 (cS d 3).1),pR,L (oJ (cS (cS d 3).2 3).1.toNat)]) (jt (cS (cS d 3).2 3).2):=by
 have q1:=ml (d:=d) (k:=3) (by decide)
 have q2:=ml (d:=(cS d 3).2) (k:=3) (by decide)
 exact(aeH q2.1 q2.2).elim λl h=>by
  rw[h.2.1]
  exact told (λj=>ij (pK (by decide) d)) (O3 q1.1 q1.2).2 (λj=>ij (pK (by decide) _)) h.1 (we (A:=[2392]) (bq (gd h.2.2 _) (by decide))) (aR _)
theorem mH{W:Ws PG}{n a:Nat}{vs:List V}{v:V}(hf:V.bI vs=J)(h:(run W (hn []) n).ca a vs [] (λu m=>(deep 20 u m).map (·.1)=U v)=(U v=U v))(s:S):Cv W n a vs s v s:=
 (oe W (hn []) n).ca (Eq.mpr h rfl) λu m hc hd=>(dw.mp hd).elim λq k=>A7 hf hc (k.1.trans (congrArg U (show q=(v,q.2) from k.2▸rfl)))
def dR(r:Int):Prop:=∀(W:Ws PG) (n:Nat) (s:S) (b:Nat),Cv W (n+60) 489 [pQ r,pR,L (oJ b)] s (dat r b) s
theorem dR0:dR 220:=λW n s j=>match j with
 |0=>mH ⋯ ⋯ s
 |1=>mH ⋯ ⋯ s
 |_+2=>mH ⋯ ⋯ s
theorem dR1:dR 230:=λW n s j=>match j with
 |0=>mH ⋯ ⋯ s
 |1=>mH ⋯ ⋯ s
 |_+2=>mH ⋯ ⋯ s
theorem dR2:dR 202:=λW n s j=>match j with
 |0=>mH ⋯ ⋯ s
 |1=>mH ⋯ ⋯ s
 |_+2=>mH ⋯ ⋯ s
theorem YD{W:Ws PG}{n:Nat}{r:Int}(hr:eW r)(s:S):∀b,Cv W (n+60) 489 [pQ r,pR,L (oJ b)] s (dat r b) s:=
 hr.elim (λe=>e▸dR0 W n s) λh=>h.elim (λe=>e▸dR1 W n s) λe=>e▸dR2 W n s
theorem Wj{W:Ws PG}{n:Nat}{r:Int}(s:S):∀b,Cv W (n+60) 501 [pQ r,pR,L (oJ b)] s (pairD b) s
 |0=>mH ⋯ ⋯ s
 |1=>mH ⋯ ⋯ s
 |_+2=>mH ⋯ ⋯ s
noncomputable def gK:List V:=([192,193,194,199,8490,2392,64256,170,171,836]:List Int).map .int
noncomputable def gV:List V:=[tg "" [97,768],tg "" [97,803],tg "" [193,768],tg "" [98,100],tg "" [99],tg "" [98,768],tg "compat" [98,98],tg "compat" [768,803],tg "compat" [768,98,803],tg "" [768,837]]
noncomputable def rK:List V:=([768,803,837,836]:List Int).map .int
noncomputable def rV(r:Int):List V:=[.int 230,.int r,.int 240,.int 230]
noncomputable def ny:Cx:=eK PG 496 G0
noncomputable def mD(i:Nat):Stmt:=st i G0.body
noncomputable def ap(ra tx:V)(k:Bool)(F l:List V)(tl:List (af×Sl)):S:={vars:=(n! "ranks",.val ra)::(n! "goals",.val (.dict gK gV))::(n! "text",.val tx)::(n! "is_compat",.val (.bool k))::(n! "found",.list F)::(n! "left",.list l)::tl}
noncomputable def ua(t g:V):List (af×Sl):=[(n! "tag",.val t),(n! "goal",.val g)]
noncomputable def wt(k:Bool)(c:Int):Nat:=if c=192\/c=193\/c=199\/c=2392\/c=836 then 3 else if c=194 then 5 else if c=8490 then 2 else if k=J/\(c=64256\/c=170) then 3 else if k=J/\c=171 then 4 else 1
noncomputable def kT(k:Bool)(l:List Int):Nat:=(l.map (wt k)).sum
noncomputable def gL:List (Int×Bool×List Int):=[(192,ah,[97,768]),(193,ah,[97,803]),(194,ah,[193,768]),(199,ah,[98,100]),(8490,ah,[99]),(2392,ah,[98,768]),(64256,J,[98,98]),(170,J,[768,803]),(171,J,[768,98,803]),(836,ah,[768,837])]
noncomputable def FV(c:Int):Option (Bool×List Int):=(gL.find? λq=>aJ (q.1=c)).map (·.2)
noncomputable def agp(q:Bool×List Int):V:=.tup [.str (if q.1=J then n! "compat" else n! ""),.tup (q.2.map .int)]
theorem Xp:∀c∈aB,gs (.int c) gK gV=U ((FV c).map agp):=yn ⋯
noncomputable def Rg(k:Bool)(c:Int):Bool:=match FV c with
 |none=>aJ (ex k c=[c])
 |some q=>if q.1=J/\k=ah then aJ (ex k c=[c]) else aJ (ex k c=aM k q.2/\kT k q.2<wt k c/\q.2.length<=3/\∀d∈q.2,d∈aB)
theorem Fg{k:Bool}:∀c∈aB,Rg k c=J/\0<wt k c:=by
 induction k
 ·exact lu (by decide+kernel)
 ·exact lu (by decide+kernel)
theorem Er{k:Bool}{c:Int}{l:List Int}:kT k (c::l)=wt k c+kT k l:=List.sum_cons
theorem aba{k:Bool}{a l:List Int}:kT k (a++l)=kT k a+kT k l:=by rw[kT,bZ,List.sum_append];rfl
theorem MJ{k:Bool}{l:List Int}:(∀c∈l,c∈aB)->l.length<=kT k l:=by
 induction l with
 |nil=>exact λj=>aQ _
 |cons c l ih=>
  intro h
  rw[fP,Er,kb]
  exact sH (Fg c (h c (.head _))).2 (ih λc hc=>h c (.tail _ hc))
inductive zy:List (af×Sl)->Prop
 |z:zy []
 |s (t g):zy (ua t g)
noncomputable abbrev mP(ra tx:V)(k:Bool)(F l:List Int)(tl:List (af×Sl)):S:=ap ra tx k (F.map .int) (l.map .int) tl
inductive ApS(W:Ws PG)(n:Nat)(ra tx:V)(k:Bool)(c:Int)(F l:List Int)(tl:List (af×Sl)):Prop
 |keep (e:ex k c=[c]) (t g:V) (h:Ex W (n+34) ny (ba (mD 1)) (mP ra tx k F (c::l) tl) .next (mP ra tx k (F++[c]) l (ua t g)))
 |put (z:List Int) (hz:ex k c=aM k z/\kT k z<wt k c/\z.length<=3/\∀d∈z,d∈aB) (t g:V) (h:Ex W (n+34) ny (ba (mD 1)) (mP ra tx k F (c::l) tl) .next (mP ra tx k F (z++l) (ua t g)))
theorem NB{z l:List Int}{c:Int}(hz:z.length<=3)(hl:l.length<1000):fg .Add (.list (z.map .int)) (.list (eU (.int c::l.map .int) 1))=U (.list ((z++l).map .int)):=by
 rw[show eU (V.int c::l.map V.int) 1=l.map V.int from nf (T:=c::l) (gM (eO _))]
 exact we (by lia)
theorem aam{W:Ws PG}{n:Nat}{ra tx:V}{k:Bool}{c:Int}{F l:List Int}{tl:List (af×Sl)}(hc:c∈aB)(ht:zy tl)(hF:F.length<64)(hl:l.length<1000):ApS W n ra tx k c F l tl:=by
 have g1:=Xp c hc
 have g3:=(Fg (k:=k) c hc).1
 have hF:(F.map V.int).length<cG:=Bw (by rw[aO];exact hF)
 have e1:(F++[c]).map V.int=F.map .int++[.int c]:=bZ ..
 rw[Rg] at g3
 cases hg:FV c with
 |none=>
  rw[hg] at g1 g3
  refine .keep (of_decide_eq_true g3) (.str (n! "")) .none ?_
  rw[mP,mP,e1]
  induction ht<;>exact cV [sn 4040200500 g1,sp 4080120374 hF] ⋯
 |some q=>
  induction q with
  |mk b z=>
   rw[hg] at g1 g3
   cases b with
   |false=>
    have g3:=of_decide_eq_true g3
    have g4:=NB (c:=c) g3.2.2.1 hl
    refine .put z g3 (.str (n! "")) (.tup (z.map .int)) ?_
    induction ht<;>exact cV [sg 4040200500 g1,sr 4060190400 g4] ⋯
   |true=>
    cases k with
    |false=>
     refine .keep (of_decide_eq_true g3) (.str (n! "compat")) (.tup (z.map .int)) ?_
     rw[mP,mP,e1]
     induction ht<;>exact cV [sg 4040200500 g1,sp 4080120374 hF] ⋯
    |true=>
     have g3:=of_decide_eq_true g3
     have g4:=NB (c:=c) g3.2.2.1 hl
     refine .put z g3 (.str (n! "compat")) (.tup (z.map .int)) ?_
     induction ht<;>exact cV [sg 4040200500 g1,sr 4060190400 g4] ⋯
def zr(W:Ws PG)(n:Nat)(ra tx:V)(k:Bool)(F l:List Int)(tl:List (af×Sl))(R:List Int):Prop:=∃u v,iV W (n+34) ny (dx (mD 1)) (ba (mD 1)) (mP ra tx k F l tl) .next (mP ra tx k R [] (ua u v))
theorem NR{W:Ws PG}{n:Nat}{ra tx:V}{k:Bool}{c:Int}{F F' l l' R:List Int}{tl d7:List (af×Sl)}(h:Ex W (n+34) ny (ba (mD 1)) (mP ra tx k F (c::l) tl) .next (mP ra tx k F' l' d7))(q:zr W n ra tx k F' l' d7 R):zr W n ra tx k F (c::l) tl R:=
 q.imp λu q=>q.imp λv q=>yW ((fj [sb 4030180201 (((pF (A:=c::l) (B:=[])).trans (by rw[decide_eq_false (uO c l)];rfl)):bC .NotEq (.list ((V.int c)::(cA V.int l))) (.list [])=U J)] ⋯)) h q
theorem Ni{W:Ws PG}{n:Nat}{ra tx:V}{k:Bool}{F:List Int}{tl:List (af×Sl)}(hn:∃t g,tl=ua t g):zr W n ra tx k F [] tl F:=hn.imp λu h=>h.imp λv h=>by subst h;exact vX (fj [] ⋯)
theorem adz{W:Ws PG}{n:Nat}{ra tx:V}{k:Bool}:∀(m:Nat) (l F:List Int) (tl),m<300->kT k l<=m->zy tl->(l=[]->∃t g,tl=ua t g)->(∀c∈l,c∈aB)->(F++aM k l).length<64->zr W n ra tx k F l tl (F++aM k l):=by
 intro m
 induction m with
 |zero=>
  intro l F tl _ hw ht hn hl _
  have:=MJ (k:=k) hl
  cases l with
  |nil=>rw[show aM k []=[] from rfl,bx];exact Ni (hn rfl)
  |cons c l=>exact absurd (bf this hw) (Jl _)
 |succ m ih=>
  intro l F tl hm hw ht hn hl hx
  cases l with
  |nil=>rw[show aM k []=[] from rfl,bx];exact Ni (hn rfl)
  |cons c l=>
   have qd:∀d∈l,d∈aB:=λd hd=>hl d (.tail _ hd)
   have hlen:=MJ (k:=k) qd
   have hp:=(Fg (k:=k) c (hl c (.head _))).2
   rw[Er] at hw
   rw[vk] at hx ⊢
   induction aam (l:=l) (hl c (.head _)) ht (bq (aX▸fe ..) hx) (by lia) with
   |keep e t g h=>
    rw[e,<-aN] at hx ⊢
    exact NR h (ih l (F++[c]) _ (xw hm) (by lia) (.s t g) (λj=>⟨t,g,rfl⟩) qd hx)
   |put z hz t g h=>
    rw[hz.1,<-Mt] at hx ⊢
    exact NR h (ih (z++l) F _ (xw hm) (by rw[aba];lia) (.s t g) (λj=>⟨t,g,rfl⟩) (n5 hz.2.2.2 qd) hx)
theorem aaS{W:Ws PG}{n:Nat}{ra tx:V}{k:Bool}(m:Nat)(l F:List Int)(tl)(h1:m<300)(h2:kT k l<=m)(h3:zy tl)(h4:l=[]->∃t g,tl=ua t g)(h5:∀c∈l,c∈aB)(h6:(F++aM k l).length<64):zr W n ra tx k F l tl (F++aM k l):=adz m l F tl h1 h2 h3 h4 h5 h6
noncomputable def bu(r:Int)(tx t g:V)(k:Bool)(F:List V)(tl:List (af×Sl)):S:=ap (.dict rK (rV r)) tx k F [] ((n! "tag",.val t)::(n! "goal",.val g)::tl)
noncomputable def nG(i:V)(tl:List (af×Sl)):List (af×Sl):=(n! "go",.val i)::tl
noncomputable def wB(i:V):List (af×Sl):=[(n! "at",.val i)]
noncomputable def BL:Stmt:=st 0 (ba (mD 2))
theorem afb{W:Ws PG}{n:Nat}{r x y a v u:Int}{tx t g i:V}{k:Bool}{F:List V}(h1:cC (.list F) (.int a)=U (.int x))(h2:cC (.list F) (.int (a-1))=U (.int y))(hk:dz (.int x) rK=J)(jy:dz (.int y) rK=J)(d1:gs (.int x) rK (rV r)=U (U (.int v)))(c:0<v)(d2:gs (.int y) rK (rV r)=U (U (.int u)))(c2:v<u)(b1:0<=a-1/\a-1<(F.length:Int))(b2:0<=a/\a<((F.set (a-1).toNat (.int x)).length:Int)):Ex W (n+24) ny (ba BL) (bu r tx t g k F (nG i (wB (.int a)))) .next (bu r tx t g k ((F.set (a-1).toNat (.int x)).set a.toNat (.int y)) (nG i (wB (.int a)))):=cV [sv 4110290380 h1,sg 4110190420 d1,sb 4110190421 (mI c),sv 4110550680 h2,sg 4110450720 d2,sb 4110450721 (mI c2),sv 4120440530 h1,sv 4120550680 h2,sp 4120160294 b1,sp 4120310404 b2] ⋯
inductive agz(r x:Int):Prop
 |none (h:gs (.int x) rK (rV r)=U aj) (e:rk r x=0)
 |some (h:gs (.int x) rK (rV r)=U (U (.int (rk r x))))
theorem Bt{r x:Int}:agz r x:=by
 by_cases hx:x∈([768,803,837,836]:List Int)
 ·exact .some (yn (f:=λy=>gs (.int y) rK (rV r)) (g:=λy=>U (U (.int (rk r y)))) ⋯ x hx)
 ·refine .none (congrArg (λo:Option Nat=>U (o.bind λi=>(rV r)[i]?)) (R2.mpr λv hv=>?_)) ?_
  ·exact(i4.mp hv).elim λa h=>h.2▸decide_eq_false λe=>hx (e▸h.1)
  ·rw[rk,if_neg (λe=>hx (by rw[e];decide)),if_neg (λe=>hx (by rw[e];decide)),if_neg (λe=>hx (by rw[e];decide)),if_neg (λe=>hx (by rw[e];decide))]
noncomputable def nD(r:Int)(F:List Int)(i:Nat):List Int:=if 0<rk r (F.getD (1+i) 0)/\rk r (F.getD (1+i) 0)<rk r (F.getD i 0) then(F.set i (F.getD (1+i) 0)).set (1+i) (F.getD i 0) else F
noncomputable def nz(r:Int)(n:Nat)(F:List Int):List Int:=(cb n).foldl (nD r) F
noncomputable def jS(r:Int)(F:List Int):List Int:=(cb F.length).foldl (λF j=>nz r (F.length-1) F) F
theorem Mb{r:Int}{F:List Int}{i:Nat}:(nD r F i).length=F.length:=by
 unfold nD;split
 ·rw[sF,sF]
 ·rfl
theorem Xk{W:Ws PG}{n:Nat}{r:Int}{tx t g i:V}{k:Bool}{F:List Int}{a:Nat}(ha:1+a<F.length):Ex W (n+24) ny (ba BL) (bu r tx t g k (F.map .int) (nG i (wB (.int (1+(a:Int)))))) .next (bu r tx t g k ((nD r F a).map .int) (nG i (wB (.int (1+(a:Int)))))):=by
 have h1:cC (L F) (.int (1+(a:Int)))=U (.int (F.getD (1+a) 0)):=by
  have h1:=mr ha
  rwa [Ac] at h1
 have h2:=mr (T:=F) (i:=a) (by lia)
 have e1:(1+(a:Int))-1=(a:Int):=by lia
 rw[<-e1] at h2
 rw[nD]
 induction Bt with
 |none d e=>rw[if_neg (λq=>absurd q.1 (by rw[e];decide))];exact cV [sv 4110290380 h1,sn 4110190420 d] ⋯
 |some d=>
  by_cases c1:0<rk r (F.getD (1+a) 0)
  ·induction Bt (x:=F.getD a 0) with
   |none d2 e2=>
    have:¬rk r (F.getD (1+a) 0)<0:=λq=>Aj _ (sM q c1)
    rw[if_neg (λq=>this (by have q:=q.2;rw[e2] at q;exact q))];exact cV [sv 4110290380 h1,sg 4110190420 d,sb 4110190421 (mI c1),sv 4110550680 h2,sn 4110450720 d2,sb 4110450721 (nB this)] ⋯
   |some d2=>
    by_cases c2:rk r (F.getD (1+a) 0)<rk r (F.getD a 0)
    ·rw[if_pos ⟨c1,c2⟩]
     have:=afb (W:=W) (n:=n) (tx:=tx) (t:=t) (g:=g) (i:=i) (k:=k) h1 h2 jF jF d c1 d2 c2 (by rw[aO];lia) (by rw[sF,aO];lia)
     rw[e1,nS,show(1+(a:Int)).toNat=1+a by lia,<-JW,<-JW] at this
     exact this
    ·rw[if_neg (λq=>c2 q.2)];exact cV [sv 4110290380 h1,sg 4110190420 d,sb 4110190421 (mI c1),sv 4110550680 h2,sg 4110450720 d2,sb 4110450721 (nB c2)] ⋯
  ·rw[if_neg (λq=>c1 q.1)];exact cV [sv 4110290380 h1,sg 4110190420 d,sb 4110190421 (nB c1)] ⋯
section
section
variable {W:Ws PG}{n:Nat}{r:Int}{tx t g i:V}{k:Bool}{N:Nat}{R:List Int}
inductive t9:List (af×Sl)->Prop
 |z:t9 []
 |s (j):t9 (wB j)
inductive wI(r:Int)(tx t g i:V)(k:Bool)(N:Nat)(R:List Int)(z:List Nat):S->Prop
 |mk (H:List Int) (tl) (ht:t9 tl) (hl:H.length=N) (e:z.foldl (nD r) H=R):wI r tx t g i k N R z (bu r tx t g k (H.map .int) (nG i tl))
inductive rN(r:Int)(tx t g:V)(k:Bool)(N:Nat)(R:List Int)(z:List Nat):S->Prop
 |z (H:List Int) (hl:H.length=N) (e:z.foldl (λF x=>nz r (F.length-1) F) H=R):rN r tx t g k N R z (bu r tx t g k (H.map .int) [])
 |s (H:List Int) (i:V) (tl) (ht:t9 tl) (hl:H.length=N) (e:z.foldl (λF x=>nz r (F.length-1) F) H=R):rN r tx t g k N R z (bu r tx t g k (H.map .int) (nG i tl))
theorem Xm{a:Nat}{z:List Nat}{s:S}(ha:1+a<N)(h:wI r tx t g i k N R (a::z) s):eC W (n+24) ny ah (cE BL) (ba BL) (λf s=>f=.next/\wI r tx t g i k N R [] s) (wI r tx t g i k N R z) (.int (1+(a:Int))) s:=by
 induction h with
 |mk H tl ht hl e=>
  have hx:=Xk (W:=W) (n:=n) (r:=r) (tx:=tx) (t:=t) (g:=g) (i:=i) (k:=k) (hl▸ha)
  have j:wI r tx t g i k N R z (bu r tx t g k ((nD r H a).map .int) (nG i (wB (.int (1+(a:Int)))))):=.mk _ _ (.s _) (Mb.trans hl) e
  induction ht<;>exact λQ_ k_=>k_ _ _ _ (f7 [] ⋯) hx j
theorem WG{N:Nat}:cj 1 (N:Int)=(cb (N-1)).map λi:Nat=>V.int (1+(i:Int)):=by rw[cj,UE]
theorem LM{N:Nat}:cj 0 (N:Int)=(cb N).map λi:Nat=>V.int (0+(i:Int)):=by rw[cj,DM,nS]
theorem aeK{H:List Int}{tl:List (af×Sl)}(ht:t9 tl)(hN:H.length<64):∃iU,t9 iU/\(nz r (H.length-1) H).length=H.length/\Ex W (n+34) ny (ba (mD 2)) (bu r tx t g k (H.map .int) (nG i tl)) .next (bu r tx t g k ((nz r (H.length-1) H).map .int) (nG i iU)):=
 rD (W:=W) (I:=wI r tx t g i k H.length (nz r (H.length-1) H)) (cb (H.length-1)) (λa ha l s h=>Xm (n:=n+9) (by have:=lr.mp ha;lia) h) (.mk H tl ht rfl rfl) λs' j h=>by
  have hm:(H.map V.int).length=H.length:=aO ..
  rw[<-WG,<-hm] at h
  cases j with
  |mk H2 iU HA jC e2=>
   have e2:H2=nz r (H.length-1) H:=e2
   subst e2
   have hg:=rh (a:=1) (by decide) (by decide) (hm▸ct hN (by decide))
   exact⟨iU,HA,jC,cV [sp 4100180380 hg,eV 4100080693 h] ⋯⟩
theorem Xl{a:Nat}{z:List Nat}{s:S}(hN:N<64)(h:rN r tx t g k N R (a::z) s):eC W (n+34) ny ah (cE (mD 2)) (ba (mD 2)) (λf s=>f=.next/\rN r tx t g k N R [] s) (rN r tx t g k N R z) (.int (0+(a:Int))) s:=by
 have go:∀{H:List Int} {s} {tl:List (af×Sl)},(t9 tl)->H.length=N->(a::z).foldl (λF x=>nz r (F.length-1) F) H=R->Bd W (n+34) ny ah (cE (mD 2)) (.int (0+(a:Int))) s (bu r tx t g k (H.map .int) (nG (.int (0+(a:Int))) tl))->eC W (n+34) ny ah (cE (mD 2)) (ba (mD 2)) (λf s=>f=.next/\rN r tx t g k N R [] s) (rN r tx t g k N R z) (.int (0+(a:Int))) s:=λ{H s tl} ht hl e hb=>
  (aeK ht (hl▸hN)).elim λiU q Q_ k_=>k_ _ _ _ hb q.2.2 (.s _ _ iU q.1 (q.2.1.trans hl) e)
 induction h with
 |z H hl e=>exact go .z hl e (f7 [] ⋯)
 |s H i tl ht hl e=>
  have go:=go ht hl e (s:=bu r tx t g k (H.map .int) (nG i tl))
  induction ht<;>exact go (f7 [] ⋯)
end
theorem Ey{W:Ws PG}{n:Nat}{r:Int}{k:Bool}{T:List Int}(hT:∀c∈T,c∈aB)(hw:kT k T<200)(hx:(aM k T).length<64):Ca W (n+40) 496 [pQ r,pR,L T,.bool k] [] (L (jS r (aM k T))) []:=by
 induction T with
 |nil=>exact bU [] ⋯
 |cons c T=>
  refine(aaS (W:=W) (n:=n+4) (ra:=.dict rK (rV r)) (tx:=L (c::T)) 299 (c::T) [] [] (by decide) (by lia) .z (λe=>by cases e) hT hx).elim λt q=>q.elim λg q=>?_
  rw[gk] at q
  generalize aM k (c::T)=E at*
  have hm:(E.map V.int).length=E.length:=aO ..
  have hg:=rh (a:=0) (by decide) (by decide) (hm▸ct hx (by decide))
  refine rD (W:=W) (I:=rN r (L (c::T)) t g k E.length (jS r E)) (cb E.length) (λa ha l s h=>Xl (n:=n+4) hx h) (.z E rfl rfl) λs' j h=>?_
  rw[<-LM,<-hm] at h
  cases j with
  |z H hl e=>
   have e:H=jS r E:=e
   subst e
   exact bU [sw 4030040373 q,sp 4090140310 hg,eV 4090040693 h] ⋯
  |s H i tl ht hl e=>
   have e:H=jS r E:=e
   subst e
   exact bU [sw 4030040373 q,sp 4090140310 hg,eV 4090040693 h] ⋯
end
noncomputable def rS{α:Type}(g:Nat->α->Option V):Nat->List α->List V
 |_,[]=>[]
 |i,a::l=>(g i a).toList++rS g (i+1) l
theorem Cb(W:Ws PG){n:Nat}{cx:Cx}{it:It}{elt t:ai}{ifs:List ai}{s:S}{α:Type}{enc:Nat->α->V}{g:Nat->α->Option V}{l0:List α}(w3:∀i c,it.at i {s with cv:=c}=U ((l0[i]?).map (enc i)))(h:∀i a,zz W n cx it.pair elt t ifs s (enc i a) (g i a))(l:List α):
  ∀(c:List (af×V)) (pr:List α),l0=pr++l->∃m c',jg W.w W.K W.mg W.mb n cx it elt t ifs {s with cv:=c'} m pr.length {s with cv:=c} (rS g pr.length l):=by
 induction l with
 |nil=>exact λc pr e=>⟨1,c,.stop ((w3 ..).trans (by rw[e,bx,kZ (aQ _)];rfl)) rfl rfl⟩
 |cons a r ih=>
  intro c pr e
  have ha:it.at pr.length {s with cv:=c}=U (U (enc pr.length a)):=(w3 ..).trans (by rw[e,tA];rfl)
  have go:=λbs=>ih bs (pr++[a]) (e.trans (aN pr [a] r).symm)
  rw[aX] at go
  have H:=h pr.length a
  show ∃m c',jg W.w W.K W.mg W.mb n cx it elt t ifs {s with cv:=c'} m pr.length {s with cv:=c} ((g pr.length a).toList++rS g (pr.length+1) r)
  cases q:g pr.length a with
  |none=>
   rw[q] at H
   cases H with
   |skip bs hb ht=>exact(go bs).elim λm k=>k.elim λc' k=>⟨m+1,c',.skip _ bs _ ha hb ht k⟩
  |some u=>
   rw[q] at H
   cases H with
   |take bs _ hb ht he=>exact(go bs).elim λm k=>k.elim λc' k=>⟨m+1,c',.take _ bs _ u _ _ ha hb ht he k rfl⟩
noncomputable def bY(c:Int):Bool:=([768,803,837,836]:List Int).contains c
theorem AG{c:Int}:isKey (.int c) rK=U (bY c):=Ko
theorem EU{c:Int}:bY c=J↔c∈([768,803,837,836]:List Int):=xk
theorem aaJ{r c:Int}(h:bY c=J):gs (.int c) rK (rV r)=U (U (.int (rk r c))):=
 yn (f:=λy=>gs (.int y) rK (rV r)) (g:=λy=>U (U (.int (rk r y)))) ⋯ c (EU.mp h)
theorem tf{r c:Int}(hr:0<r):(rk r c=0↔bY c=ah)/\0<=rk r c:=by
 by_cases hx:c∈([768,803,837,836]:List Int)
 ·have H:0<rk r c:=by
   have:∀y∈([768,803,837,836]:List Int),rk r y=230\/rk r y=r\/rk r y=240:=λy hy=>by
    rw[cf,cf,cf,cK] at hy
    exact hy.elim (λe=>.inl (e▸rfl)) λh=>h.elim (λe=>.inr (.inl (e▸rfl))) λh=>h.elim (λe=>.inr (.inr (e▸rfl))) λe=>.inl (e▸rfl)
   exact(this c hx).elim (λe=>by rw[e];decide) λh=>h.elim (λe=>by rw[e];exact hr) λe=>by rw[e];decide
  exact⟨⟨λe=>absurd e (mW H),λe=>absurd (EU.mpr hx) (by rw[e];decide)⟩,fy H⟩
 ·have H:rk r c=0:=by rw[rk,if_neg (λe=>hx (by rw[e];decide)),if_neg (λe=>hx (by rw[e];decide)),if_neg (λe=>hx (by rw[e];decide)),if_neg (λe=>hx (by rw[e];decide))]
  exact⟨⟨λj=>xt.mpr λq=>hx (EU.mp q),λj=>H⟩,by rw[H];decide⟩
noncomputable def jT:Nat->List Int->List Int
 |_,[]=>[]
 |i,c::l=>(if(!bY c)=J then[(i:Int)] else[])++jT (i+1) l
theorem Oq(l:List Int):∀i,rS (λi c=>if(!bY c)=J then U (V.int (i:Nat)) else aj) i l=(jT i l).map .int:=by
 induction l with
 |nil=>exact λi=>rfl
 |cons c l ih=>
  intro i
  show Option.toList (if(!bY c)=J then U (V.int (i:Nat)) else aj)++rS _ (i+1) l=((if(!bY c)=J then[(i:Int)] else[])++jT (i+1) l).map .int
  rw[ih,bZ]
  induction bY c<;>rfl
theorem Ln{l:List Int}:∀(i:Nat),(∀c∈l,bY c=J)->jT i l=[]:=by
 induction l with
 |nil=>exact λi h=>rfl
 |cons c l ih=>
  intro i h
  show(if(!bY c)=J then[(i:Int)] else[])++jT (i+1) l=[]
  rw[if_neg (by rw[h c (.head _)];decide),ih (i+1) λc hc=>h c (.tail _ hc)];rfl
theorem Wv{p:List Int}{s:Int}{t:List Int}(hs:bY s=ah)(ht:∀c∈t,bY c=J):∀i:Nat,∃z,jT i (p++s::t)=z++[((i+p.length:Nat):Int)]:=by
 induction p with
 |nil=>
  intro i
  refine⟨[],?_⟩
  show(if(!bY s)=J then[(i:Int)] else[])++jT (i+1) t=_
  rw[if_pos (by rw[hs];rfl),Ln _ ht];rfl
 |cons c p ih=>
  intro i
  exact(ih (i+1)).elim λz hz=>⟨(if(!bY c)=J then[(i:Int)] else[])++z,by
   show(if(!bY c)=J then[(i:Int)] else[])++jT (i+1) (p++s::t)=_
   rw[hz,aN,fP,show i+1+p.length=i+(p.length+1) by lia]⟩
noncomputable abbrev pD(PL:List ((Int×Int)×Int)):V:=.dict (PL.map gr) (PL.map λp=>.int p.2)
noncomputable def bA(r:Int)(k:Bool)(PL:List ((Int×Int)×Int)):V:=.dict [.str (n! "ranks"),.str (n! "goals"),.str (n! "is_compat"),.str (n! "pairs")] [.dict rK (rV r),.dict gK gV,.bool k,pD PL]
noncomputable def dH:Cx:=eK PG 506 GS
noncomputable def wg(i:Nat):Stmt:=st i GS.body
noncomputable def cQ(i:Nat):Stmt:=st i (ba (wg 1))
noncomputable def jZ:Expr:=dx (cQ 0)
noncomputable def lf(w tx:V)(F:List V)(ra:V)(tl:List (af×Sl)):S:={vars:=(n! "world",.val w)::(n! "text",.val tx)::(n! "ranks",.val ra)::(n! "found",.list F)::tl}
noncomputable def bW(c:V)(h:Sl)(tl:List (af×Sl)):List (af×Sl):=(n! "code",.val c)::(n! "heads",h)::tl
theorem O5{W:Ws PG}{n:Nat}{w tx ra c:V}{F l:List V}{c':List (af×V)}(h:dB W (n+53) (dk dH jZ) (.live (n! "found") J) (dg jZ) (bF jZ).target (bF jZ).ifs (lf w tx F ra [(n! "code",.val c)]) l {lf w tx F ra [(n! "code",.val c)] with cv:=c'}):Sm W (n+54) dH (cQ 0) (lf w tx F ra [(n! "code",.val c)]) .next (lf w tx F ra (bW c (.list l) [])):=aL [sm 4210160723 h] ⋯
theorem OL{W:Ws PG}{n:Nat}{w tx ra c:V}{F l:List V}{h0:Sl}{tl:List (af×Sl)}{c':List (af×V)}(h:dB W (n+53) (dk dH jZ) (.live (n! "found") J) (dg jZ) (bF jZ).target (bF jZ).ifs (lf w tx F ra (bW c h0 tl)) l {lf w tx F ra (bW c h0 tl) with cv:=c'}):Sm W (n+54) dH (cQ 0) (lf w tx F ra (bW c h0 tl)) .next (lf w tx F ra (bW c (.list l) tl)):=aL [sm 4210160723 h] ⋯
noncomputable def cw(b:Sl)(tl:List (af×Sl)):List (af×Sl):=(n! "between",b)::tl
noncomputable def kids(v:ai):List Expr:=by
 apply ai.casesOn (motive_1:=λj=>List ai) v
 case BoolOp=>exact λa b c=>b
 case BinOp=>exact λa b c d=>[a,c]
 case UnaryOp=>exact λa b c=>[b]
 case IfExp=>exact λa b c d=>[a,b,c]
 case Compare=>exact λa b c d=>a::c
 case Subscript=>exact λa b c=>[a,b]
 case Tuple=>exact λa b c=>a
 all_goals exists []
noncomputable def mK(i:Nat)(e:ai):Expr:=((kids e)[i]?).getD e
noncomputable def nE:Expr:=mK 1 (dx (cQ 1))
noncomputable def j0:Expr:=mK 0 (mK 1 (dx (cQ 3)))
theorem adk{W:Ws PG}{n:Nat}{h:Int}{w tx ra c:V}{F dj l:List V}{c':List (af×V)}(h0:bC .NotEq (.list dj) (.list [])=U J)(h1:cC (.list dj) (.int (-1))=U (.int h))(hc:dB W (n+51) (dk dH nE) (.items ah (eU F (h+1))) (dg nE) (bF nE).target (bF nE).ifs (lf w tx F ra (bW c (.list dj) [])) l {lf w tx F ra (bW c (.list dj) []) with cv:=c'}):Sm W (n+54) dH (cQ 1) (lf w tx F ra (bW c (.list dj) [])) .next (lf w tx F ra (bW c (.list dj) (cw (.list l) []))):=aL [sb 4220760781 h0,sv 4220470560 h1,sm 4220180633 hc] ⋯
theorem ab5{W:Ws PG}{n:Nat}{b0:Sl}{tl:List (af×Sl)}{h:Int}{w tx ra c:V}{F dj l:List V}{c':List (af×V)}(h0:bC .NotEq (.list dj) (.list [])=U J)(h1:cC (.list dj) (.int (-1))=U (.int h))(hc:dB W (n+51) (dk dH nE) (.items ah (eU F (h+1))) (dg nE) (bF nE).target (bF nE).ifs (lf w tx F ra (bW c (.list dj) (cw b0 tl))) l {lf w tx F ra (bW c (.list dj) (cw b0 tl)) with cv:=c'}):Sm W (n+54) dH (cQ 1) (lf w tx F ra (bW c (.list dj) (cw b0 tl))) .next (lf w tx F ra (bW c (.list dj) (cw (.list l) tl))):=aL [sb 4220760781 h0,sv 4220470560 h1,sm 4220180633 hc] ⋯
theorem O4{W:Ws PG}{n:Nat}{r x:Int}{w tx:V}{F:List V}{h b:Sl}(hk:dz (.int x) rK=J)(hd:gs (.int x) rK (rV r)=U aj):Sm W (n+54) dH (cQ 2) (lf w tx F (.dict rK (rV r)) (bW (.int x) h (cw b []))) .next (lf w tx F (.dict rK (rV r)) (bW (.int x) h (cw b [(n! "rank",.val (.int 0))]))):=aL [sn 4230150330 hd] ⋯
theorem OY{W:Ws PG}{n:Nat}{r x v:Int}{w tx:V}{F:List V}{h b:Sl}(hk:dz (.int x) rK=J)(hd:gs (.int x) rK (rV r)=U (U (.int v))):Sm W (n+54) dH (cQ 2) (lf w tx F (.dict rK (rV r)) (bW (.int x) h (cw b []))) .next (lf w tx F (.dict rK (rV r)) (bW (.int x) h (cw b [(n! "rank",.val (.int v))]))):=aL [sg 4230150330 hd] ⋯
theorem OZ{W:Ws PG}{n:Nat}{r x:Int}{w tx:V}{q:V}{o:Sl}{F:List V}{h b:Sl}(hk:dz (.int x) rK=J)(hd:gs (.int x) rK (rV r)=U aj):Sm W (n+54) dH (cQ 2) (lf w tx F (.dict rK (rV r)) (bW (.int x) h (cw b [(n! "rank",.val q),(n! "is_open",o)]))) .next (lf w tx F (.dict rK (rV r)) (bW (.int x) h (cw b [(n! "rank",.val (.int 0)),(n! "is_open",o)]))):=aL [sn 4230150330 hd] ⋯
theorem Pd{W:Ws PG}{n:Nat}{r x v:Int}{w tx:V}{q:V}{o:Sl}{F:List V}{h b:Sl}(hk:dz (.int x) rK=J)(hd:gs (.int x) rK (rV r)=U (U (.int v))):Sm W (n+54) dH (cQ 2) (lf w tx F (.dict rK (rV r)) (bW (.int x) h (cw b [(n! "rank",.val q),(n! "is_open",o)]))) .next (lf w tx F (.dict rK (rV r)) (bW (.int x) h (cw b [(n! "rank",.val (.int v)),(n! "is_open",o)]))):=aL [sg 4230150330 hd] ⋯
theorem abZ{W:Ws PG}{n:Nat}{w tx ra c q:V}{F dj B l:List V}{k:Bool}{c':List (af×V)}(h0:bC .NotEq (.list dj) (.list [])=U J)(hc:dB W (n+50) (dk dH j0) (.live (n! "between") ah) (dg j0) (bF j0).target (bF j0).ifs (lf w tx F ra (bW c (.list dj) (cw (.list B) [(n! "rank",.val q)]))) l {lf w tx F ra (bW c (.list dj) (cw (.list B) [(n! "rank",.val q)])) with cv:=c'})(he:bC .Eq (.list l) (.list [])=U k):Sm W (n+54) dH (cQ 3) (lf w tx F ra (bW c (.list dj) (cw (.list B) [(n! "rank",.val q)]))) .next (lf w tx F ra (bW c (.list dj) (cw (.list B) [(n! "rank",.val q),(n! "is_open",.val (.bool k))]))):=aL [sb 4240270291 h0,sm 4240340733 hc,sb 4240770791 he] ⋯
theorem abB{W:Ws PG}{n:Nat}{o:Sl}{w tx ra c q:V}{F dj B l:List V}{k:Bool}{c':List (af×V)}(h0:bC .NotEq (.list dj) (.list [])=U J)(hc:dB W (n+50) (dk dH j0) (.live (n! "between") ah) (dg j0) (bF j0).target (bF j0).ifs (lf w tx F ra (bW c (.list dj) (cw (.list B) [(n! "rank",.val q),(n! "is_open",o)]))) l {lf w tx F ra (bW c (.list dj) (cw (.list B) [(n! "rank",.val q),(n! "is_open",o)])) with cv:=c'})(he:bC .Eq (.list l) (.list [])=U k):Sm W (n+54) dH (cQ 3) (lf w tx F ra (bW c (.list dj) (cw (.list B) [(n! "rank",.val q),(n! "is_open",o)]))) .next (lf w tx F ra (bW c (.list dj) (cw (.list B) [(n! "rank",.val q),(n! "is_open",.val (.bool k))]))):=aL [sb 4240270291 h0,sm 4240340733 hc,sb 4240770791 he] ⋯
theorem FZ{W:Ws PG}{n:Nat}{w tx ra c q:V}{F:List V}{h b:Sl}(hF:F.length<cG):Sm W (n+54) dH (cQ 4) (lf w tx F ra (bW c h (cw b [(n! "rank",.val q),(n! "is_open",.val (.bool ah))]))) .next (lf w tx (F++[c]) ra (bW c h (cw b [(n! "rank",.val q),(n! "is_open",.val (.bool ah))]))):=aL [sp 4280120304 hF] ⋯
theorem afV{W:Ws PG}{n:Nat}{r h x y:Int}{k:Bool}{PL:List ((Int×Int)×Int)}{tx ra q:V}{F dj:List V}{b:Sl}(h1:cC (.list dj) (.int (-1))=U (.int h))(h2:cC (.list F) (.int h)=U (.int x))(hi:bC .In (.tup [.int x,.int y]) (pD PL)=U ah)(hF:F.length<cG):Sm W (n+54) dH (cQ 4) (lf (bA r k PL) tx F ra (bW (.int y) (.list dj) (cw b [(n! "rank",.val q),(n! "is_open",.val (.bool J))]))) .next (lf (bA r k PL) tx (F++[.int y]) ra (bW (.int y) (.list dj) (cw b [(n! "rank",.val q),(n! "is_open",.val (.bool J))]))):=aL [sv 4250300390 h1,sv 4250240400 h2,sb 4250510651 hi,sp 4280120304 hF] ⋯
theorem afa{W:Ws PG}{n:Nat}{r h x y p:Int}{k:Bool}{PL:List ((Int×Int)×Int)}{tx ra q:V}{F dj:List V}{b:Sl}(h1:cC (.list dj) (.int (-1))=U (.int h))(h2:cC (.list F) (.int h)=U (.int x))(hi:bC .In (.tup [.int x,.int y]) (pD PL)=U J)(hd:cC (pD PL) (.tup [.int x,.int y])=U (.int p))(hb:0<=h/\h<(F.length:Int)):Sm W (n+54) dH (cQ 4) (lf (bA r k PL) tx F ra (bW (.int y) (.list dj) (cw b [(n! "rank",.val q),(n! "is_open",.val (.bool J))]))) .next (lf (bA r k PL) tx (F.set h.toNat (.int p)) ra (bW (.int y) (.list dj) (cw b [(n! "rank",.val q),(n! "is_open",.val (.bool J))]))):=aL [sv 4250300390 h1,sv 4250240400 h2,sb 4250510651 hi,sv 4260520610 h1,sv 4260460620 h2,sv 4260310690 hd,sv 4260180270 h1,sp 4260120284 hb] ⋯
noncomputable def jQ(r:Int)(k:Bool)(PL:List ((Int×Int)×Int))(T:List Int):List Int:=((jS r (aM k T)).foldl (ey r PL) ⟨[],aj,[]⟩).out
theorem Oc{r q:Int}(l:List Int):∀m,l.foldl (λm c=>max m (rk r c)) m<q↔((l.map (rk r)).filter (λz=>aJ (q<=z))=[]/\m<q):=by
 induction l with
 |nil=>exact λm=>⟨λh=>⟨rfl,h⟩,λh=>h.2⟩
 |cons a l ih=>
  intro m
  rw[ll,ih,ff,xA]
  by_cases e:q<=rk r a
  ·rw[if_pos (decide_eq_true e)]
   exact⟨λh=>by have:=h.2;omega,λh=>by cases h.1⟩
  ·rw[if_neg (λq=>e (of_decide_eq_true q))]
   exact⟨λh=>⟨h.1,by have:=h.2;omega⟩,λh=>⟨h.1,by have:=h.2;omega⟩⟩
theorem YK{r q:Int}(hr:0<=q)(l:List Int):(l.map (rk r)).filter (λz=>aJ (q<=z))=[]↔(l=[]\/fm r l<q):=by
 refine⟨λh=>.inr ((Oc l (-1)).mpr ⟨h,by omega⟩),λh=>h.elim (λe=>by rw[e];rfl) λh=>((Oc l (-1)).mp h).1⟩
theorem yp{z:List Int}{a:Int}:cC (L (z++[a])) (.int (-1))=U (.int a):=by
 show jx ((z++[a]).map V.int) (-1)=_
 have h:(-1:Int)+(((z++[a]).map V.int).length:Int)=(z.length:Int):=by rw[aO,aX,iY];omega
 rw[jx,if_neg (by decide),h,if_pos (fw _),nS,gj,tA]
 rfl
theorem Ye{r c:Int}{x:CS}(hr:0<r)(j1:∀p,x.st=U p->bY p=ah)(j2:∀c∈x.tl,bY c=J)(j3:x.st=aj->x.pre=[]):
  (∀p,(x.push r c).st=U p->bY p=ah)/\(∀d∈(x.push r c).tl,bY d=J)/\((x.push r c).st=aj->(x.push r c).pre=[]):=by
 have h:=(tf (c:=c) hr).1
 unfold CS.push
 split
 ·rename_i e
  exact⟨λp hp=>(by cases hp;exact h.mp e),λd hd=>(by cases hd),λe=>(by cases e)⟩
 ·rename_i e
  refine⟨j1,λd hd=>(gx.mp hd).elim (j2 d) λhd=>?_,j3⟩
  rw[cK.mp hd]
  cases q:bY c
  ·exact absurd (h.mpr q) e
  ·rfl
theorem W3{x y:Int}(l:List ((Int×Int)×Int)):bC .In (.tup [.int x,.int y]) (pD l)=U (gW x y l).isSome:=by
 have h:=aA (Ej (x:=x) (y:=y) l)
 show(if dz _ _=J then U (dJ (.tup [.int x,.int y]) (l.map gr)).isSome else aj)=_
 rw[if_pos (Aw l)]
 refine congrArg U ?_
 cases q:dJ (.tup [.int x,.int y]) (l.map gr) with
 |none=>
  rw[q] at h
  cases q2:gW x y l with
  |none=>rfl
  |some _=>rw[q2] at h;cases h
 |some i=>
  rw[q] at h
  cases q2:gW x y l with
  |some _=>rfl
  |none=>
   rw[q2] at h
   have hi:=(RP.mp q).1
   rw[aO] at hi
   have h:(l.map λp=>V.int p.2)[i]?=none:=h
   rw[zP,aO] at h
   exact absurd hi (iD.mpr h)
theorem agb:(bF jZ).ifs=[((bF jZ).ifs[0]?).getD jZ]:=by kernel_rfl
theorem Md{W:Ws PG}{n:Nat}{r:Int}{w tx:V}{F:List Int}{tl:List (af×Sl)}:∃c',dB W (n+53) (dk dH jZ) (.live (n! "found") J) (dg jZ) (bF jZ).target (bF jZ).ifs (lf w tx (F.map .int) (.dict rK (rV r)) tl) ((jT 0 F).map .int) {lf w tx (F.map .int) (.dict rK (rV r)) tl with cv:=c'}:=by
 rw[<-Oq]
 refine(Cb W (enc:=λi c=>.tup [.int (i:Nat),.int c]) (λi c=>?_) (λi c=>?_) F [] [] rfl).elim λm k=>k.imp λc' k=>⟨m,k⟩
 ·show U (((F.map V.int)[i]?).map λv=>BK J i v)=_
  rw[gj,DA];rfl
 ·rw[agb]
  have h:=congrArg kK (AG (c:=c))
  cases q:bY c<;>rw[q] at h
  ·exact .take [(n! "at",.int (i:Nat)),(n! "one",.int c)] _ rfl (tD ((fj [sb 4210660711 h] ⋯)) oC) (jd ((jf [] ⋯)))
  ·exact .skip [(n! "at",.int (i:Nat)),(n! "one",.int c)] rfl (vC ((fj [sb 4210660711 h] ⋯)))
theorem Eu{k:V}{ks vs:List V}{v:V}(hk:dz k ks=J)(h:gs k ks vs=U (U v)):cC (.dict ks vs) k=U v:=by
 show(if dz k ks=J then(gs k ks vs).bind id else aj)=_
 rw[if_pos hk,h];rfl
theorem Zx{W:Ws PG}{n:Nat}{r:Int}{w tx:V}{F G:List Int}{tl:List (af×Sl)}(hG:∀d∈G,bY d=J):∃c',dB W (n+51) (dk dH nE) (.items ah (G.map .int)) (dg nE) (bF nE).target [] (lf w tx (F.map .int) (.dict rK (rV r)) tl) ((G.map (rk r)).map .int) {lf w tx (F.map .int) (.dict rK (rV r)) tl with cv:=c'}:=by
 rw[vA]
 exact pS W (λd hd=>⟨rfl,jd ((jf [sv 4220190290 ((Eu jF (aaJ (hG d hd))):cC (.dict rK (rV r)) (.int d)=U (.int (rk r d)))] ⋯))⟩) []
theorem agC:(bF j0).ifs=[((bF j0).ifs[0]?).getD j0]:=by kernel_rfl
theorem V4{p:Int->Bool}(l:List Int):∀i,rS (λj z=>if p z=J then U (V.int z) else aj) i l=(l.filter p).map .int:=by
 induction l with
 |nil=>exact λi=>rfl
 |cons c l ih=>
  intro i
  show Option.toList (if p c=J then U (V.int c) else aj)++rS _ (i+1) l=_
  rw[ih,xA]
  split<;>rfl
theorem MX{W:Ws PG}{n:Nat}{q:Int}{w tx ra c:V}{F:List V}{h0:Sl}{B:List Int}{tl:List (af×Sl)}:∃c',dB W (n+50) (dk dH j0) (.live (n! "between") ah) (dg j0) (bF j0).target (bF j0).ifs (lf w tx F ra (bW c h0 (cw (.list (B.map .int)) ((n! "rank",.val (.int q))::tl)))) ((B.filter λz=>aJ (q<=z)).map .int) {lf w tx F ra (bW c h0 (cw (.list (B.map .int)) ((n! "rank",.val (.int q))::tl))) with cv:=c'}:=by
 rw[<-V4 B 0]
 refine(Cb W (enc:=λj z=>V.int z) (λi c=>?_) (λi z=>?_) B [] [] rfl).elim λm k=>k.imp λc' k=>⟨m,k⟩
 ·show U (((B.map V.int)[i]?).map λv=>BK ah i v)=_
  rw[gj,DA];rfl
 ·rw[agC]
  by_cases h:q<=z
  ·rw[if_pos (decide_eq_true h)]
   exact .take [(n! "one",.int z)] _ rfl (tD ((fj [sb 4240680721 (B3 h)] ⋯)) oC) (jd ((jf [] ⋯)))
  ·rw[if_neg (λq=>h (of_decide_eq_true q))]
   exact .skip [(n! "one",.int z)] rfl (vC ((fj [sb 4240680721 (P7 h)] ⋯)))
noncomputable def lW(q:V)(o:Sl):List (af×Sl):=[(n! "rank",.val q),(n! "is_open",o)]
inductive zM(c:V):List (af×Sl)->Prop
 |z:zM c [(n! "code",.val c)]
 |s (h b q o):zM c (bW c h (cw b (lW q o)))
theorem afd:ba (wg 1)=[cQ 0,cQ 1,cQ 2,cQ 3,cQ 4]:=by kernel_rfl
theorem ZQ{W:Ws PG}{n:Nat}{r c:Int}{w tx:V}{F:List Int}{t:List (af×Sl)}(ht:zM (.int c) t)(hF:F.length<1000)(hh:jT 0 F=[]):∃h b q o,Ex W (n+54) dH [cQ 0,cQ 1,cQ 2,cQ 3,cQ 4] (lf w tx (F.map .int) (.dict rK (rV r)) t) .next (lf w tx ((F++[c]).map .int) (.dict rK (rV r)) (bW (.int c) h (cw b (lW q o)))):=by
 have hc:(F.map V.int).length<cG:=nk (by rw[aO];exact hF)
 rw[bZ]
 have H:=λt=>Md (W:=W) (n:=n) (r:=r) (w:=w) (tx:=tx) (F:=F) (tl:=t)
 rw[hh] at H
 have R:∀{h b:Sl},∃v:Int,Sm W (n+54) dH (cQ 2) (lf w tx (F.map .int) (.dict rK (rV r)) (bW (.int c) h (cw b []))) .next (lf w tx (F.map .int) (.dict rK (rV r)) (bW (.int c) h (cw b [(n! "rank",.val (.int v))])))/\∀q o,Sm W (n+54) dH (cQ 2) (lf w tx (F.map .int) (.dict rK (rV r)) (bW (.int c) h (cw b (lW q o)))) .next (lf w tx (F.map .int) (.dict rK (rV r)) (bW (.int c) h (cw b (lW (.int v) o)))):=by
  intro h b
  induction Bt with
  |none d e=>exact⟨0,O4 jF d,λq o=>OZ jF d⟩
  |some d=>exact⟨_,OY jF d,λq o=>Pd jF d⟩
 induction ht with
 |z=>exact(H _).elim λc' k=>R.elim λv R=>⟨_,_,_,_,aT (O5 k) (aT (aL (s':=(lf w tx (cA V.int F) (V.dict rK (rV r)) (bW (V.int c) (.list []) (cw (.list [.int 999]) [])))) [] ⋯) (aT R.1 (aT (aL (s':=(lf w tx (cA V.int F) (V.dict rK (rV r)) (bW (V.int c) (.list []) (cw (Sl.list [V.int 999]) [(n! "rank",.val (V.int v)),(n! "is_open",.val (.bool ah))])))) [] ⋯) (aT (FZ hc) tM))))⟩
 |s h b q o=>exact(H _).elim λc' k=>R.elim λv R=>⟨_,_,_,_,aT (OL k) (aT (aL (s':=(lf w tx (cA V.int F) (V.dict rK (rV r)) (bW (V.int c) (.list []) (cw (.list [.int 999]) (lW q o))))) [] ⋯) (aT (R.2 q o) (aT (aL (s':=(lf w tx (cA V.int F) (V.dict rK (rV r)) (bW (V.int c) (.list []) (cw (Sl.list [V.int 999]) [(n! "rank",.val (V.int v)),(n! "is_open",.val (.bool ah))])))) [] ⋯) (aT (FZ hc) tM))))⟩
theorem MM{W:Ws PG}{n:Nat}{r c:Int}{w tx:V}{F:List V}{h b:Sl}:Sm W (n+54) dH (cQ 2) (lf w tx F (.dict rK (rV r)) (bW (.int c) h (cw b []))) .next (lf w tx F (.dict rK (rV r)) (bW (.int c) h (cw b [(n! "rank",.val (.int (rk r c)))])))/\∀q o,Sm W (n+54) dH (cQ 2) (lf w tx F (.dict rK (rV r)) (bW (.int c) h (cw b (lW q o)))) .next (lf w tx F (.dict rK (rV r)) (bW (.int c) h (cw b (lW (.int (rk r c)) o)))):=by
 induction Bt with
 |none d e=>rw[e];exact⟨O4 jF d,λq o=>OZ jF d⟩
 |some d=>exact⟨OY jF d,λq o=>Pd jF d⟩
theorem MR{W:Ws PG}{n:Nat}{r c:Int}{k:Bool}{PL:List ((Int×Int)×Int)}{tx:V}{x:CS}{s0:Int}{z:List Int}{b:Sl}{q:V}(d6:x.st=U s0)(hl:x.out.length<1000):Sm W (n+54) dH (cQ 4) (lf (bA r k PL) tx (x.out.map .int) (.dict rK (rV r)) (bW (.int c) (.list ((z++[(x.pre.length:Int)]).map .int)) (cw b (lW q (.val (.bool (aJ (x.tl=[]\/fm r x.tl<rk r c)))))))) .next (lf (bA r k PL) tx ((ey r PL x c).out.map .int) (.dict rK (rV r)) (bW (.int c) (.list ((z++[(x.pre.length:Int)]).map .int)) (cw b (lW q (.val (.bool (aJ (x.tl=[]\/fm r x.tl<rk r c)))))))):=by
 have hc:(x.out.map V.int).length<cG:=nk (by rw[aO];exact hl)
 have hg:=yl d6
 rw[rg d6] at hg
 have hp:(ey r PL x c=x.push r c)->(ey r PL x c).out.map V.int=x.out.map V.int++[.int c]:=λe=>by rw[e,m8,bZ];rfl
 by_cases ho:x.tl=[]\/fm r x.tl<rk r c
 ·rw[decide_eq_true ho]
  have hi:=W3 (x:=s0) (y:=c) PL
  have hd:=Ej (x:=s0) (y:=c) PL
  cases q2:gW s0 c PL with
  |none=>
   rw[q2] at hi
   rw[hp (vm d6 q2)]
   exact afV yp hg hi hc
  |some p=>
   rw[q2] at hi hd
   have e:ey r PL x c={x with st:=U p}:=sZ d6 ho q2
   have h5:=Ng (p:=p) d6
   rw[rg d6] at h5
   rw[e,<-h5]
   exact afa yp hg hi (Eu (Aw PL) hd) (by rw[aO];have:=(By d6).2.1;rw[rg d6] at this;exact⟨fw _,this⟩)
 ·rw[decide_eq_false ho,hp (vM ho)]
  exact FZ hc
theorem Y3{W:Ws PG}{n:Nat}{r c:Int}{k:Bool}{PL:List ((Int×Int)×Int)}{tx:V}{x:CS}{s0:Int}{t:List (af×Sl)}(ht:zM (.int c) t)(d6:x.st=U s0)(hs0:bY s0=ah)(j2:∀d∈x.tl,bY d=J)(hl:x.out.length<1000)(hr:0<r):
  ∃h b q o,Ex W (n+54) dH [cQ 0,cQ 1,cQ 2,cQ 3,cQ 4] (lf (bA r k PL) tx (x.out.map .int) (.dict rK (rV r)) t) .next (lf (bA r k PL) tx ((ey r PL x c).out.map .int) (.dict rK (rV r)) (bW (.int c) h (cw b (lW q o)))):=by
 have H:=λt=>Md (W:=W) (n:=n) (r:=r) (w:=bA r k PL) (tx:=tx) (F:=x.out) (tl:=t)
 have hz:=Wv (p:=x.pre) hs0 j2 0
 rw[<-i5 d6,fx] at hz
 refine hz.elim λz hz=>?_
 rw[hz] at H
 have n0:bC .NotEq (L (z++[(x.pre.length:Int)])) (L [])=U true:=pF.trans (by rw[decide_eq_false (λe=>by cases z<;>cases e)];rfl)
 have hs:eU (x.out.map V.int) ((x.pre.length:Int)+1)=x.tl.map .int:=by
  have:=nf (T:=x.out) (p:=x.pre.length+1) (by rw[i5 d6,aX,fP];lia)
  rw[Ac] at this
  refine this.trans (congrArg (cA V.int) ?_)
  rw[i5 d6,show x.pre++s0::x.tl=(x.pre++[s0])++x.tl by rw[aN];rfl,List.drop_left' (by rw[aX];rfl)]
 have B:=λt=>Zx (W:=W) (n:=n) (r:=r) (w:=bA r k PL) (tx:=tx) (F:=x.out) (tl:=t) j2
 rw[<-hs] at B
 have he:bC .Eq (L ((x.tl.map (rk r)).filter λz=>aJ (rk r c<=z))) (L [])=U (aJ (x.tl=[]\/fm r x.tl<rk r c)):=pB.trans (congrArg U (decide_eq_decide.mpr (YK (tf hr).2 x.tl)))
 induction ht with
 |z=>exact(H _).elim λc1 k1=>(B _).elim λc2 k2=>MX.elim λc3 k3=>⟨_,_,_,_,aT (O5 k1) (aT (adk n0 yp k2) (aT MM.1 (aT (abZ n0 k3 he) (aT (MR d6 hl) tM))))⟩
 |s h b q o=>exact(H _).elim λc1 k1=>(B _).elim λc2 k2=>MX.elim λc3 k3=>⟨_,_,_,_,aT (OL k1) (aT (ab5 n0 yp k2) (aT (MM.2 q o) (aT (abB n0 k3 he) (aT (MR d6 hl) tM))))⟩
inductive Iq:List (af×Sl)->Prop
 |z:Iq []
 |s (c h b q o):Iq (bW c h (cw b (lW q o)))
inductive w2(r:Int)(k:Bool)(PL:List ((Int×Int)×Int))(tx:V)(R:CS)(l:List Int):S->Prop
 |mk (x:CS) (tl) (ht:Iq tl) (j1:∀p,x.st=U p->bY p=ah) (j2:∀d∈x.tl,bY d=J) (j3:x.st=aj->x.pre=[]) (hl:x.out.length+l.length<1000) (e:l.foldl (ey r PL) x=R):w2 r k PL tx R l (lf (bA r k PL) tx (x.out.map .int) (.dict rK (rV r)) tl)
theorem X5{r c:Int}{PL:List ((Int×Int)×Int)}{x:CS}(hr:0<r)(gZ:∀q∈PL,bY q.2=ah)(j1:∀p,x.st=U p->bY p=ah)(j2:∀d∈x.tl,bY d=J)(j3:x.st=aj->x.pre=[]):
  (∀p,(ey r PL x c).st=U p->bY p=ah)/\(∀d∈(ey r PL x c).tl,bY d=J)/\((ey r PL x c).st=aj->(ey r PL x c).pre=[])/\(ey r PL x c).out.length<=x.out.length+1:=by
 refine⟨?_,?_,?_,ME⟩<;>have h:=Ye (c:=c) hr j1 j2 j3
 ·exact m7 (Q:=λy=>∀p,y.st=U p->bY p=ah) (λj=>h.1) λs p hs q j p' e=>aA e▸gZ _ (yg q)
 ·exact m7 (Q:=λy=>∀d∈y.tl,bY d=J) (λj=>h.2.1) λs p hs q j=>j2
 ·exact m7 (Q:=λy=>y.st=aj->y.pre=[]) (λj=>h.2.2) λs p hs q j e=>mM e
theorem aaA{W:Ws PG}{n:Nat}{r c:Int}{k:Bool}{PL:List ((Int×Int)×Int)}{tx:V}{R:CS}{l:List Int}{s:S}(hr:0<r)(gZ:∀q∈PL,bY q.2=ah)(h:w2 r k PL tx R (c::l) s):eC W (n+54) dH ah (cE (wg 1)) (ba (wg 1)) (λf s=>f=.next/\w2 r k PL tx R [] s) (w2 r k PL tx R l) (.int c) s:=by
 induction h with
 |mk x tl ht j1 j2 j3 hl e=>
  rw[fP] at hl
  have iv:=X5 (c:=c) hr gZ j1 j2 j3
  have go:∀{t},zM (.int c) t->∃h b q o,Ex W (n+54) dH [cQ 0,cQ 1,cQ 2,cQ 3,cQ 4] (lf (bA r k PL) tx (x.out.map .int) (.dict rK (rV r)) t) .next (lf (bA r k PL) tx ((ey r PL x c).out.map .int) (.dict rK (rV r)) (bW (.int c) h (cw b (lW q o)))):=λ{t} ht=>by
   cases d6:x.st with
   |some s0=>exact Y3 ht d6 (j1 s0 d6) j2 (by lia) hr
   |none=>
    have ho:x.out=x.tl:=by rw[CS.out,d6,j3 d6];rfl
    rw[vn d6,m8]
    exact ZQ ht (by lia) (by rw[ho];exact Ln 0 j2)
  rw[afd]
  have fin:∀{h b q o},w2 r k PL tx R l (lf (bA r k PL) tx ((ey r PL x c).out.map .int) (.dict rK (rV r)) (bW (.int c) h (cw b (lW q o)))):=λ{h b q o}=>.mk _ _ (.s ..) iv.1 iv.2.1 iv.2.2.1 (by have:=iv.2.2.2;lia) e
  induction ht with
  |z=>exact(go .z).elim λh k=>k.elim λb k=>k.elim λq k=>k.elim λo k Q_ k_=>k_ _ _ _ (f7 [] ⋯) k fin
  |s c' h b q o=>exact(go (.s h b q o)).elim λh k=>k.elim λb k=>k.elim λq k=>k.elim λo k Q_ k_=>k_ _ _ _ (f7 [] ⋯) k fin
theorem abz{W:Ws PG}{n:Nat}{w tx ra:V}{F:List V}{tl:List (af×Sl)}:Ex W (n+59) dH [wg 2] (lf w tx F ra tl) (.ret (.list F)) {vars:=(n! "world",.val w)::(n! "text",.val tx)::(n! "ranks",.val ra)::(n! "found",.val (.list F))::tl}:=cV [] ⋯
theorem Mc{α β:Type}{f:List α->β->List α}(h:∀F a,(f F a).length=F.length)(l:List β):∀F,(l.foldl f F).length=F.length:=by
 induction l with
 |nil=>exact λF=>rfl
 |cons a l ih=>exact λF=>(ih _).trans (h F a)
theorem EO{r:Int}{F:List Int}:(jS r F).length=F.length:=Mc (λF j=>Mc (λF a=>Mb) _ F) _ F
theorem DQ{W:Ws PG}{n:Nat}{r:Int}{k:Bool}{PL:List ((Int×Int)×Int)}(hr:0<r)(gZ:∀q∈PL,bY q.2=ah){T:List Int}(hT:∀c∈T,c∈aB)(hw:kT k T<200)(hx:(aM k T).length<64):Ca W (n+60) 506 [bA r k PL,L T] [] (L (jQ r k PL T)) []:=by
 have f0:=λj=>Ey (W:=W) (n:=j) (r:=r) hT hw hx
 refine(pT W (I:=w2 r k PL (L T) ((jS r (aM k T)).foldl (ey r PL) ⟨[],aj,[]⟩)) (jS r (aM k T)) (λc y l s h=>aaA (n:=n+4) hr gZ h) (λs h=>⟨rfl,h⟩) (.mk ⟨[],aj,[]⟩ [] .z (λp e=>by cases e) (λd hd=>by cases hd) (λy=>rfl) (by rw[EO];show 0+_<_;lia) rfl)).run W λfl s' q h=>?_
 induction q with
 |intro e i=>
  subst e
  induction i with
  |mk x tl ht j1 j2 j3 hl e=>
   rw[jQ,<-e]
   exact v9 rfl rfl (aT (aL [] ⋯) (aT ((aL [sc 4200160750 (m:=n+57) (f0 _) (ak rfl (ak rfl (ak (aR _) rfl))) (aR _),eV 4200040303 h] ⋯:Sm W (n+59) dH (wg 1) (lf (bA r k PL) (.list (cA V.int T)) [] (.dict rK (rV r)) []) .next (lf (bA r k PL) (L T) (cA V.int x.out) (V.dict rK (rV r)) tl))) abz)) rfl
noncomputable def ad8:Cx:=eK PG 511 Cn
noncomputable def CI:Expr:=((kids (mK 1 (dx (st 1 Cn.body))))[1]?).getD (dx (st 1 Cn.body))
theorem agu{W:Ws PG}{n:Nat}{r c h:Int}{k q:Bool}{PL:List ((Int×Int)×Int)}{E l:List V}{c':List (af×V)}(fE:V.bI E=J)(f0:∀j,Ca W (j+40) 496 [.dict rK (rV r),.dict gK gV,.list [.int c],.bool k] [] (.list E) [])(h0:cC (.list E) (.int 0)=U (.int h))(h1:bC .NotIn (.int h) (.dict rK (rV r))=U J)(hc:dB W (n+55) (dk ad8 CI) (.items ah (PL.map gr)) (dg CI) (bF CI).target (bF CI).ifs {vars:=[(n! "world",.val (bA r k PL)),(n! "code",.val (.int c)),(n! "first",.val (.int h))]} l {vars:=[(n! "world",.val (bA r k PL)),(n! "code",.val (.int c)),(n! "first",.val (.int h))],cv:=c'})(h2:bC .NotIn (.int h) (.list l)=U q):Ca W (n+60) 511 [bA r k PL,.int c] [] (.bool q) []:=bU [sc 4310120820 (m:=n+56) (f0 _) rfl fE,sv 4310120850 h0,sb 4320240381 h1,sm 4320560923 hc,sb 4320560921 h2] ⋯
section
theorem D9{c:Int}{A:List Int}:isIn (.int c) (A.map .int)=U (A.contains c):=by
 have h:isKey (.int c) (A.map .int)=U (A.contains c):=Ko
 rw[isKey,if_pos jF,dJ,List.findIdx?_isSome] at h
 rw[isIn,show(A.map V.int).all (fq 8)=J from md.mpr λv hv=>(i4.mp hv).elim λi h=>h.2▸rfl]
 exact h
theorem ko{k:Bool}{l:List Int}:(∀c∈l,c∈aB)->kT k l<=5*l.length/\(aM k l).length<=3*l.length/\l.length<=(aM k l).length:=by
 induction l with
 |nil=>exact λj=>⟨aQ _,aQ _,aQ _⟩
 |cons c l ih=>
  intro h
  have i:=ih λc hc=>h c (.tail _ hc)
  have e:=te (k:=k) c (h c (.head _))
  have w:wt k c<=5:=by
   induction k
   ·exact lu (P:=λc=>wt ah c<=5) (by decide+kernel) c (h c (.head _))
   ·exact lu (P:=λc=>wt J c<=5) (by decide+kernel) c (h c (.head _))
  rw[Er,aM,mT,aX,fP,Nat.mul_succ,Nat.mul_succ,kb (wt k c),kb (ex k c).length]
  exact⟨sH i.1 w,sH i.2.1 e.2,sH i.2.2 e.1⟩
noncomputable def one(r:Int)(k:Bool)(c:Int):List Int:=jS r (aM k [c])
noncomputable def ahE(PL:List ((Int×Int)×Int)):List Int:=PL.map λp=>p.1.2
noncomputable def yX(PL:List ((Int×Int)×Int)):List Int:=PL.map λp=>p.1.1
noncomputable def oE(r:Int)(k:Bool)(PL:List ((Int×Int)×Int))(c:Int):Bool:=!bY ((one r k c).headD 0)&&!(ahE PL).contains ((one r k c).headD 0)
section
variable {W:Ws PG}{n:Nat}{r c:Int}{k:Bool}{PL:List ((Int×Int)×Int)}
theorem yq{d:Int}(hc:c∈aB):∀d∈[c],d∈aB:=λd hd=>cK.mp hd▸hc
theorem FH(hc:c∈aB):Ca W (n+40) 496 [pQ r,pR,L [c],.bool k] [] (L (one r k c)) []:=
 have h:=ko (yq (d:=c) hc)
 Ey (yq (d:=c) hc) (bq h.1 (by decide:5*1<200)) (bq h.2.1 (by decide:3*1<64))
theorem Oa(hc:c∈aB):one r k c≠[]:=λe=>by
 have h:=(ko (k:=k) (yq (d:=c) hc)).2.2
 rw[(EO).symm.trans (congrArg qL e)] at h
 exact Jl 0 h
theorem Fc{l:List Int}(h:l≠[]):cC (L l) (.int 0)=U (.int (l.headD 0)):=by
 induction l with
 |nil=>exact absurd rfl h
 |cons a l=>rfl
theorem Kk(hc:c∈aB):Ca W (n+60) 511 [bA r k PL,.int c] [] (.bool (oE r k PL c)) []:=by
 have f0:=λj=>FH (W:=W) (n:=j) (r:=r) (k:=k) hc
 have h0:=Fc (Oa (r:=r) (k:=k) hc)
 have h1:=congrArg kK (AG (c:=(one r k c).headD 0))
 rw[oE]
 cases q:bY ((one r k c).headD 0)<;>rw[q] at h1
 ·refine(pS W (s:={vars:=[(n! "world",.val (bA r k PL)),(n! "code",.val (.int c)),(n! "first",.val (.int ((one r k c).headD 0)))]}) (u:=λp=>.int p.1.2) (λp hp=>⟨rfl,jd ((jf [] ⋯))⟩) []).elim λc' h=>agu (aR _) f0 h0 h1 h ?_
  rw[<-vA]
  exact congrArg kK D9
 ·exact bU [sc 4310120820 (m:=n+56) (f0 _) rfl (aR _),sv 4310120850 h0,sb 4320240381 h1] ⋯
end
end
noncomputable abbrev si{W:Ws PG}{n:Nat}{cx:Cx}{s:S}(k:Nat){l:List Int}{args:List ai}(p:yA W n cx s l args):cI:=⟨k,.i l,"sorted"="sorted"/\yA W n cx s l args,rfl,p⟩
theorem Um(l:List ((Int×Int)×Int)):V.bI (l.map gr)=true:=by
 induction l with
 |nil=>rfl
 |cons a l ih=>exact ih
theorem hU{r:Int}{k:Bool}{PL:List ((Int×Int)×Int)}:V.free (bA r k PL)=true:=by
 have h:(V.bI (PL.map gr)&&V.bI (PL.map λp=>.int p.2))=true:=by
  rw[Um,<-vA,aR];rfl
 show(V.free (.dict rK (rV r))&&(V.free (.dict gK gV)&&(J&&((V.bI (PL.map gr)&&V.bI (PL.map λp=>.int p.2))&&J))))=J
 rw[h];rfl
noncomputable def BJ(e:ai):List Expr:=((yP e).map (·.2.1)).getD []
noncomputable def iN:Cx:=eK PG 521 Hm
noncomputable def eS(i:Nat):Stmt:=st i Hm.body
noncomputable def nM:Expr:=((kids (mK 2 (dx (st 2 (ba (eS 0))))))[1]?).getD (dx (eS 0))
noncomputable def ir(w da wd tx:V)(tl:List (af×Sl)):S:={vars:=(n! "world",.val w)::(n! "data",.val da)::(n! "word",.val wd)::(n! "text",.val tx)::tl}
noncomputable def p4(c l k d:V):List (af×Sl):=[(n! "code",.val c),(n! "last",.val l),(n! "is_kept",.val k),(n! "due",.val d)]
noncomputable def oU(c l k:V)(tl:List (af×Sl)):List (af×Sl):=(n! "code",.val c)::(n! "last",.val l)::(n! "is_kept",.val k)::tl
theorem adH{W:Ws PG}{n:Nat}{r c h:Int}{k q:Bool}{PL:List ((Int×Int)×Int)}{l:List V}{c':List (af×V)}{da wd tx:V}(f0:∀j,Ca W (j+60) 511 [bA r k PL,.int c] [] (.bool J) [])(hc:dB W (n+84) (dk iN nM) (.items ah (PL.map gr)) (dg nM) (bF nM).target (bF nM).ifs (ir (bA r k PL) da wd tx (oU (.int c) (.int h) (.bool J) [])) l {ir (bA r k PL) da wd tx (oU (.int c) (.int h) (.bool J) []) with cv:=c'})(h2:bC .NotIn (.int c) (.list l)=U q):Sm W (n+88) iN (st 2 (ba (eS 0))) (ir (bA r k PL) da wd tx (oU (.int c) (.int h) (.bool J) [])) .next (ir (bA r k PL) da wd tx (p4 (.int c) (.int h) (.bool J) (.bool q))):=aL [sc 4620260510 (m:=n+85) (f0 _) (ak ((hU)) rfl) rfl,sm 4620691053 hc,sb 4620691051 h2] ⋯
theorem abT{W:Ws PG}{n:Nat}{r c h:Int}{k q:Bool}{PL:List ((Int×Int)×Int)}{l:List V}{c':List (af×V)}{da wd tx d0:V}(f0:∀j,Ca W (j+60) 511 [bA r k PL,.int c] [] (.bool J) [])(hc:dB W (n+84) (dk iN nM) (.items ah (PL.map gr)) (dg nM) (bF nM).target (bF nM).ifs (ir (bA r k PL) da wd tx (oU (.int c) (.int h) (.bool J) [(n! "due",.val d0)])) l {ir (bA r k PL) da wd tx (oU (.int c) (.int h) (.bool J) [(n! "due",.val d0)]) with cv:=c'})(h2:bC .NotIn (.int c) (.list l)=U q):Sm W (n+88) iN (st 2 (ba (eS 0))) (ir (bA r k PL) da wd tx (oU (.int c) (.int h) (.bool J) [(n! "due",.val d0)])) .next (ir (bA r k PL) da wd tx (p4 (.int c) (.int h) (.bool J) (.bool q))):=aL [sc 4620260510 (m:=n+85) (f0 _) (ak ((hU)) rfl) rfl,sm 4620691053 hc,sb 4620691051 h2] ⋯
theorem Pz{W:Ws PG}{n:Nat}{r c:Int}{b:Nat}{l k:V}{d:Bool}{w tx:V}{wd:af}(f0:∀j,Ca W (j+80) 213 [.int c,dat r b,.str wd] [] (.bool d) [])(h:bC .NotEq (.bool d) (.bool d)=U ah):Sm W (n+88) iN (st 3 (ba (eS 0))) (ir w (dat r b) (.str wd) tx (p4 (.int c) l k (.bool d))) .next (ir w (dat r b) (.str wd) tx (p4 (.int c) l k (.bool d))):=aL [sc 4630110370 (m:=n+85) (f0 _) (ak rfl (ak ((aZ)) rfl)) rfl,sb 4630410441 h] ⋯
theorem agJ{W:Ws PG}{n:Nat}{w da wd:V}{T:List V}{l:List Int}{s':S}(ha:yA W (n+87) iN (ir w da wd (.list T) []) l (BJ (dx (eS 0))))(h:iS W (n+88) iN (.items ah ((sortI (fZ l)).map .int)) (cE (eS 0)) (ba (eS 0)) (ir w da wd (.list T) []) .next s'):Sm W (n+89) iN (eS 0) (ir w da wd (.list T) []) .next s':=aL [si 4590160330 ha,eV 4590040243 h] ⋯
noncomputable def RB:Expr:=((BJ (((BJ (dx (eS 0)))[0]?).getD (dx (eS 0))))[0]?).getD (dx (eS 0))
theorem Zi(T:List Int):vW (T.map .int)=U T:=by
 induction T with
 |nil=>rfl
 |cons a T ih=>exact congrArg (Ax (a::·)) ih
theorem abM{W:Ws PG}{n:Nat}{w da wd:V}{T:List Int}(hl:T.length<64):yA W (n+87) iN (ir w da wd (L T) []) T (BJ (dx (eS 0))):=
 λQ_ k_=>k_ _ _ _ RB (.val (L T)) (T.map .int) rfl ⋯ ⋯ (Qy (jf [] ⋯:Ev W (n+87) iN RB (ir w da wd (.list (cA V.int T)) []) (.val (.list (cA V.int T))) (ir w da wd (.list (cA V.int T)) []))) rfl (Zi T) hl
section
noncomputable def tT(r:Int)(k:Bool)(PL:List ((Int×Int)×Int))(c:Int):Bool:=(aJ (jQ r k PL [c]=[c])&&!bY ((one r k c).getLastD 0))&&(oE r k PL c&&!(yX PL).contains c)
theorem W6{i a:Int}{l:List Int}:a∈insI i l->a=i\/a∈l:=by
 induction l with
 |nil=>exact λh=>.inl (cK.mp h)
 |cons j l ih=>
  intro h
  unfold insI at h
  split at h
  ·exact cf.mp h
  ·exact(cf.mp h).elim (λh=>.inr (h▸.head _)) λh=>(ih h).imp id (.tail _)
theorem Wk{a:Int}{l:List Int}:a∈sortI l->a∈l:=by
 induction l with
 |nil=>exact id
 |cons j l ih=>exact λh=>(W6 h).elim (λe=>e▸.head _) λh=>.tail _ (ih h)
theorem WC{a:Int}{l:List Int}:a∈fZ l->a∈l:=by
 induction l with
 |nil=>exact id
 |cons j l ih=>
  intro h
  unfold fZ at h
  split at h
  ·exact .tail _ (ih h)
  ·exact(cf.mp h).elim (λh=>h▸.head _) λh=>.tail _ (ih h)
theorem Mz{l:List Int}(h:l≠[]):cC (L l) (.int (-1))=U (.int (l.getLastD 0)):=by
 have:=yp (z:=l.dropLast) (a:=l.getLast h)
 rw[List.dropLast_concat_getLast] at this
 rw[this,List.getLastD_eq_getLast?,List.getLast?_eq_some_getLast h];rfl
section
variable {W:Ws PG}{n w b:Nat}{r c:Int}{k:Bool}{PL:List ((Int×Int)×Int)}{da wd tx:V}{h:Int}
theorem X4(hr:0<r)(gZ:∀q∈PL,bY q.2=ah)(hc:c∈aB):Ca W (n+60) 506 [bA r k PL,L [c]] [] (L (jQ r k PL [c])) []:=
 have h:=ko (yq (d:=c) hc)
 DQ hr gZ (yq (d:=c) hc) (bq h.1 (by decide:5*1<200)) (bq h.2.1 (by decide:3*1<64))
theorem ZP(hr:0<r)(gZ:∀q∈PL,bY q.2=ah)(hc:c∈aB):Sm W (n+88) iN (st 1 (ba (eS 0))) (ir (bA r k PL) da wd tx [(n! "code",.val (.int c)),(n! "last",.val (.int h))]) .next (ir (bA r k PL) da wd tx (oU (.int c) (.int h) (.bool (aJ (jQ r k PL [c]=[c])&&!bY h)) []))/\
  ∀k0 d0,Sm W (n+88) iN (st 1 (ba (eS 0))) (ir (bA r k PL) da wd tx (p4 (.int c) (.int h) k0 d0)) .next (ir (bA r k PL) da wd tx (oU (.int c) (.int h) (.bool (aJ (jQ r k PL [c]=[c])&&!bY h)) [(n! "due",.val d0)])):=by
 have f0:=λj=>X4 (W:=W) (n:=j) (k:=k) hr gZ hc
 have he:bC .Eq (L (jQ r k PL [c])) (L [c])=U (aJ (jQ r k PL [c]=[c])):=pB
 have hn:=congrArg kK (AG (c:=h))
 cases q:aJ (jQ r k PL [c]=[c])<;>rw[q] at he
 ·exact⟨(aL [sc 4610180420 (m:=n+84) (f0 _) (ak ((hU)) rfl) (aR _),sb 4610460521 he] ⋯),λk0 d0=>aL [sc 4610180420 (m:=n+84) (f0 _) (ak ((hU)) rfl) (aR _),sb 4610460521 he] ⋯⟩
 ·exact⟨(aL [sc 4610180420 (m:=n+84) (f0 _) (ak ((hU)) rfl) (aR _),sb 4610460521 he,sb 4610690831 hn] ⋯),λk0 d0=>aL [sc 4610180420 (m:=n+84) (f0 _) (ak ((hU)) rfl) (aR _),sb 4610460521 he,sb 4610690831 hn] ⋯⟩
theorem Nd{s:List (af×Sl)}{w:V}:∃c',dB W (n+84) (dk iN nM) (.items ah (PL.map gr)) (dg nM) (bF nM).target [] (ir w da wd tx s) ((yX PL).map .int) {ir w da wd tx s with cv:=c'}:=by
 rw[yX,vA]
 exact pS W (λp hp=>⟨rfl,jd ((jf [] ⋯))⟩) []
theorem acV{q:Bool}(hc:c∈aB):Sm W (n+88) iN (st 2 (ba (eS 0))) (ir (bA r k PL) da wd tx (oU (.int c) (.int h) (.bool q) [])) .next (ir (bA r k PL) da wd tx (p4 (.int c) (.int h) (.bool q) (.bool (q&&(oE r k PL c&&!(yX PL).contains c)))))/\
  ∀d0,Sm W (n+88) iN (st 2 (ba (eS 0))) (ir (bA r k PL) da wd tx (oU (.int c) (.int h) (.bool q) [(n! "due",.val d0)])) .next (ir (bA r k PL) da wd tx (p4 (.int c) (.int h) (.bool q) (.bool (q&&(oE r k PL c&&!(yX PL).contains c))))):=by
 induction q with
 |false=>exact⟨(aL [] ⋯),λd0=>aL [] ⋯⟩
 |true=>
  have f0:=λj=>Kk (W:=W) (n:=j) (r:=r) (k:=k) (PL:=PL) hc
  cases q:oE r k PL c<;>rw[q] at f0
  ·exact⟨(aL [sc 4620260510 (m:=n+85) (f0 _) (ak ((hU)) rfl) rfl] ⋯),λd0=>aL [sc 4620260510 (m:=n+85) (f0 _) (ak ((hU)) rfl) rfl] ⋯⟩
  ·exact⟨Nd.elim λc' h=>adH f0 h (congrArg kK D9),λd0=>Nd.elim λc' h=>abT f0 h (congrArg kK D9)⟩
inductive t6(w da wd tx:V):S->Prop
 |z:t6 w da wd tx (ir w da wd tx [])
 |s (c l k d):t6 w da wd tx (ir w da wd tx (p4 c l k d))
theorem aeV:ba (eS 0)=[st 0 (ba (eS 0)),st 1 (ba (eS 0)),st 2 (ba (eS 0)),st 3 (ba (eS 0))]:=by kernel_rfl
theorem YR{s:S}(hw:w<4)(hr:0<r)(gZ:∀q∈PL,bY q.2=ah)(hc:c∈aB)(hd:vJ r b w c=tT r (wk w) PL c)(h:t6 (bA r (wk w) PL) (dat r b) (.str (bB w)) tx s):
  eC W (n+88) iN ah (cE (eS 0)) (ba (eS 0)) (λf s=>f=.next/\t6 (bA r (wk w) PL) (dat r b) (.str (bB w)) tx s) (t6 (bA r (wk w) PL) (dat r b) (.str (bB w)) tx) (.int c) s:=by
 have f0:=λj=>FH (W:=W) (n:=j) (r:=r) (k:=wk w) hc
 have f3:=λj=>TV (W:=W) (n:=j) (b:=b) (r:=r) hw hc
 have h0:=Mz (Oa (r:=r) (k:=wk w) hc)
 have K:=ZP (W:=W) (n:=n) (da:=dat r b) (wd:=.str (bB w)) (tx:=tx) (k:=wk w) (h:=(one r (wk w) c).getLastD 0) hr gZ hc
 have D:=λq=>acV (W:=W) (n:=n) (da:=dat r b) (wd:=.str (bB w)) (tx:=tx) (r:=r) (k:=wk w) (PL:=PL) (h:=(one r (wk w) c).getLastD 0) (q:=q) hc
 rw[hd] at f3
 have e:bC .NotEq (.bool (tT r (wk w) PL c)) (.bool (tT r (wk w) PL c))=U false:=by induction tT r (wk w) PL c<;>rfl
 rw[aeV]
 induction h with
 |z=>exact λQ_ k_=>k_ _ _ _ (f7 [] ⋯) (aT ((aL [sc 4600150850 (m:=n+85) (f0 _) rfl (aR _),sv 4600150890 h0] ⋯:Sm W (n+88) iN (st 0 (ba (eS 0))) (ir (bA r (wk w) PL) (dat r b) (V.str (bB w)) tx [(n! "code",.val (.int c))]) .next (ir (bA r (wk w) PL) (dat r b) (V.str (bB w)) tx [(n! "code",.val (.int c)),(n! "last",.val (.int ((one r (wk w) c).getLastD 0)))]))) (aT K.1 (aT (D _).1 (aT (Pz f3 e) tM)))) (t6.s ..)
 |s c' l k d=>exact λQ_ k_=>k_ _ _ _ (f7 (s':=(ir (bA r (wk w) PL) (dat r b) (V.str (bB w)) tx (p4 (V.int c) l k d))) [] ⋯) (aT ((aL [sc 4600150850 (m:=n+85) (f0 _) rfl (aR _),sv 4600150890 h0] ⋯)) (aT (K.2 k d) (aT ((D _).2 d) (aT (Pz f3 e) tM)))) (t6.s ..)
theorem SV{T:List Int}(hw:w<4)(hr:0<r)(gZ:∀q∈PL,bY q.2=ah)(hT:∀c∈T,c∈aB)(hl:T.length<64)(hd:∀c∈T,vJ r b w c=tT r (wk w) PL c):Ca W (n+90) 521 [bA r (wk w) PL,dat r b,.str (bB w),L T] [] (.bool J) []:=
 have hm:∀c∈sortI (fZ T),c∈T:=λc h=>WC (Wk h)
 (pT W (sortI (fZ T)) (λc hc j s h=>YR hw hr gZ (hT c (hm c hc)) (hd c (hm c hc)) h) (λs h=>⟨rfl,h⟩) .z).run W λf s q h=>by
  induction q with
  |intro e i=>
   subst e
   have R:∀{tl},iS W (n+88) iN (.items ah ((sortI (fZ T)).map .int)) (cE (eS 0)) (ba (eS 0)) (ir (bA r (wk w) PL) (dat r b) (.str (bB w)) (L T) []) .next (ir (bA r (wk w) PL) (dat r b) (.str (bB w)) (L T) tl)->Ca W (n+90) 521 [bA r (wk w) PL,dat r b,.str (bB w),L T] [] (.bool J) []:=λh=>v9 rfl rfl (aT (agJ (abM hl) h) (aeg [] ⋯)) rfl
   induction i with
   |z=>exact R h
   |s c l k d=>exact R h
end
end
noncomputable def fU:Cx:=eK PG 526 Hb
noncomputable def rI(i:Nat):Stmt:=st i Hb.body
noncomputable def cY(i:Nat):Stmt:=st i (ba (rI 1))
noncomputable def iw:Expr:=dx (cY 1)
noncomputable abbrev lR:=Int×Nat×Bool×List ((Int×Int)×Int)×List Int×Int
noncomputable def sq(p:lR)(F:List V)(m f:V)(tl:List (af×Sl)):S:={vars:=(n! "world",.val (bA p.1 p.2.2.1 p.2.2.2.1))::(n! "data",.val (dat p.1 p.2.1))::(n! "text",.val (L p.2.2.2.2.1))::(n! "most",.val (.int p.2.2.2.2.2))::(n! "ranks",.val (.dict rK (rV p.1)))::(n! "found",.list F)::(n! "many",.val m)::(n! "is_fit",.val f)::tl}
noncomputable def gJ(c E:V)(H:List V)(a:V):List (af×Sl):=[(n! "code",.val c),(n! "some",.val E),(n! "heads",.list H),(n! "ahead",.val a)]
theorem X1{W:Ws PG}{n:Nat}{p:lR}{F H:List V}{m f c' E a c:V}:Bd W (n+83) fU ah (cE (rI 1)) c (sq p F m f (gJ c' E H a)) (sq p F m f (gJ c E H a)):=f7 [] ⋯
theorem ad1{W:Ws PG}{n:Nat}{p:lR}{F H E:List V}{c:Int}{m f E0 a:V}(fE:V.bI E=J)(f0:∀j,Ca W (j+40) 496 [.dict rK (rV p.1),.dict gK gV,.list [.int c],.bool J] [] (.list E) []):Sm W (n+83) fU (cY 0) (sq p F m f (gJ (.int c) E0 H a)) .next (sq p F m f (gJ (.int c) (.list E) H a)):=aL [sc 4690150620 (m:=n+81) (f0 _) rfl fE] ⋯
theorem aet{W:Ws PG}{n:Nat}{p:lR}{F E l:List V}{m f c:V}{c':List (af×V)}(h:dB W (n+82) (dk fU iw) (.items J (jO 0 E)) (dg iw) (bF iw).target (bF iw).ifs (sq p F m f [(n! "code",.val c),(n! "some",.val (.list E))]) l {sq p F m f [(n! "code",.val c),(n! "some",.val (.list E))] with cv:=c'}):Sm W (n+83) fU (cY 1) (sq p F m f [(n! "code",.val c),(n! "some",.val (.list E))]) .next (sq p F m f [(n! "code",.val c),(n! "some",.val (.list E)),(n! "heads",.list l)]):=aL [sm 4700160713 h] ⋯
theorem aff{W:Ws PG}{n:Nat}{p:lR}{F E H l:List V}{m f c a:V}{c':List (af×V)}(h:dB W (n+82) (dk fU iw) (.items J (jO 0 E)) (dg iw) (bF iw).target (bF iw).ifs (sq p F m f (gJ c (.list E) H a)) l {sq p F m f (gJ c (.list E) H a) with cv:=c'}):Sm W (n+83) fU (cY 1) (sq p F m f (gJ c (.list E) H a)) .next (sq p F m f (gJ c (.list E) l a)):=aL [sm 4700160713 h] ⋯
theorem aeo{W:Ws PG}{n:Nat}{p:lR}{F H:List V}{m a:Int}{f c E:V}(h:0<m)(h2:¬p.2.2.2.2.2<m+a):Sm W (n+83) fU (cY 3) (sq p F (.int m) f (gJ c E H (.int a))) .next (sq p F (.int m) f (gJ c E H (.int a))):=aL [sb 4720180191 (kD h),sb 4720390431 (kJ h2)] ⋯
theorem aed{W:Ws PG}{n:Nat}{p:lR}{F H:List V}{m a:Int}{q:Bool}{c E:V}(h:bC .LtE (.int (m+a)) (.int p.2.2.2.2.2)=U q):Sm W (n+83) fU (cY 4) (sq p F (.int m) (.bool J) (gJ c E H (.int a))) .next (sq p F (.int m) (.bool q) (gJ c E H (.int a))):=aL [sb 4750440481 h] ⋯
theorem ad7{W:Ws PG}{n:Nat}{p:lR}{F H:List V}{m:Int}{q:Bool}{c E a:V}(h:bC .LtE (.int m) (.int p.2.2.2.2.2)=U q):Sm W (n+83) fU (cY 6) (sq p F (.int m) (.bool J) (gJ c E H a)) .next (sq p F (.int m) (.bool q) (gJ c E H a)):=aL [sb 4770360401 h] ⋯
section
noncomputable def m1(r c m:Int):Int:=if am r c=J then m+ld r c else tr r c
section
variable {r mo c m:Int}{R:List Int}
theorem NG{a b:Int}{X:Bool}:(if b<a then ah else X)=(aJ (a<=b)&&X):=by
 by_cases h:b<a
 ·rw[if_pos h,decide_eq_false (D0.mpr h)];rfl
 ·rw[if_neg h,decide_eq_true (gA.mp h)];rfl
theorem x5:iM r mo (c::R) m=(aJ (m+ld r c<=mo)&&(aJ (m1 r c m<=mo)&&iM r mo R (m1 r c m))):=NG.trans (congrArg _ NG)
theorem OX:∀f d e X:Bool,(f&&(d&&(e&&X)))=(((f&&d)&&e)&&X):=by decide
theorem aeD:∀f D d e X:Bool,((f&&D)&&(d&&(e&&X)))=((((f&&d)&&e)&&D)&&X):=by decide
def w4(r mo:Int)(T l F:List Int)(m:Int)(f:Bool):Prop:=∀C:Prop,(∀(d:List Int) (hT:d++l=T) (e:F++jK r mo l m=jK r mo T 0) (a:∀R,iM r mo (F++R) 0=(f&&iM r mo R m)) (b:∀R,iM r mo (d++R) 0=((f&&aJ (F=d))&&iM r mo R m)) (s:F.filter (λc=>!decide (c=847))=d) (hm:f=J->m<=mo),C)->C
theorem oO{a b:List Int}{c:Int}:a++c::b=(a++[c])++b:=(List.append_cons a c b)
variable {T l F:List Int}{f:Bool}
theorem ab8(h:w4 r mo T (c::l) F m f)(hc:c≠847)(q:¬(0<m/\mo<m+ld r c)):w4 r mo T l (F++[c]) (m1 r c m) ((f&&aJ (m+ld r c<=mo))&&aJ (m1 r c m<=mo)):=by
 refine h _ λd hT e a b s hm=>?_
 rw[jK,if_neg q,oO] at e
 exact λQ_ k_=>k_ (d++[c]) (oO▸hT) e (λR=>by rw[<-oO,a,x5,OX]) (λR=>by rw[<-oO,b,x5,aeD,decide_eq_decide.mpr (SD [c])]) (by rw[Jv,s,Jd (by rw[decide_eq_false hc];rfl)];rfl) (λq=>of_decide_eq_true (aU q))
theorem adb(h:w4 r mo T (c::l) F m f)(hc:c≠847)(h7:∀x∈T,x≠847)(h0:0<=mo)(q:0<m/\mo<m+ld r c):w4 r mo T l ((F++[847])++[c]) (m1 r c 0) ((f&&aJ (0+ld r c<=mo))&&aJ (m1 r c 0<=mo)):=by
 refine h _ λd hT e a b s hm=>?_
 rw[jK,if_pos q,oO,oO] at e
 refine λQ_ k_=>k_ (d++[c]) (oO▸hT) e (λR=>?_) (λR=>?_) ?_ (λq=>of_decide_eq_true (aU q))
 ·have h8:iM r mo (847::c::R) m=(aJ (m+0<=mo)&&(aJ ((0:Int)<=mo)&&iM r mo (c::R) 0)):=x5
  rw[<-oO,<-oO,a,h8,<-OX,x5,decide_eq_true h0]
  induction f
  ·rfl
  ·rw[decide_eq_true (show m+0<=mo by rw[JX];exact hm rfl)];rfl
 ·have n:¬(F++[847])++[c]=d++[c]:=λe=>h7 847 (hT▸bp _ ((SD [c]).mp e▸cy _ (.head _))) rfl
  rw[<-oO,b,x5,decide_eq_false (D0.mpr q.2),decide_eq_false n,JM,Bool.and_false,Bool.and_false,JM]
 ·rw[Jv,Jv,s,Sa (by decide),Jd (by rw[decide_eq_false hc];rfl),aN];rfl
theorem YU(h:w4 r mo T [] F m f):F=jK r mo T 0/\iM r mo F 0=f/\iM r mo T 0=(f&&aJ (F=T))/\F.filter (λc=>!decide (c=847))=T:=by
 refine h _ λd hT e a b s hm=>?_
 rw[bx] at hT
 subst hT
 have a:=a []
 have b:=b []
 rw[jK,bx] at e
 rw[bx,iM,Bool.and_true] at a b
 exact⟨e,a,b,s⟩
theorem LQ{r:Int}(hr:eW r):∀c∈codes,(jT 0 (one r J c)=[]/\((one r J c).length:Int)=ld r c/\am r c=J)\/(jT 0 (one r J c)≠[]/\(jT 0 (one r J c)).headD 0=ld r c/\((one r J c).length:Int)-1-(jT 0 (one r J c)).getLastD 0=tr r c/\am r c=ah):=by
 rcases hr with rfl|rfl|rfl<;>decide+kernel
theorem Wx(ht:∀c∈T,c∈codes):∀{m},∀c∈jK r mo T m,c∈aB:=by
 induction T with
 |nil=>exact λc h=>nomatch h
 |cons d t ih=>
  intro m c h
  have i:=λm=>@ih (λc h=>ht c (.tail _ h)) m c
  have j:c=d->c∈aB:=λe=>.tail _ (e▸ht d (.head _))
  unfold jK at h
  split at h
  ·exact(cf.mp h).elim (λe=>e▸.head _) λh=>(cf.mp h).elim j (i _)
  ·exact(cf.mp h).elim j (i _)
theorem aaW{α:Type}{g:α->V}{l:List α}:∀{k i:Nat},(jO k (l.map g))[i]?=(l[i]?).map λv=>V.tup [.int ((k+i:Nat):Int),g v]:=by
 induction l with
 |nil=>exact rfl
 |cons a l ih=>
  intro k i
  induction i with
  |zero=>rfl
  |succ i=>
   show(jO (k+1) (l.map g))[i]?=(l[i]?).map _
   rw[ih,qE];rfl
end
end
section
section
variable {W:Ws PG}{n:Nat}{p:lR}{F H E:List V}{m a c d:Int}{f:Bool}{mv x y:V}{tl:List (af×Sl)}
noncomputable def sa(p:lR)(c:Int):List Int:=one p.1 J c
noncomputable def l5(p:lR)(c:Int):List Int:=jT 0 (sa p c)
noncomputable def kN(p:lR)(c:Int):List (af×Sl):=gJ (.int c) (L (sa p c)) ((l5 p c).map .int) (.int (ld p.1 c))
theorem acJ:Sm W (n+83) fU (cY 4) (sq p F (.int m) (.bool f) (gJ x y H (.int a))) .next (sq p F (.int m) (.bool (f&&aJ (m+a<=p.2.2.2.2.2))) (gJ x y H (.int a))):=by
 induction f
 ·exact aL [] ⋯
 ·exact aed rfl
theorem aa3:Sm W (n+83) fU (cY 6) (sq p F (.int m) (.bool f) (gJ x y H mv)) .next (sq p F (.int m) (.bool (f&&aJ (m<=p.2.2.2.2.2))) (gJ x y H mv)):=by
 induction f
 ·exact aL [] ⋯
 ·exact ad7 rfl
theorem eq_nil{H:List Int}:bC .Eq (L H) (L [])=U (aJ (H=[])):=pB
theorem Zt(hr:eW p.1)(hc:c∈codes):Sm W (n+83) fU (cY 5) (sq p F (.int m) (.bool f) (kN p c)) .next (sq p F (.int (m1 p.1 c m)) (.bool f) (kN p c)):=by
 have e:=eq_nil (H:=l5 p c)
 rcases LQ hr c hc with ⟨h1,h2,h3⟩|⟨h1,h2,h3,h4⟩
 ·rw[show l5 p c=[] from h1] at e
  rw[m1,if_pos h3,kN,show l5 p c=[] from h1]
  exact aL [sb 4760400421 e] ⋯
 ·rw[decide_eq_false (show ¬l5 p c=[] from h1)] at e
  rw[m1,if_neg (xt.mp h4),<-h3,<-aO (f:=V.int)]
  exact aL [sb 4760400421 e,sv 4760640730 (Mz h1)] ⋯
theorem My(hr:eW p.1)(hc:c∈codes)(hF:F.length<1000):Ex W (n+83) fU [cY 4,cY 5,cY 6,cY 7] (sq p F (.int m) (.bool f) (kN p c)) .next (sq p (F++[.int c]) (.int (m1 p.1 c m)) (.bool ((f&&aJ (m+ld p.1 c<=p.2.2.2.2.2))&&aJ (m1 p.1 c m<=p.2.2.2.2.2))) (kN p c)):=
 aT acJ (aT (Zt hr hc) (aT aa3 ((cV [sp 4780080264 (nk hF)] ⋯))))
theorem agl:(bF iw).ifs=[((bF iw).ifs[0]?).getD iw]:=by kernel_rfl
theorem LW:∃c',dB W (n+82) (dk fU iw) (.items J (jO 0 ((sa p c).map .int))) (dg iw) (bF iw).target (bF iw).ifs (sq p F mv x tl) ((l5 p c).map .int) {sq p F mv x tl with cv:=c'}:=by
 rw[l5,<-Oq]
 refine(Cb W (n:=n+82) (cx:=dk fU iw) (it:=.items J (jO 0 ((sa p c).map .int))) (elt:=dg iw) (t:=(bF iw).target) (ifs:=(bF iw).ifs) (s:=sq p F mv x tl) (enc:=λi c=>.tup [.int (i:Nat),.int c]) (g:=λi c=>if(!bY c)=J then U (V.int (i:Nat)) else aj) (l0:=sa p c) (λi c=>?_) (λi c=>?_) (sa p c) [] [] rfl).elim λm k=>k.imp λc' k=>⟨m,k⟩
 ·exact sT (aaW.trans (by rw[fx]))
 ·rw[agl]
  have h:=congrArg kK (AG (c:=c))
  cases q:bY c<;>rw[q] at h
  ·exact .take [(n! "at",.int (i:Nat)),(n! "one",.int c)] _ rfl (tD ((fj [sb 4700650701 h] ⋯)) oC) (jd ((jf [] ⋯)))
  ·exact .skip [(n! "at",.int (i:Nat)),(n! "one",.int c)] rfl (vC ((fj [sb 4700650701 h] ⋯)))
inductive IX:List (af×Sl)->Prop
 |z:IX []
 |s (u E:V) (H:List V) (v:V):IX (gJ u E H v)
inductive qs(p:lR)(l:List Int):S->Prop
 |mk (F:List Int) (m:Int) (f:Bool) (tl:List (af×Sl)) (ht:IX tl) (h:w4 p.1 p.2.2.2.2.2 p.2.2.2.2.1 l F m f) (hl:F.length+2*l.length<1000):qs p l (sq p (F.map .int) (.int m) (.bool f) tl)
theorem aeO:ba (rI 1)=[cY 0,cY 1,cY 2,cY 3,cY 4,cY 5,cY 6,cY 7]:=by kernel_rfl
theorem OT(hr:eW p.1)(hc:c∈codes):Sm W (n+83) fU (cY 2) (sq p F mv x [(n! "code",.val (.int c)),(n! "some",.val (L (sa p c))),(n! "heads",.list ((l5 p c).map .int))]) .next (sq p F mv x (kN p c))/\∀a,Sm W (n+83) fU (cY 2) (sq p F mv x (gJ (.int c) (L (sa p c)) ((l5 p c).map .int) a)) .next (sq p F mv x (kN p c)):=by
 have e:=congrArg kK (eq_nil (H:=l5 p c))
 rcases LQ hr c hc with ⟨h1,h2,h3⟩|⟨h1,h2,h3,h4⟩
 ·rw[show l5 p c=[] from h1] at e
  rw[kN,<-h2,<-aO (f:=V.int),show l5 p c=[] from h1]
  exact⟨(aL [sb 4710370391 e] ⋯),λa=>aL [sb 4710370391 e] ⋯⟩
 ·rw[decide_eq_false (show ¬l5 p c=[] from h1)] at e
  rw[kN,<-h2]
  exact⟨(aL [sb 4710370391 e,sv 4710160240 (Fc h1)] ⋯),λa=>aL [sb 4710370391 e,sv 4710160240 (Fc h1)] ⋯⟩
theorem YS{l:List Int}{s:S}(hr:eW p.1)(hT:∀c∈p.2.2.2.2.1,c∈codes)(h0:0<=p.2.2.2.2.2)(hc:c∈codes)(h:qs p (c::l) s):eC W (n+83) fU ah (cE (rI 1)) (ba (rI 1)) (λf s=>f=.next/\qs p [] s) (qs p l) (.int c) s:=by
 have h7:∀x∈codes,x≠847:=λx hx e=>absurd (e▸hx) (by decide)
 have f0:=λj=>FH (W:=W) (n:=j) (r:=p.1) (k:=J) (List.mem_cons_of_mem _ hc)
 induction h with
 |mk F m f tl ht h hl=>
  rw[fP] at hl
  have go:∀{s1},Bd W (n+83) fU ah (cE (rI 1)) (.int c) (sq p (F.map .int) (.int m) (.bool f) tl) s1->(∀{fl s'},Ex W (n+83) fU [cY 3,cY 4,cY 5,cY 6,cY 7] (sq p (F.map .int) (.int m) (.bool f) (kN p c)) fl s'->Ex W (n+83) fU [cY 0,cY 1,cY 2,cY 3,cY 4,cY 5,cY 6,cY 7] s1 fl s')->eC W (n+83) fU ah (cE (rI 1)) (ba (rI 1)) (λf s=>f=.next/\qs p [] s) (qs p l) (.int c) (sq p (F.map .int) (.int m) (.bool f) tl):=λ{s1} hb hx=>by
   rw[aeO]
   by_cases q:0<m/\p.2.2.2.2.2<m+ld p.1 c
   ·have i:qs p l (sq p (((F++[847])++[c]).map .int) (.int (m1 p.1 c 0)) (.bool ((f&&aJ (0+ld p.1 c<=p.2.2.2.2.2))&&aJ (m1 p.1 c 0<=p.2.2.2.2.2))) (kN p c)):=.mk _ _ _ _ (.s ..) (adb h (h7 c hc) (λx hx=>h7 x (hT x hx)) h0 q) (by rw[aX,aX,iY,iY];lia)
    rw[bZ,bZ] at i
    exact λQ_ k_=>k_ _ _ _ hb (hx (aT ((aL [sb 4720180191 (kD (q.1:0<m)),sb 4720390431 (kD (q.2:p.2.2.2.2.2<m+(ld p.fst c))),sp 4730120294 ((nk (by rw[aO];lia)):(cA V.int F).length<cG)] ⋯)) (My hr hc (by rw[aX,aO];exact bq (gd (by decide:1<=2) _) (by lia))))) i
   ·have i:qs p l (sq p ((F++[c]).map .int) (.int (m1 p.1 c m)) (.bool ((f&&aJ (m+ld p.1 c<=p.2.2.2.2.2))&&aJ (m1 p.1 c m<=p.2.2.2.2.2))) (kN p c)):=.mk _ _ _ _ (.s ..) (ab8 h (h7 c hc) q) (by rw[aX,iY];lia)
    rw[bZ] at i
    have k:Sm W (n+83) fU (cY 3) (sq p (F.map .int) (.int m) (.bool f) (kN p c)) .next (sq p (F.map .int) (.int m) (.bool f) (kN p c)):=by
     by_cases h2:0<m
     ·exact aeo h2 λe=>q ⟨h2,e⟩
     ·exact aL [sb 4720180191 (kJ h2)] ⋯
    exact λQ_ k_=>k_ _ _ _ hb (hx (aT k (My hr hc (by rw[aO];lia)))) i
  induction ht with
  |z=>exact go (f7 [] ⋯) λk=>LW.elim λc' h=>aT ((aL [sc 4690150620 (m:=n+81) (f0 _) rfl (aR _)] ⋯:Sm W (n+83) fU (cY 0) (sq p (cA V.int F) (V.int m) (V.bool f) [(n! "code",.val (.int c))]) .next (sq p (cA V.int F) (V.int m) (V.bool f) [(n! "code",.val (.int c)),(n! "some",.val (.list (cA V.int (one p.fst J c))))]))) (aT (aet h) (aT (OT hr hc).1 k))
  |s c E H a=>exact go X1 λk=>LW.elim λc' h=>aT (ad1 (aR _) f0) (aT (aff h) (aT ((OT hr hc).2 a) k))
end
theorem Ta{W:Ws PG}{n b:Nat}{r mo:Int}{k:Bool}{PL:List ((Int×Int)×Int)}(hr:eW r)(h0:0<=mo){T:List Int}(hT:∀c∈T,c∈codes)(hl:T.length<100):Ca W (n+90) 526 [bA r k PL,dat r b,L T,.int mo] [] (.bool J) []:=
 rD (W:=W) (n:=n+88) (I:=qs (r,b,k,PL,T,mo)) T (λc hc l s h=>YS (n:=n+5) (p:=(r,b,k,PL,T,mo)) hr hT h0 (hT c hc) h) (.mk [] 0 J [] .z (λQ_ k_=>k_ [] rfl rfl (λR=>rfl) (λR=>rfl) rfl (λy=>h0)) (by rw[j7];lia)) λs' i h=>by
  cases i with
  |mk F m f tl ht i jC=>
   have i:=YU i
   have f1:=ZO (W:=W) (n:=n+14) (b:=b) (most:=mo) hr T (λc hc=>.tail _ (hT c hc)) hl
   have f2:=Ow (W:=W) (n:=n+15) (b:=b) (most:=mo) hr F (i.1▸Wx hT)
   have f3:=Ow (W:=W) (n:=n+16) (b:=b) (most:=mo) hr T (λc hc=>.tail _ (hT c hc))
   have f4:=UX (W:=W) (n:=n+65) F
   rw[<-i.1] at f1
   rw[i.2.1] at f2
   rw[i.2.2.1] at f3
   rw[i.2.2.2] at f4
   have N (q:Bool):bC .NotEq (.bool q) (.bool q)=U false:=by induction q<;>rfl
   have e1:bC .NotEq (L F) (L F)=U false:=pF.trans (by rw[decide_eq_true rfl];rfl)
   have e2:bC .Eq (L T) (L T)=U true:=pB.trans (by rw[decide_eq_true rfl])
   have e3:bC .Eq (L F) (L T)=U (aJ (F=T)):=pB
   have gT:=ak (aR T) (ak (aZ (r:=r) (b:=b)) (rfl:J=J))
   have gF:=ak (aR F) (ak (aZ (r:=r) (b:=b)) (rfl:J=J))
   cases f
   ·exact bU [eV 4680040263 h,sc 4790120470 f1 gT (aR F),sb 4790520571 e1,sc 4790611000 f2 gF rfl,sb 4791041101 (N ah),sc 4810070450 f3 gT rfl,sb 4810500741 (N ah),sc 4830160440 f4 (ak (aR F) rfl) (aR T),sb 4830490531 e2] ⋯
   ·exact bU [eV 4680040263 h,sc 4790120470 f1 gT (aR F),sb 4790520571 e1,sc 4790611000 f2 gF rfl,sb 4791041101 (N J),sc 4810070450 f3 gT rfl,sb 4810700741 e3,sb 4810500741 (N (aJ (F=T))),sc 4830160440 f4 (ak (aR F) rfl) (aR T),sb 4830490531 e2] ⋯
end
section
noncomputable def dt(a:Int):List (Int×Int)->Option Int
 |[]=>aj
 |p::d=>if p.1=a then U p.2 else dt a d
noncomputable def fV(a x:Int):List (Int×Int)->List (Int×Int)
 |[]=>[(a,x)]
 |p::d=>if p.1=a then(p.1,x)::d else p::fV a x d
noncomputable def kI(d:List (Int×Int)):List V:=(d.map (·.1)).map .int
noncomputable def vI(d:List (Int×Int)):List V:=d.map λp=>.int p.2
section
variable {a b x p:Int}{d:List (Int×Int)}{g:Nat->Int}
theorem x8:dt b (fV a x d)=if a=b then U x else dt b d:=by
 induction d with
 |nil=>rfl
 |cons q d ih=>
  unfold fV
  by_cases h:q.1=a
  ·rw[if_pos h]
   show(if q.1=b then U x else dt b d)=if a=b then U x else if q.1=b then U q.2 else dt b d
   rw[h]
   by_cases h2:a=b
   ·rw[if_pos h2,if_pos h2]
   ·rw[if_neg h2,if_neg h2,if_neg h2]
  ·rw[if_neg h]
   show(if q.1=b then U q.2 else dt b (fV a x d))=if a=b then U x else if q.1=b then U q.2 else dt b d
   by_cases h2:q.1=b
   ·rw[if_pos h2,if_pos h2,if_neg (λe=>h (h2.trans e.symm))]
   ·rw[if_neg h2,if_neg h2,ih]
theorem EE:(fV a x d).length<=d.length+1:=by
 induction d with
 |nil=>exact aQ _
 |cons q d ih=>
  unfold fV;split
  ·exact dm _
  ·exact gM ih
theorem Kh{c:Int}{ks:List V}:dJ (.int a) (.int c::ks)=if c=a then U 0 else(dJ (.int a) ks).map (·+1):=by
 rw[dJ,qD]
 show(if aJ (c=a)=J then _ else _)=_
 by_cases h:c=a
 ·rw[if_pos h,if_pos (decide_eq_true h)]
 ·rw[if_neg h,if_neg (λq=>h (of_decide_eq_true q))];rfl
theorem adJ:gs (.int a) (kI d) (vI d)=U ((dt a d).map .int):=by
 refine congrArg U ?_
 induction d with
 |nil=>rfl
 |cons q d ih=>
  show(dJ (.int a) (.int q.1::kI d)).bind (λi=>(V.int q.2::vI d)[i]?)=(if q.1=a then U q.2 else dt a d).map .int
  rw[Kh]
  by_cases h:q.1=a
  ·rw[if_pos h,if_pos h];rfl
  ·rw[if_neg h,if_neg h,<-ih,Option.bind_map];rfl
theorem acS:dput (.int a) (.int x) (kI d) (vI d)=U (kI (fV a x d),vI (fV a x d)):=by
 refine congrArg U ?_
 induction d with
 |nil=>rfl
 |cons q d ih=>
  show nj _ _ (.int q.1::kI d) (.int q.2::vI d) (dJ (.int a) (.int q.1::kI d))=_
  rw[Kh]
  unfold fV
  by_cases h:q.1=a
  ·rw[if_pos h,if_pos h];rfl
  ·rw[if_neg h,if_neg h]
   have e:∀o,nj (.int a) (.int x) (.int q.1::kI d) (.int q.2::vI d) (o.map (·+1))=(.int q.1::(nj (.int a) (.int x) (kI d) (vI d) o).1,.int q.2::(nj (.int a) (.int x) (kI d) (vI d) o).2):=λo=>by induction o<;>rfl
   rw[e,ih];rfl
noncomputable def gG(p:Int)(g:Nat->Int)(k:Nat)(d:List (Int×Int)):List (Int×Int):=(cb k).foldl (λd (i:Nat)=>fV (p+(i:Int)) (g i) d) d
theorem xU{k:Nat}:dt b (gG p g k d)=if p<=b/\b<p+k then U (g (b-p).toNat) else dt b d:=by
 induction k with
 |zero=>exact(if_neg λh=>absurd (qF h.1 h.2) (by rw[Int.natCast_zero,JX];exact Aj p)).symm
 |succ k ih=>
  rw[gG,JE,z5]
  refine x8.trans ?_
  have lt:p+(k:Int)<p+((k+1:Nat):Int):=Int.add_lt_add_left (hO.mpr (nT k)) p
  by_cases h:p+k=b
  ·subst h
   rw[if_pos rfl,if_pos ⟨I7 (fw k),lt⟩,JY p,Int.add_sub_cancel,nS]
  ·rw[if_neg h]
   refine ih.trans ?_
   by_cases h2:p<=b/\b<p+k
   ·rw[if_pos h2,if_pos ⟨h2.1,sM h2.2 lt⟩]
   ·rw[if_neg h2,if_neg λq=>h2 ⟨q.1,SG.mpr ⟨Int.le_of_lt_add_one ((Int.add_assoc p k 1).symm▸q.2),λe=>h e.symm⟩⟩]
end
inductive je:Bool->List (af×Sl)->Prop
 |z:je ah []
 |s (b:Bool) (v:V):je b [(n! "at",.val v)]
theorem FF{W:Ws PG}{n:Nat}{cx:Cx}{b:List br}{t:ai}{σ:Type}{St:σ->List (af×Sl)->S}{e:Nat->Int}{nx:σ->Nat->σ}{Ok:Nat->σ->Prop}
  (hb:∀i x tl,je ah tl->Bd W n cx ah t (.int (e i)) (St x tl) (St x [(n! "at",.val (.int (e i)))]))
  (hx:∀i x m,Ok (m+1) x->Ex W n cx b (St x [(n! "at",.val (.int (e i)))]) .next (St (nx x i) [(n! "at",.val (.int (e i)))])/\Ok m (nx x i)) (l:List Nat):∀{c x tl},je c tl->Ok l.length x->∃d7,je (c||!l.isEmpty) d7/\wH W n cx ah t b .next (St (l.foldl nx x) d7) (l.map λi=>.int (e i)) (St x tl):=by
 induction l with
 |nil=>exact λ{c x tl} h k=>⟨tl,(Bool.or_false c).symm▸h,rfl,rfl⟩
 |cons i l ih=>exact λ{c x tl} h k=>(ih (.s J (.int (e i))) (hx i x _ k).2).imp λd7 q=>⟨(Bool.or_true c).symm▸q.1,λQ_ k_=>k_ _ _ _ (hb i x tl (by induction h;exact .z;exact .s ..)) (hx i x _ k).1 q.2⟩
end
noncomputable def cD:Cx:=eK PG 516 GL
noncomputable def eR(i:Nat):Stmt:=st i GL.body
noncomputable def dK(i:Nat):Stmt:=st i (ba (eR 2))
noncomputable abbrev fu:=Int×Nat×Nat×List ((Int×Int)×Int)×List Int
noncomputable def oV(p:fu)(tl:List (af×Sl)):S:={vars:=(n! "world",.val (bA p.1 (wk p.2.2.1) p.2.2.2.1))::(n! "data",.val (dat p.1 p.2.1))::(n! "word",.val (.str (bB p.2.2.1)))::(n! "text",.val (L p.2.2.2.2))::tl}
noncomputable def sh(p:fu)(P R:List V)(On Bk:List V×List V)(Wh:List V)(tl:List (af×Sl)):S:=oV p ((n! "places",.val (.list P))::(n! "rows",.list R)::(n! "onward",.dict On.1 On.2)::(n! "back",.dict Bk.1 Bk.2)::(n! "whole",.list Wh)::tl)
noncomputable def Hg(a x:Int)(d:List V×List V):List V×List V:=nj (.int a) (.int x) d.1 d.2 (dJ (.int a) d.1)
noncomputable def shL(p:fu)(P:List V):S:=oV p [(n! "places",.list P),(n! "rows",.list []),(n! "onward",.dict [] []),(n! "back",.dict [] []),(n! "whole",.list [])]
noncomputable def eE(b e f s:V)(tl:List (af×Sl)):List (af×Sl):=(n! "begin",.val b)::(n! "end",.val e)::(n! "base",.val s)::(n! "some",.val f)::tl
noncomputable def p7:Expr:=mK 0 (dx (eR 0))
theorem ON{W:Ws PG}{n:Nat}{p:fu}{i:Int}:Ev W (n+80) (dk cD p7) (dg p7) {oV p [] with cv:=[(n! "at",.int i)]} (.val (.int i)) {oV p [] with cv:=[(n! "at",.int i)]}:=jf [] ⋯
theorem aeC{W:Ws PG}{n:Nat}{p:fu}{P R Wh:List V}{On Bk:List V×List V}{u v:Int}{f:V}{s:V}{tl:List (af×Sl)}{s':S}(hr:ja u (v+1)=U (.items ah (cj u (v+1))))(h:iS W (n+107) cD (.items ah (cj u (v+1))) (cE (dK 1)) (ba (dK 1)) (sh p P R On Bk Wh (eE (.int u) (.int v) f s tl)) .next s'):Sm W (n+108) cD (dK 1) (sh p P R On Bk Wh (eE (.int u) (.int v) f s tl)) .next s':=aL [sp 4380180390 hr,eV 4380080293 h] ⋯
theorem agX{W:Ws PG}{n:Nat}{p:fu}{P R Wh f:List V}{On Bk:List V×List V}{u:V}{tl:List (af×Sl)}{s v:Int}(hk:dz (.int v) On.1=J/\On.1.length<cG):Sm W (n+108) cD (dK 2) (sh p P R On Bk Wh (eE u (.int v) (.list f) (.int s) tl)) .next (sh p P R (Hg v (s+f.length) On) Bk Wh (eE u (.int v) (.list f) (.int s) tl)):=aL [sp 4400080194 hk] ⋯
theorem adY{W:Ws PG}{n:Nat}{p:fu}{P R Wh f:List V}{On Bk:List V×List V}{u v s:V}{tl:List (af×Sl)}{s':S}(hr:ja 0 (f.length:Int)=U (.items ah (cj 0 f.length)))(h:iS W (n+107) cD (.items ah (cj 0 f.length)) (cE (dK 3)) (ba (dK 3)) (sh p P R On Bk Wh (eE u v (.list f) s tl)) .next s'):Sm W (n+108) cD (dK 3) (sh p P R On Bk Wh (eE u v (.list f) s tl)) .next s':=aL [sp 4410180340 hr,eV 4410080353 h] ⋯
noncomputable def vZ:Stmt:=st 0 (PT (dK 4))
theorem agY{W:Ws PG}{n:Nat}{p:fu}{P R Wh f:List V}{On Bk:List V×List V}{s:V}{tl:List (af×Sl)}{u v:Int}{s':S}(he:bC .NotEq (.list f) (.list (jj (p.2.2.2.2.map V.int) u v))=U ah)(hr:ja 0 (f.length:Int)=U (.items ah (cj 0 f.length)))(h:iS W (n+106) cD (.items ah (cj 0 f.length)) (cE vZ) (ba vZ) (sh p P R On Bk Wh (eE (.int u) (.int v) (.list f) s tl)) .next s'):Sm W (n+108) cD (dK 4) (sh p P R On Bk Wh (eE (.int u) (.int v) (.list f) s tl)) .next s':=aL [sb 4430190341 he,sp 4460220380 hr,eV 4460120773 h] ⋯
theorem agf{W:Ws PG}{n:Nat}{p:fu}{P R Wh:List V}{On Bk:List V×List V}{tl:List (af×Sl)}(hk:dz (.int Wh.length) Bk.1=J/\Bk.1.length<cG):Sm W (n+109) cD (eR 3) (sh p P R On Bk Wh tl) .next (sh p P R On (Hg Wh.length (p.2.2.2.2.map V.int).length Bk) Wh tl):=aL [sp 4490040204 hk] ⋯
theorem ahN{W:Ws PG}{n:Nat}{p:fu}{P F:List Int}{R:List V}{On Bk:List V×List V}{tl:List (af×Sl)}(f1:∀j,Ca W (j+60) 506 [bA p.1 (wk p.2.2.1) p.2.2.2.1,L p.2.2.2.2] [] (L F) [])(f2:∀j,Ca W (j+70) 228 [L p.2.2.2.2,dat p.1 p.2.1,.str (bB p.2.2.1)] [] (L P) [])(e1:bC .NotEq (L F) (L F)=U ah)(e2:bC .NotEq (L P) (L P)=U ah):Sm W (n+109) cD (eR 4) (sh p (P.map .int) R On Bk (F.map .int) tl) .next (sh p (P.map .int) R On Bk (F.map .int) tl):=aL [sc 4500160380 (m:=n+105) (f1 _) (ak ((hU)) (ak ((aR p.2.2.2.2)) rfl)) ((aR F)),sb 4500160381 e1,sc 4500470840 (m:=n+104) (f2 _) (ak ((aR p.2.2.2.2)) (ak ((aZ)) rfl)) ((aR P)),sb 4500890951 e2] ⋯
noncomputable def dW(b e f s a:V)(c:Sl):List (af×Sl):=[(n! "begin",.val b),(n! "end",.val e),(n! "base",.val s),(n! "some",.val f),(n! "at",.val a),(n! "told",c)]
noncomputable def p3:Expr:=mK 0 (mK 0 (dx (eR 6)))
noncomputable def r7:Expr:=mK 0 (dx (eR 7))
noncomputable def v7:Expr:=mK 1 (dx (eR 7))
noncomputable def rX:Expr:=mK 0 (dx (eR 8))
noncomputable def w8:Expr:=mK 1 (dx (eR 8))
theorem afQ{W:Ws PG}{n:Nat}{p:fu}{P R Wh C:List V}{On Bk:List V×List V}{b e f s a:V}{c':List (af×V)}(h:dB W (n+105) (dk cD p3) (.live (n! "told") ah) (dg p3) (bF p3).target [] (sh p P R On Bk Wh (dW b e f s a (.list C))) R {sh p P R On Bk Wh (dW b e f s a (.list C)) with cv:=c'})(e1:bC .NotEq (.list R) (.list R)=U ah)(f1:∀j,Ca W (j+20) 307 [L p.2.2.2.2,.list C] [] (.list Wh) [])(e2:bC .NotEq (.list Wh) (.list Wh)=U ah)(fC:V.bI C=J)(fW:V.bI Wh=J):Sm W (n+109) cD (eR 6) (sh p P R On Bk Wh (dW b e f s a (.list C))) .next (sh p P R On Bk Wh (dW b e f s a (.val (.list C)))):=aL [sm 4530070553 h,sb 4530590631 e1,sc 4530721020 (m:=n+104) (f1 _) (ak ((aR p.2.2.2.2)) (ak fC rfl)) fW,sb 4531071121 e2] ⋯
theorem ac5{W:Ws PG}{n:Nat}{p:fu}{P R Wh C:List V}{On Bk:List V×List V}{b e f s a:V}{i x:Int}(f0:∀j,Ca W (j+20) 314 [.list C,.int i] [] (.int x) [])(fC:V.bI C=J):Ev W (n+80) (dk cD r7) (dg r7) {sh p P R On Bk Wh (dW b e f s a (.val (.list C))) with cv:=[(n! "at",.int i)]} (.val (.int x)) {sh p P R On Bk Wh (dW b e f s a (.val (.list C))) with cv:=[(n! "at",.int i)]}:=jf [sc 4550080280 (m:=n+79) (f0 _) (ak fC rfl) rfl] ⋯
theorem adm{W:Ws PG}{n:Nat}{p:fu}{P R Wh C:List V}{On Bk:List V×List V}{b e f s a:V}{i x:Int}(f0:∀j,Ca W (j+20) 321 [.list C,.int i] [] (.int x) [])(fC:V.bI C=J):Ev W (n+80) (dk cD rX) (dg rX) {sh p P R On Bk Wh (dW b e f s a (.val (.list C))) with cv:=[(n! "at",.int i)]} (.val (.int x)) {sh p P R On Bk Wh (dW b e f s a (.val (.list C))) with cv:=[(n! "at",.int i)]}:=jf [sc 4570120370 (m:=n+79) (f0 _) (ak fC rfl) rfl] ⋯
theorem age{W:Ws PG}{n:Nat}{p:fu}{P R Wh C l:List V}{On Bk:List V×List V}{b e f s a:V}{c1 c2:List (af×V)}(hr:ja 0 (((p.2.2.2.2.map V.int).length:Int)+1)=U (.items ah (cj 0 (((p.2.2.2.2.map V.int).length:Int)+1))))(h1:dB W (n+106) (dk cD r7) (.items ah (cj 0 (((p.2.2.2.2.map V.int).length:Int)+1))) (dg r7) (bF r7).target [] (sh p P R On Bk Wh (dW b e f s a (.val (.list C)))) l {sh p P R On Bk Wh (dW b e f s a (.val (.list C))) with cv:=c1})(h2:dB W (n+106) (dk cD v7) (.items ah (cj 0 (((p.2.2.2.2.map V.int).length:Int)+1))) (dg v7) (bF v7).target [] (sh p P R On Bk Wh (dW b e f s a (.val (.list C)))) l {sh p P R On Bk Wh (dW b e f s a (.val (.list C))) with cv:=c2})(e1:bC .NotEq (.list l) (.list l)=U ah):Sm W (n+109) cD (eR 7) (sh p P R On Bk Wh (dW b e f s a (.val (.list C)))) .next (sh p P R On Bk Wh (dW b e f s a (.val (.list C)))):=aL [sp 4550390590 hr,sm 4550070603 h1,sp 4550861060 hr,sm 4550641073 h2,sb 4550641071 e1] ⋯
theorem ag1{W:Ws PG}{n:Nat}{p:fu}{P R Wh C l:List V}{On Bk:List V×List V}{b e f s a:V}{c1 c2:List (af×V)}(hr:ja 0 ((Wh.length:Int)+1)=U (.items ah (cj 0 ((Wh.length:Int)+1))))(h1:dB W (n+106) (dk cD rX) (.items ah (cj 0 ((Wh.length:Int)+1))) (dg rX) (bF rX).target [] (sh p P R On Bk Wh (dW b e f s a (.val (.list C)))) l {sh p P R On Bk Wh (dW b e f s a (.val (.list C))) with cv:=c1})(h2:dB W (n+106) (dk cD w8) (.items ah (cj 0 ((Wh.length:Int)+1))) (dg w8) (bF w8).target [] (sh p P R On Bk Wh (dW b e f s a (.val (.list C)))) l {sh p P R On Bk Wh (dW b e f s a (.val (.list C))) with cv:=c2})(e1:bC .Eq (.list l) (.list l)=U J):Ex W (n+109) cD [eR 8] (sh p P R On Bk Wh (dW b e f s a (.val (.list C)))) (.ret (.bool J)) (sh p P R On Bk Wh (dW b e f s a (.val (.list C)))):=cV [sp 4570480690 hr,sm 4570110703 h1,sp 4570941150 hr,sm 4570741163 h2,sb 4570741161 e1] ⋯
section
noncomputable def eT(g A:Int×Int->List Int):List (Int×Int)->List (Int×Int×List Int)
 |[]=>[]
 |p::z=>(if g p=A p then[] else[(p.1,p.2,g p)])++eT g A z
def chain:Int->List (Int×Int)->Int->Prop
 |p,[],n=>p=n
 |p,x::z,n=>x.1=p/\p<x.2/\chain x.2 z n
theorem Q5{b p q:Int}:b+(q-p)-q=b-p:=by lia
theorem QF{b p q l:Int}:b-p+(l-(q-p))=b+l-q:=by lia
theorem ar3{a b p:Int}:a+(b-p)=b+(a-p):=by lia
theorem qf{b p:Int}:p+(b-p)=b:=by lia
section
variable {g A:Int×Int->List Int}{n:Int}{z:List (Int×Int)}{p q a x sh b:Int}
theorem X8:∀{p},chain p z n->p<=n:=by
 induction z with
 |nil=>exact λh=>Ao h
 |cons x z ih=>exact λh=>gO (fy h.2.1) (ih h.2.2)
theorem n4{e:Int×Int}(h:g e=A e):eT g A (e::z)=eT g A z:=congrArg (·++eT g A z) (if_pos h)
theorem n8{e:Int×Int}(h:¬g e=A e):eT g A (e::z)=(e.1,e.2,g e)::eT g A z:=congrArg (·++eT g A z) (if_neg h)
theorem Wf:∀{p},chain p z n->a<=p->i9 (eT g A z) a sh=a+sh:=by
 induction z with
 |nil=>exact λj j=>rfl
 |cons x z ih=>
  intro p h ha
  by_cases e:g x=A x
  ·rw[n4 e];exact ih h.2.2 (gO ha (fy h.2.1))
  ·rw[n8 e];exact(if_pos (qF ha h.2.1)).trans (congrArg (·+sh) (if_pos (h.1.symm▸ha)))
theorem Wy:∀{p},chain p z n->x<=p+sh->jc (eT g A z) x sh=x-sh:=by
 induction z with
 |nil=>exact λj j=>rfl
 |cons y z ih=>
  intro p h ha
  by_cases e:g y=A y
  ·rw[n4 e];exact ih h.2.2 (gO ha (Int.add_le_add_right (fy h.2.1) sh))
  ·rw[n8 e];exact if_pos (h.1.symm▸ha)
variable (hA:((A (p,q)).length:Int)=q-p)
include hA
theorem UP(ha:q<=a):i9 (eT g A ((p,q)::z)) a (b-p)=i9 (eT g A z) a (b+(g (p,q)).length-q):=by
 by_cases e:g (p,q)=A (p,q)
 ·rw[n4 e,e,hA,Q5]
 ·rw[n8 e,<-QF];exact if_neg (gA.mpr ha)
theorem Ve(hf:(0:Int)<(g (p,q)).length)(hx:b+(g (p,q)).length<=x):jc (eT g A ((p,q)::z)) x (b-p)=jc (eT g A z) x (b+(g (p,q)).length-q):=by
 by_cases e:g (p,q)=A (p,q)
 ·rw[n4 e,e,hA,Q5]
 ·rw[n8 e,<-QF]
  refine(if_neg ?_).trans (if_neg ?_)
  ·show ¬x<=p+(b-p)
   rw[qf];lia
  ·show ¬x<p+(b-p)+_
   rw[qf];exact gA.mpr hx
omit hA
theorem Xb(hz:chain q z n)(h1:p<=a)(h2:a<q):i9 (eT g A ((p,q)::z)) a (b-p)=if g (p,q)=A (p,q) then b+(a-p) else b:=by
 by_cases e:g (p,q)=A (p,q)
 ·rw[n4 e,if_pos e,<-ar3];exact Wf hz (fy h2)
 ·rw[n8 e,if_neg e]
  refine(if_pos h2).trans ?_
  by_cases h:a<=p
  ·rw[if_pos h,JH h h1];exact qf
  ·rw[if_neg h];exact qf
include hA
theorem aaQ(hz:chain q z n)(h1:b<=x)(h2:x<b+(g (p,q)).length):jc (eT g A ((p,q)::z)) x (b-p)=if g (p,q)=A (p,q) then p+(x-b) else p:=by
 by_cases e:g (p,q)=A (p,q)
 ·rw[e,hA] at h2
  rw[n4 e,if_pos e]
  refine(Wy hz (by lia)).trans (by lia)
 ·rw[n8 e,if_neg e]
  by_cases h:x<=b
  ·refine(if_pos (show x<=p+(b-p) by rw[qf];exact h)).trans (by lia)
  ·refine(if_neg (show ¬x<=p+(b-p) by rw[qf];exact h)).trans (if_pos (show x<p+(b-p)+_ by rw[qf];exact h2))
end
def o7(g A:Int×Int->List Int)(n:Int)(CH:List (Int×Int×List Int))(FW:List Int)(l:List (Int×Int))(R:List (Int×Int×List Int))(On Bk:List (Int×Int))(Wd:List Int):Prop:=∀C:Prop,(∀(p:Int) (h0:0<=p) (hc:chain p l n) (hR:R++eT g A l=CH) (hW:Wd++l.flatMap g=FW) (o1:∀a,p<=a->i9 CH a 0=i9 (eT g A l) a (Wd.length-p)) (b1:∀x,(Wd.length:Int)<=x->jc CH x 0=jc (eT g A l) x (Wd.length-p)) (o2:∀a,0<=a->a<p->dt a On=U (i9 CH a 0)) (b2:∀x,0<=x->x<(Wd.length:Int)->dt x Bk=U (jc CH x 0)) (e:l=[]->dt p On=U (Wd.length:Int)),C)->C
section
variable {g A:Int×Int->List Int}{n:Int}{CH R R':List (Int×Int×List Int)}{FW Wd:List Int}{l:List (Int×Int)}{On Bk CP HX:List (Int×Int)}{p q:Int}
theorem Nl(h:o7 g A n CH FW ((p,q)::l) R On Bk Wd)(hA:((A (p,q)).length:Int)=q-p)(hf:(0:Int)<(g (p,q)).length)(hR:R'=R++if g (p,q)=A (p,q) then[] else[(p,q,g (p,q))])
  (u1:∀a,a<p->dt a CP=dt a On) (u2:∀a,p<=a->a<q->dt a CP=U (if g (p,q)=A (p,q) then(Wd.length:Int)+(a-p) else Wd.length)) (u3:dt q CP=U ((Wd.length:Int)+(g (p,q)).length))
  (v1:∀x,x<(Wd.length:Int)->dt x HX=dt x Bk) (v2:∀x,(Wd.length:Int)<=x->x<(Wd.length:Int)+(g (p,q)).length->dt x HX=U (if g (p,q)=A (p,q) then p+(x-Wd.length) else p)):o7 g A n CH FW l R' CP HX (Wd++g (p,q)):=by
 refine h _ λp' h0 hc hR0 hW o1 b1 o2 b2 e=>?_
 cases hc.1
 have hl:((Wd++g (p,q)).length:Int)=(Wd.length:Int)+(g (p,q)).length:=by rw[aX];rfl
 refine λQ_ k_=>k_ q (gO h0 (fy hc.2.1)) hc.2.2 ?_ ?_ (λa ha=>?_) (λx hx=>?_) (λa ha h2=>?_) (λx hx h2=>?_) (λj=>hl▸u3)
 ·rw[hR,aN];exact hR0
 ·rw[aN];exact hW
 ·rw[hl,o1 a (gO (fy hc.2.1) ha)];exact UP hA ha
 ·rw[hl] at hx ⊢
  rw[b1 x (gO (I7 (fy hf)) hx)];exact Ve hA hf hx
 ·by_cases h:a<p
  ·rw[u1 a h,o2 a ha h]
  ·have h:=gA.mp h
   rw[u2 a h h2,o1 a h];exact congrArg U (Xb hc.2.2 h h2).symm
 ·rw[hl] at h2
  by_cases h:x<(Wd.length:Int)
  ·rw[v1 x h,b2 x hx h]
  ·have h:=gA.mp h
   rw[v2 x h h2,b1 x h];exact congrArg U (aaQ hA hc.2.2 h h2).symm
end
end
section
noncomputable def dI(d:List (Int×Int)):List V×List V:=(kI d,vI d)
theorem vG{a x:Int}{d:List (Int×Int)}:Hg a x (dI d)=dI (fV a x d):=aA acS
theorem vQ{a:Int}{d:List (Int×Int)}(h:d.length<20000):dz (.int a) (dI d).1=J/\(dI d).1.length<cG:=⟨jF,by
 show((d.map (·.1)).map V.int).length<cG
 rw[aO,aO];exact d9 h (by decide+kernel)⟩
theorem sX{N:Nat}:cj 0 (N:Int)=(cb N).map λi:Nat=>V.int (i:Int):=LM.trans (zW λi j=>by rw[Int.zero_add])
theorem Bb{a x:Int}{d:List (Int×Int)}{m:Nat}(h:d.length+(m+1)<20000):(fV a x d).length+m<20000:=bq (uI EE m) (by rw[qE];exact h)
section
variable {W:Ws PG}{n k:Nat}{z:fu}{P R Wh:List V}{D E:List (Int×Int)}{Bk:List V×List V}{f v:V}{s p q:Int}{tl:List (af×Sl)}
theorem ac0(ht:je ah tl)(h:D.length+(q+1-p).toNat<20000):∃d7,je (!(cb (q+1-p).toNat).isEmpty) d7/\iS W (n+107) cD (.items ah (cj p (q+1))) (cE (dK 1)) (ba (dK 1)) (sh z P R (dI D) Bk Wh (eE (.int p) (.int q) f (.int s) tl)) .next (sh z P R (dI (gG p (λj=>s) (q+1-p).toNat D)) Bk Wh (eE (.int p) (.int q) f (.int s) d7)):=
 (FF (St:=λD tl=>sh z P R (dI D) Bk Wh (eE (.int p) (.int q) f (.int s) tl)) (Ok:=λm D=>D.length+m<20000)
  (λi x tl h=>by
   cases h
   ·exact f7 [] ⋯
   ·exact f7 [] ⋯)
  (λi x m h=>⟨vG▸(cV [sp 4390120224 ((vQ (bq (fe ..) h)):dz (.int (p+↑i)) (dI x).1=J/\(dI x).1.length<cG)] ⋯),Bb h⟩) (cb (q+1-p).toNat) ht (by rw[g8];exact h)).imp λd7 q=>⟨q.1,zj W q.2⟩
theorem abN(ht:je J tl)(h:E.length+k<20000):∃d7,je J d7/\iS W (n+107) cD (.items ah (cj 0 k)) (cE (dK 3)) (ba (dK 3)) (sh z P R Bk (dI E) Wh (eE (.int p) v f (.int s) tl)) .next (sh z P R Bk (dI (gG s (λj=>p) k E)) Wh (eE (.int p) v f (.int s) d7)):=by
 rw[sX]
 exact(FF (St:=λE tl=>sh z P R Bk (dI E) Wh (eE (.int p) v f (.int s) tl)) (Ok:=λm D=>D.length+m<20000)
  (λi x tl h=>by
   cases h
   ·exact f7 [] ⋯
   ·exact f7 [] ⋯)
  (λi x m h=>⟨vG▸(cV [sp 4420120274 ((vQ (bq (fe ..) h)):dz (.int (s+↑i)) (dI x).1=J/\(dI x).1.length<cG)] ⋯),Bb h⟩) (cb k) ht (by rw[g8];exact h)).imp λd7 q=>⟨q.1,zj W q.2⟩
theorem fold_pair{α β γ:Type}{f:α->γ->α}{g:β->γ->β}(l:List γ):∀{a b},l.foldl (λx i=>(f x.1 i,g x.2 i)) (a,b)=(l.foldl f a,l.foldl g b):=by
 induction l with
 |nil=>exact rfl
 |cons c l ih=>exact ih
theorem ae4:(cb k).foldl (λ(x:List (Int×Int)×List (Int×Int)) (i:Nat)=>(fV (p+(i:Int)) (s+(i:Int)) x.1,fV (s+(i:Int)) (p+(i:Int)) x.2)) (D,E)=(gG p (λi=>s+i) k D,gG s (λi=>p+i) k E):=fold_pair (f:=λD (i:Nat)=>fV (p+(i:Int)) (s+(i:Int)) D) (g:=λE (i:Nat)=>fV (s+(i:Int)) (p+(i:Int)) E) (cb k)
theorem ada(ht:je J tl)(h:D.length+k<20000)(h2:E.length+k<20000):∃d7,je J d7/\iS W (n+106) cD (.items ah (cj 0 k)) (cE vZ) (ba vZ) (sh z P R (dI D) (dI E) Wh (eE (.int p) v f (.int s) tl)) .next (sh z P R (dI (gG p (λi=>s+i) k D)) (dI (gG s (λi=>p+i) k E)) Wh (eE (.int p) v f (.int s) d7)):=by
 rw[sX]
 have:=FF (W:=W) (n:=n+106) (cx:=cD) (t:=cE vZ) (b:=ba vZ) (St:=λx tl=>sh z P R (dI x.1) (dI x.2) Wh (eE (.int p) v f (.int s) tl)) (e:=λi=>i) (nx:=λx i=>(fV (p+(i:Int)) (s+(i:Int)) x.1,fV (s+(i:Int)) (p+(i:Int)) x.2)) (Ok:=λm x=>x.1.length+m<20000/\x.2.length+m<20000)
  (λi x tl h=>by
   cases h
   ·exact f7 [] ⋯
   ·exact f7 [] ⋯)
  (λi x m h=>⟨vG▸vG▸(cV [sp 4470160344 ((vQ (bq (fe ..) h.1)):dz (.int (p+↑i)) (dI x.fst).1=J/\(dI x.fst).1.length<cG),sp 4470360514 ((vQ (bq (fe ..) h.2)):dz (.int (s+↑i)) (dI x.snd).1=J/\(dI x.snd).1.length<cG)] ⋯),Bb h.1,Bb h.2⟩) (cb k) (x:=(D,E)) ht (by rw[g8];exact⟨h,h2⟩)
 rw[ae4] at this
 exact this.imp λd7 q=>⟨q.1,zj W q.2⟩
end
end
section
inductive HM:List (af×Sl)->Prop
 |z:HM []
 |s (b e f s:V) (tl) (h:je J tl):HM (eE b e f s tl)
inductive o6(z:fu)(P:List V)(g A:Int×Int->List Int)(n:Int)(CH:List (Int×Int×List Int))(FW:List Int)(l:List (Int×Int)):S->Prop
 |mk (R On Bk Wd tl) (ht:HM tl) (hz:tl=[]->Wd=[]) (h:o7 g A n CH FW l R On Bk Wd) (c1:On.length+100*l.length<10000) (c2:Bk.length+100*l.length<10000):o6 z P g A n CH FW l (sh z P (R.map bO) (dI On) (dI Bk) (Wd.map .int) tl)
noncomputable def wm(p:Int×Int):V:=.tup [.int p.1,.int p.2]
theorem aeF:ba (eR 2)=[dK 0,dK 1,dK 2,dK 3,dK 4,dK 5]:=by kernel_rfl
theorem yf{p:Int}{g:Nat->Int}{k:Nat}{d:List (Int×Int)}:(gG p g k d).length<=d.length+k:=by
 induction k with
 |zero=>exact aQ _
 |succ k ih=>
  rw[gG,JE,z5]
  exact bf EE (gM ih)
section
variable {W:Ws PG}{n:Nat}{z:fu}{P R Wh:List V}{D E:List (Int×Int)}{s p q:Int}{f:List Int}{tl d7:List (af×Sl)}
theorem aca{Q:Prop}(ht:je ah tl)(hp:0<=p)(hq:p<q)(zw:q<900)(hD:D.length<10000)(hE:E.length<10000)(hf:f.length<100)
  (h:∀d7,je J d7->(∀{fl s'},Ex W (n+108) cD [dK 4,dK 5] (sh z P R (dI (fV q (s+f.length) (gG p (λj=>s) (q+1-p).toNat D))) (dI (gG s (λj=>p) f.length E)) Wh (eE (.int p) (.int q) (L f) (.int s) d7)) fl s'->Ex W (n+108) cD [dK 1,dK 2,dK 3,dK 4,dK 5] (sh z P R (dI D) (dI E) Wh (eE (.int p) (.int q) (L f) (.int s) tl)) fl s')->Q):Q:=by
 have hk:(q+1-p).toNat<1000/\(q+1-p).toNat≠0:=by lia
 have l1:=yf (p:=p) (g:=λj=>s) (k:=(q+1-p).toNat) (d:=D)
 have hm:(f.map V.int).length=f.length:=aO ..
 refine(ac0 (W:=W) (n:=n) (z:=z) (P:=P) (R:=R) (Bk:=dI E) (Wh:=Wh) (f:=L f) (s:=s) (D:=D) (p:=p) (q:=q) ht (by lia)).elim λt1 q1=>?_
 rw[show(cb (q+1-p).toNat).isEmpty=ah from List.isEmpty_eq_false_iff.mpr λe=>hk.2 (g8.symm.trans (congrArg qL e))] at q1
 have k1:=aeC (AP hp (by lia) (by lia) (by lia)) q1.2
 have k2:=agX (W:=W) (n:=n) (p:=z) (P:=P) (R:=R) (Wh:=Wh) (f:=f.map .int) (On:=dI (gG p (λj=>s) (q+1-p).toNat D)) (Bk:=dI E) (u:=.int p) (s:=s) (v:=q) (tl:=t1) (vQ (by lia))
 rw[vG,hm] at k2
 refine(abN (W:=W) (n:=n) (z:=z) (Bk:=dI (fV q (s+f.length) (gG p (λj=>s) (q+1-p).toNat D))) (P:=P) (R:=R) (Wh:=Wh) (f:=L f) (v:=.int q) (s:=s) (p:=p) (k:=f.length) (E:=E) q1.1 (by lia)).elim λt2 q2=>?_
 have k3:=adY (W:=W) (n:=n) (p:=z) (f:=f.map .int) (by rw[hm];exact rh (gz 0) (by decide) (ct hf (by decide))) (by rw[hm];exact q2.2)
 exact h t2 q2.1 λk=>aT k1 (aT k2 (aT k3 k))
end
end
section
noncomputable def wo(z:fu)(P:List V)(p q:Int)(f:List Int)(R:List (Int×Int×List Int))(D E:List (Int×Int))(Wd:List Int)(tl:List (af×Sl)):S:=sh z P (R.map bO) (dI D) (dI E) (Wd.map .int) (eE (.int p) (.int q) (L f) (.int Wd.length) tl)
noncomputable def qg(p q:Int)(f Wd:List Int)(D:List (Int×Int)):List (Int×Int):=fV q ((Wd.length:Int)+f.length) (gG p (λj=>Wd.length) (q+1-p).toNat D)
noncomputable def uD(p:Int)(f Wd:List Int)(E:List (Int×Int)):List (Int×Int):=gG Wd.length (λj=>p) f.length E
section
variable {f Wd:List Int}{D E:List (Int×Int)}{p q a x b:Int}
theorem aaB(h:(q+1-p).toNat<30):(qg p q f Wd D).length<=D.length+30:=bf EE (bf (gM yf) (gd h _))
theorem OR(hq:p<q)(h:a<p):dt a (qg p q f Wd D)=dt a D:=x8.trans ((if_neg (mW (sM h hq))).trans (xU.trans (if_neg λk=>gA.mpr k.1 h)))
theorem afs(hq:p<=a)(h:a<q):dt a (qg p q f Wd D)=U (Wd.length:Int):=x8.trans ((if_neg (mW h)).trans (xU.trans (if_pos ⟨hq,by lia⟩)))
theorem OQ:dt q (qg p q f Wd D)=U ((Wd.length:Int)+f.length):=x8.trans (if_pos rfl)
theorem Bc{k:Nat}{g:Nat->Int}(h:a<p):dt a (gG p g k D)=dt a D:=xU.trans (if_neg λk=>gA.mpr k.1 h)
theorem E7{k:Nat}{g:Nat->Int}(h:p<=a)(h2:a<p+k):dt a (gG p g k D)=U (g (a-p).toNat):=xU.trans (if_pos ⟨h,h2⟩)
theorem aae{k:Nat}{g:Nat->Int}(h:p+k<=a):dt a (gG p g k D)=dt a D:=xU.trans (if_neg λk=>gA.mpr h k.2)
theorem Oi(h:p<=a):b+((a-p).toNat:Int)=b+(a-p):=congrArg (b+·) (uJ (Int.sub_nonneg_of_le h))
end
section
variable {W:Ws PG}{n:Nat}{z:fu}{P:List V}{g A:Int×Int->List Int}{N:Int}{CH R:List (Int×Int×List Int)}{FW Wd:List Int}{l:List (Int×Int)}{D E:List (Int×Int)}{p q:Int}{tl:List (af×Sl)}
theorem aa2(h:o7 g A N CH FW ((p,q)::l) R D E Wd)(hA:((A (p,q)).length:Int)=q-p)(hf:(0:Int)<(g (p,q)).length)(hq:p<q)(e:¬g (p,q)=A (p,q)):o7 g A N CH FW l (R++[(p,q,g (p,q))]) (qg p q (g (p,q)) Wd D) (uD p (g (p,q)) Wd E) (Wd++g (p,q)):=
 Nl h hA hf (by rw[if_neg e]) (λa ha=>OR hq ha) (λa h1 h2=>by rw[if_neg e,afs h1 h2]) OQ (λx hx=>Bc hx) λx h1 h2=>by rw[if_neg e,uD,E7 h1 h2]
theorem Y0(h:o7 g A N CH FW ((p,q)::l) R D E Wd)(hA:((A (p,q)).length:Int)=q-p)(hf:(0:Int)<(g (p,q)).length)(hq:p<q)(e:g (p,q)=A (p,q)):o7 g A N CH FW l R (gG p (λi=>(Wd.length:Int)+i) (g (p,q)).length (qg p q (g (p,q)) Wd D)) (gG Wd.length (λi=>p+i) (g (p,q)).length (uD p (g (p,q)) Wd E)) (Wd++g (p,q)):=
 have hp:p+((g (p,q)).length:Int)=q:=by rw[e,hA];exact qf
 Nl h hA hf (by rw[if_pos e,bx]) (λa ha=>(Bc ha).trans (OR hq ha)) (λa h1 h2=>by rw[if_pos e,E7 h1 (uK h2 (Ao hp.symm)),Oi h1]) ((aae (Ao hp)).trans OQ) (λx hx=>(Bc hx).trans (Bc hx)) λx h1 h2=>by rw[if_pos e,E7 h1 h2,Oi h1]
theorem Ck{k k2:Nat}(h:k<=k2+30)(h2:k2+60<20000){m:Nat}(hm:m<30):k+m<20000:=bq (sH h (ee hm)) h2
theorem acU(h:o7 g A N CH FW ((p,q)::l) R D E Wd)(c1:D.length+100*(l.length+1)<10000)(c2:E.length+100*(l.length+1)<10000)(hC:CH.length<100)(hW:FW.length<100)(hq:p<q)(hk:(q+1-p).toNat<30)(hf:0<(g (p,q)).length)(rP:(g (p,q)).length<30)(hA:((A (p,q)).length:Int)=q-p)(hv:jj (z.2.2.2.2.map V.int) p q=(A (p,q)).map .int)(ht:je J tl):
  ∃s',Ex W (n+108) cD [dK 4,dK 5] (wo z P p q (g (p,q)) R (qg p q (g (p,q)) Wd D) (uD p (g (p,q)) Wd E) Wd tl) .next s'/\o6 z P g A N CH FW l s':=by
 have hm:((g (p,q)).map V.int).length=(g (p,q)).length:=aO ..
 have b1:Wd.length+(g (p,q)).length<=FW.length/\R.length<=CH.length:=by
  refine h _ λp' h0 hc hR C4 _ _ _ _ _=>?_
  rw[<-C4,<-hR,aX,aX,mT,aX]
  exact⟨gd (fe ..) _,fe ..⟩
 have d1:=aaB (f:=g (p,q)) (Wd:=Wd) (D:=D) hk
 have d2:(uD p (g (p,q)) Wd E).length<=E.length+30:=bf yf (gd (ee rP) _)
 have he:=pF (A:=g (p,q)) (B:=A (p,q))
 rw[show(L (A (p,q)))=.list (jj (z.2.2.2.2.map V.int) p q) from congrArg V.list hv.symm] at he
 have fin:∀{R' D' E' d7},o7 g A N CH FW l R' D' E' (Wd++g (p,q))->D'.length<=D.length+60->E'.length<=E.length+60->je J d7->Sm W (n+108) cD (dK 4) (wo z P p q (g (p,q)) R (qg p q (g (p,q)) Wd D) (uD p (g (p,q)) Wd E) Wd tl) .next (wo z P p q (g (p,q)) R' D' E' Wd d7)->
   ∃s',Ex W (n+108) cD [dK 4,dK 5] (wo z P p q (g (p,q)) R (qg p q (g (p,q)) Wd D) (uD p (g (p,q)) Wd E) Wd tl) .next s'/\o6 z P g A N CH FW l s':=λ{R' D' E' d7} i k1 k2 ht k=>by
  have i:o6 z P g A N CH FW l (sh z P (R'.map bO) (dI D') (dI E') ((Wd++g (p,q)).map .int) (eE (.int p) (.int q) (L (g (p,q))) (.int Wd.length) d7)):=.mk _ _ _ _ _ (.s _ _ _ _ _ ht) (λe=>absurd (congrArg qL e) (Nat.succ_ne_zero _)) i (by clear d1 d2;lia) (by clear d1 d2;lia)
  rw[bZ] at i
  exact⟨_,aT k ((cV [sr 4480160280 ((qY (by rw[aO,aO];exact oj (bq b1.1 (ct hW (by decide))))):fg .Add (.list (cA V.int Wd)) (.list (cA V.int (g (p,q))))=U (.list ((cA V.int Wd)++(cA V.int (g (p,q))))))] ⋯)),i⟩
 by_cases e:g (p,q)=A (p,q)
 ·rw[decide_eq_true e] at he
  refine(ada ht (Ck d1 (by lia) rP) (Ck d2 (by lia) rP)).elim λt k=>fin (Y0 h hA (hO.mpr hf) hq e) (bf yf (bf (sH d1 (ee rP)) (eA (j9 _ 30 30)))) (bf yf (bf (sH d2 (ee rP)) (eA (j9 _ 30 30)))) k.1 (agY he (by rw[hm];exact rh (gz 0) (by decide) (by lia)) (by rw[hm];exact k.2))
 ·rw[decide_eq_false e] at he
  refine fin (aa2 h hA (hO.mpr hf) hq e) (bf d1 (gd (by decide) _)) (bf d2 (gd (by decide) _)) ht ?_
  rw[wo,wo,bZ]
  exact aL [sb 4430190341 he,sp 4440120434 ((nk (by rw[aO];lia)):(cA bO R).length<cG)] ⋯
end
end
section
section
variable {W:Ws PG}{n:Nat}{z:fu}{P:List V}{g A:Int×Int->List Int}{N:Int}{CH:List (Int×Int×List Int)}{FW:List Int}{l:List (Int×Int)}{p q:Int}{s:S}
structure F6(W:Ws PG)(z:fu)(g A:Int×Int->List Int)(e:Int×Int):Prop where
 h0:0<=e.1
 lt:e.1<e.2
 hq:e.2<20
 hf:0<(g e).length
 rP:(g e).length<30
 hA:((A e).length:Int)=e.2-e.1
 hv:jj (z.2.2.2.2.map V.int) e.1 e.2=(A e).map .int
 hc:∀j,Ca W (j+60) 506 [bA z.1 (wk z.2.2.1) z.2.2.2.1,L (A e)] [] (L (g e)) []
theorem aaL(o:F6 W z g A (p,q))(hC:CH.length<100)(hW:FW.length<100)(h:o6 z P g A N CH FW ((p,q)::l) s):eC W (n+108) cD J (cE (eR 2)) (ba (eR 2)) (λf s=>f=.next/\o6 z P g A N CH FW [] s) (o6 z P g A N CH FW l) (wm (p,q)) s:=by
 induction h with
 |mk R D E Wd tl ht hz h c1 c2=>
  rw[fP] at c1 c2
  have hk:(q+1-p).toNat<30:=by have:=o.hq;have:=o.h0;dsimp only at*;lia
  have fA:V.bI (jj (z.2.2.2.2.map V.int) p q)=true:=o.hv▸aR _
  have f2:∀j,Ca W (j+60) 506 [bA z.1 (wk z.2.2.1) z.2.2.2.1,.list (jj (z.2.2.2.2.map V.int) p q)] [] (L (g (p,q))) []:=o.hv▸o.hc
  have hl:(Wd.map V.int).length=Wd.length:=aO ..
  have go:∀{s1 d7},je ah d7->Bd W (n+108) cD J (cE (eR 2)) (wm (p,q)) (sh z P (R.map bO) (dI D) (dI E) (Wd.map .int) tl) s1->Sm W (n+108) cD (dK 0) s1 .next (sh z P (R.map bO) (dI D) (dI E) (Wd.map .int) (eE (.int p) (.int q) (L (g (p,q))) (.int (Wd.map V.int).length) d7))->eC W (n+108) cD J (cE (eR 2)) (ba (eR 2)) (λf s=>f=.next/\o6 z P g A N CH FW [] s) (o6 z P g A N CH FW l) (wm (p,q)) (sh z P (R.map bO) (dI D) (dI E) (Wd.map .int) tl):=λ{s1 d7} ht' hb k=>by
   rw[hl] at k
   rw[aeF]
   exact aca ht' o.h0 o.lt (sM o.hq (by decide)) (by lia) (by lia) (ct o.rP (by decide)) λt ht kk=>(acU h c1 c2 hC hW o.lt hk o.hf o.rP o.hA o.hv ht).elim λs' q Q_ k_=>k_ _ _ _ hb (aT k (kk q.1)) q.2
  induction ht with
  |z=>exact go .z (f7 [] ⋯) ((aL [sc 4370220550 (m:=n+106) (f2 _) (ak ((hU)) (ak fA rfl)) ((aR (g (p,q))))] ⋯:Sm W (n+108) cD (dK 0) (sh z P (cA bO R) (dI D) (dI E) (cA V.int Wd) [(n! "begin",.val (.int p)),(n! "end",.val (.int q))]) .next (sh z P (cA bO R) (dI D) (dI E) (cA V.int Wd) (eE (.int p) (.int q) (L (g (p,q))) (.int (cA V.int Wd).length) []))))
  |s b e f s tl h=>exact go (by cases h;exact .s ..) (f7 (s':=(sh z P (cA bO R) (dI D) (dI E) (cA V.int Wd) (eE (V.int (p,q).fst) (V.int (p,q).snd) f s tl))) [] ⋯) ((aL (s':=(sh z P (cA bO R) (dI D) (dI E) (cA V.int Wd) (eE (.int ((p,q).fst)) (.int ((p,q).snd)) (L (g (p,q))) (.int (cA V.int Wd).length) tl))) [sc 4370220550 (m:=n+106) (f2 _) (ak ((hU)) (ak fA rfl)) ((aR (g (p,q))))] ⋯))
end
end
section
section
variable {g A:Int×Int->List Int}{n p q a:Int}{z:List (Int×Int)}{T:List Int}{r:Int}{b w:Nat}
theorem V3{e:Int×Int}(he:e∈z):∀{p},chain p z n->0<=p->0<=e.1/\e.1<e.2/\e.2<=n:=by
 induction z with
 |nil=>exact nomatch he
 |cons x z ih=>
  intro p h h0
  cases he with
  |head=>exact⟨h.1.symm▸h0,h.1.symm▸h.2.1,X8 h.2.2⟩
  |tail _ he=>exact ih he h.2.2 (gO h0 (fy h.2.1))
theorem Zj{f:Nat->Int×Int}(l:List Nat):(l.filter λi=>aJ (g (f i)≠A (f i))).map (λi=>((f i).1,(f i).2,g (f i)))=eT g A (l.map f):=by
 induction l with
 |nil=>rfl
 |cons i l ih=>
  rw[xA,ff]
  by_cases h:g (f i)=A (f i)
  ·rw[n4 h,if_neg (λq=>absurd h (of_decide_eq_true q)),ih]
  ·rw[n8 h,if_pos (decide_eq_true h),ff,ih]
noncomputable def jr(P:List Int):List (Int×Int):=P.zip P.tail
theorem XE(P:List Int):jr P=(cb (P.length-1)).map λi=>(P.getD i 0,P.getD (i+1) 0):=by
 apply List.ext_getElem
 ·rw[jr,JF,List.length_tail,aO,g8];exact Dw (qP ..)
 ·intro i h1 h2
  rw[aO,g8] at h2
  have h3:i+1<P.length:=SF h2
  rw[List.getElem_map,List.getElem_range,j6,j6,gi h3,gi (xw h3)]
  exact List.getElem_zip.trans (congrArg _ (List.getElem_tail _))
theorem UY:EL r b w T=eT (λe=>aD r b w (di T e.1 e.2)) (λe=>di T e.1 e.2) (jr (ef r b w T)):=by
 rw[XE,<-Zj];rfl
theorem abK{α:Type}{T:List α}{p q s:Nat}(h1:p<=q)(h2:q<=s):sl T p q++sl T q s=sl T p s:=by
 rw[sl,sl,sl,<-Nat.sub_add_sub_cancel h2 h1,kb,List.take_add,List.drop_drop,Nat.add_sub_of_le h1]
theorem Fb{s:Int}(h1:p<=q)(h2:q<=s):di T p q++di T q s=di T p s:=abK (Jy h1) (Jy h2)
theorem abG{α:Type}{T:List α}{p q:Nat}(h2:q<=T.length):(sl T p q).length=q-p:=by
 rw[sl,qH,mU];exact xE (Nat.sub_le_sub_right h2 p)
theorem YO(h0:0<=p)(h1:p<=q)(h2:q<=T.length):((di T p q).length:Int)=q-p:=by
 rw[di,abG (Int.toNat_le.mpr h2),Int.ofNat_sub (Jy h1),uJ h0,uJ (gO h0 h1)]
theorem Nu:di T p p=[]:=by rw[di,sl,qK];rfl
theorem Uu(hg:∀e,A e=di T e.1 e.2):∀{a p},0<=a->a<=p->chain p z T.length->pA T (eT g A z) a=di T a p++z.flatMap g:=by
 induction z with
 |nil=>
  intro a p h0 h1 hc
  have hc:p=T.length:=hc
  rw[z7,bx,di,sl,xi (by rw[mU,hc];exact aQ _)];rfl
 |cons x z ih=>
  intro a p h0 h1 hc
  have h2:0<=x.2:=gO h0 (gO h1 (fy hc.2.1))
  rw[mT,<-aN]
  by_cases e:g x=A x
  ·rw[n4 e,ih h0 (gO h1 (fy hc.2.1)) hc.2.2,e,hg,hc.1,Fb h1 (fy hc.2.1)]
  ·rw[n8 e]
   show di T a x.1++g x++pA T (eT g A z) x.2=_
   rw[ih h2 (gz _) hc.2.2,Nu,hc.1];rfl
theorem ads(l:List (Int×Int×List Int)):xI (d8 (l.map bO)) (d8 (l.map bO))=true:=by
 induction l with
 |nil=>rfl
 |cons c l ih=>
  show((aJ (c.1=c.1)&&(aJ (c.2.1=c.2.1)&&(xI (d8 (c.2.2.map V.int)) (d8 (c.2.2.map V.int))&&J)))&&xI (d8 (l.map bO)) (d8 (l.map bO)))=J
  rw[ih,ER,decide_eq_true rfl,decide_eq_true rfl,decide_eq_true rfl];rfl
theorem ae1{l:List (Int×Int×List Int)}:bC .NotEq (.list (l.map bO)) (.list (l.map bO))=U false:=by
 have h:fq 8 (.list (l.map bO))=true:=md.mpr λv hv=>(i4.mp hv).elim λc h=>h.2▸(show(J&&(J&&(fq 6 (L c.2.2)&&J)))=J from by
  rw[show fq 6 (L c.2.2)=J from md.mpr λv hv=>(i4.mp hv).elim λi h=>h.2▸rfl];rfl)
 show kK (if(fq 8 _&&fq 8 _)=J then U (xI (d8 (l.map bO)) (d8 (l.map bO))) else aj)=_
 rw[h,ads];rfl
end
end
section
section
variable {W:Ws PG}{n b w:Nat}{r:Int}{k:Bool}{PL:List ((Int×Int)×Int)}{T:List Int}{z:fu}
noncomputable def nI(r:Int)(b w:Nat)(T:List Int)(i:Nat):Option V:=if(aJ (i=0)||cF r b w (T.getD i 0))=J then U (.int i) else aj
theorem adx(l:List Nat):(l.map ES).filterMap (nI r b w T)=(jw r b w T l).map .int:=by
 induction l with
 |nil=>rfl
 |cons i l ih=>
  have e:nI r b w T i.succ=if cF r b w (T.getD (1+i) 0)=J then U (V.int ((1+i:Nat):Int)) else none:=by
   rw[nI,decide_eq_false (Nat.succ_ne_zero i),JP,Nat.succ_eq_add_one,kb i 1]
  rw[ff,jw,xA]
  by_cases h:cF r b w (T.getD (1+i) 0)=J
  ·rw[if_pos h] at e ⊢
   rw[C8 e,ih];rfl
  ·rw[if_neg h] at e ⊢
   rw[Jc e,ih];rfl
theorem adR(hn:0<T.length):(cb T.length).filterMap (nI r b w T)++[.int (T.length:Int)]=(ef r b w T).map .int:=by
 have e:T.length=(T.length-1)+1:=(Dj hn).symm
 have h:(cb T.length).filterMap (nI r b w T)=.int 0::(jw r b w T (cb (T.length-1))).map .int:=by
  conv=>{lhs;arg 2;rw[e,List.range_succ_eq_map]}
  rw[C8 (show nI r b w T 0=U (.int 0) from rfl),adx]
 rw[h,ef,if_neg (mh hn),bZ];rfl
theorem ahK:(bF p7).ifs=[((bF p7).ifs[0]?).getD p7]:=by kernel_rfl
theorem Vd(hT:∀c∈T,c∈aB)(Iu:∀c∈T,oE r (wk w) PL c=cF r b w c):∃c',dB W (n+106) (dk cD p7) (.items ah (cj 0 (T.map V.int).length)) (dg p7) (bF p7).target (bF p7).ifs (oV (r,b,w,PL,T) []) ((cb T.length).filterMap (nI r b w T)) {oV (r,b,w,PL,T) [] with cv:=c'}:=by
 rw[aO,sX]
 refine IY W (λi hi=>?_) []
 have hi:=lr.mp hi
 have hc:T.getD i 0∈T:=getD_mem hi
 have f0:=λj=>Kk (W:=W) (n:=j) (r:=r) (k:=wk w) (PL:=PL) (hT _ hc)
 rw[Iu _ hc] at f0
 rw[ahK,nI]
 by_cases h:i=0
 ·rw[if_pos (by rw[decide_eq_true h];rfl)]
  exact .take [(n! "at",.int (i:Int))] _ rfl (tD ((fj [sb 4340530541 (tY (congrArg Nat.cast h))] ⋯)) oC) (jd (ON))
 ·have h1:¬((i:Int)=0):=λe=>h (DD e)
  rw[decide_eq_false h,JP]
  cases q:cF r b w (T.getD i 0)<;>rw[q] at f0
  ·exact .skip [(n! "at",.int (i:Int))] rfl (vC ((fj [sb 4340530541 (oQ h1),sv 4340780860 (mr hi),sc 4340580870 (m:=(n+26)+77) (f0 _) (ak ((hU)) rfl) rfl] ⋯)))
  ·exact .take [(n! "at",.int (i:Int))] _ rfl (tD ((fj [sb 4340530541 (oQ h1),sv 4340780860 (mr hi),sc 4340580870 (m:=(n+26)+77) (f0 _) (ak ((hU)) rfl) rfl] ⋯)) oC) (jd (ON))
theorem Yp:∀{A B:List Int},oM (A.map .int) (B.map .int)=(A.zip B).map wm:=λ{A B}=>by
 rw[oM,List.zipWith_map,List.zip,List.map_zipWith];rfl
theorem acr{α:Type}{g:α->V}(l:List α):∀i,rS (λj a=>U (g a)) i l=l.map g:=by
 induction l with
 |nil=>exact λi=>rfl
 |cons a l ih=>exact λi=>congrArg (g a::·) (ih (i+1))
end
end
section
section
variable {W:Ws PG}{n:Nat}{z:fu}{P R Wh:List V}{CH:List (Int×Int×List Int)}{On Bk:List V×List V}{b e f s a:V}{N:Nat}{D:List (Int×Int)}
theorem ac9:∃c',dB W (n+105) (dk cD p3) (.live (n! "told") ah) (dg p3) (bF p3).target [] (sh z P R On Bk Wh (dW b e f s a (.list (CH.map bO)))) (CH.map bO) {sh z P R On Bk Wh (dW b e f s a (.list (CH.map bO))) with cv:=c'}:=by
 have h:=Cb W (n:=n+105) (cx:=dk cD p3) (it:=.live (n! "told") ah) (elt:=dg p3) (t:=(bF p3).target) (s:=sh z P R On Bk Wh (dW b e f s a (.list (CH.map bO)))) (g:=λj c=>U (bO c)) (λi c=>by
  show U (((CH.map bO)[i]?).map λv=>BK ah i v)=_
  rw[gj,DA];rfl) (λi c=>.take [(n! "row",bO c)] _ rfl oC (jd ((jf [] ⋯)))) CH [] [] rfl
 rw[acr] at h
 exact h.elim λm k=>k.imp λc' k=>⟨m,k⟩
theorem acy:∃c',dB W (n+106) (dk cD r7) (.items ah (cj 0 ((N:Int)+1))) (dg r7) (bF r7).target [] (sh z P R On Bk Wh (dW b e f s a (.val (.list (CH.map bO))))) (((cb (N+1)).map λi:Nat=>i9 CH i 0).map .int) {sh z P R On Bk Wh (dW b e f s a (.val (.list (CH.map bO)))) with cv:=c'}:=by
 rw[show cj 0 ((N:Int)+1)=_ from sX,nW]
 exact pS W (l:=cb (N+1)) (λi x=>⟨rfl,jd (ac5 (λj=>S0 CH i) (A6 CH))⟩) []
theorem adL:∃c',dB W (n+106) (dk cD rX) (.items ah (cj 0 ((N:Int)+1))) (dg rX) (bF rX).target [] (sh z P R On Bk Wh (dW b e f s a (.val (.list (CH.map bO))))) (((cb (N+1)).map λi:Nat=>jc CH i 0).map .int) {sh z P R On Bk Wh (dW b e f s a (.val (.list (CH.map bO)))) with cv:=c'}:=by
 rw[show cj 0 ((N:Int)+1)=_ from sX,nW]
 exact pS W (l:=cb (N+1)) (λi x=>⟨rfl,jd (adm (λj=>Tj CH i) (A6 CH))⟩) []
theorem O6{a x:Int}(h:dt a D=U x):cC (.dict (dI D).1 (dI D).2) (.int a)=U (.int x):=Eu jF (adJ.trans (by rw[h];rfl))
theorem ack{g:Nat->Int}(h:∀i:Nat,i<=N->dt i D=U (g i)):∃c',dB W (n+106) (dk cD v7) (.items ah (cj 0 ((N:Int)+1))) (dg v7) (bF v7).target [] (sh z P R (dI D) Bk Wh (dW b e f s a (.val (.list (CH.map bO))))) (((cb (N+1)).map g).map .int) {sh z P R (dI D) Bk Wh (dW b e f s a (.val (.list (CH.map bO)))) with cv:=c'}:=by
 rw[show cj 0 ((N:Int)+1)=_ from sX,nW]
 exact pS W (λi hi=>⟨rfl,jd ((jf [sv 4550650750 (O6 (h i (pk (lr.mp hi))))] ⋯))⟩) []
theorem acs{g:Nat->Int}(h:∀i:Nat,i<=N->dt i D=U (g i)):∃c',dB W (n+106) (dk cD w8) (.items ah (cj 0 ((N:Int)+1))) (dg w8) (bF w8).target [] (sh z P R On (dI D) Wh (dW b e f s a (.val (.list (CH.map bO))))) (((cb (N+1)).map g).map .int) {sh z P R On (dI D) Wh (dW b e f s a (.val (.list (CH.map bO)))) with cv:=c'}:=by
 rw[show cj 0 ((N:Int)+1)=_ from sX,nW]
 exact pS W (λi hi=>⟨rfl,jd ((jf [sv 4570750830 (O6 (h i (pk (lr.mp hi))))] ⋯))⟩) []
end
theorem ne_int{A:List Int}:bC .NotEq (L A) (L A)=U false:=pF.trans (by rw[decide_eq_true rfl];rfl)
theorem eq_int{A:List Int}:bC .Eq (L A) (L A)=U true:=pB.trans (by rw[decide_eq_true rfl])
section
variable {W:Ws PG}{n:Nat}{z:fu}{P FW:List Int}{CH:List (Int×Int×List Int)}{D E:List (Int×Int)}{b e f s v:V}
theorem acK(hN:z.2.2.2.2.length<30)(hW:FW.length<100)(hE:E.length<20000)(f1:∀j,Ca W (j+60) 506 [bA z.1 (wk z.2.2.1) z.2.2.2.1,L z.2.2.2.2] [] (L FW) [])(f2:∀j,Ca W (j+70) 228 [L z.2.2.2.2,dat z.1 z.2.1,.str (bB z.2.2.1)] [] (L P) [])(f3:∀j,Ca W (j+80) 300 [L z.2.2.2.2,dat z.1 z.2.1,.str (bB z.2.2.1)] [] (.list (CH.map bO)) [])(f4:∀j,Ca W (j+20) 307 [L z.2.2.2.2,.list (CH.map bO)] [] (L FW) [])
  (hD:∀i:Nat,i<=z.2.2.2.2.length->dt i D=U (i9 CH i 0)) (hB:∀i:Nat,i<=FW.length->dt i (fV FW.length z.2.2.2.2.length E)=U (jc CH i 0)):Ex W (n+109) cD [eR 3,eR 4,eR 5,eR 6,eR 7,eR 8] (sh z (P.map .int) (CH.map bO) (dI D) (dI E) (FW.map .int) (eE b e f s [(n! "at",.val v)])) (.ret (.bool J)) (sh z (P.map .int) (CH.map bO) (dI D) (dI (fV FW.length z.2.2.2.2.length E)) (FW.map .int) (dW b e f s v (.val (.list (CH.map bO))))):=by
 have k:=agf (W:=W) (n:=n) (p:=z) (P:=P.map .int) (R:=CH.map bO) (On:=dI D) (Wh:=FW.map .int) (tl:=eE b e f s [(n! "at",.val v)]) (vQ hE)
 rw[vG,aO,aO] at k
 have hl:(z.2.2.2.2.map V.int).length=z.2.2.2.2.length:=aO ..
 have jC:(FW.map V.int).length=FW.length:=aO ..
 refine aT k (aT (ahN f1 f2 ne_int ne_int) (aT ((aL [sc 4520160520 (m:=n+106) (f3 _) (ak ((aR z.2.2.2.2)) (ak ((aZ)) rfl)) (A6 CH)] ⋯)) (ac9.elim λc1 k1=>aT (afQ k1 ae1 f4 ne_int (A6 CH) (aR _)) ((acy).elim λc2 k2=>(ack λi h=>hD i (bf h (eA hl))).elim λc3 k3=>aT (age ?_ k2 k3 ne_int) ((adL).elim λc4 k4=>(acs λi h=>hB i (bf h (eA jC))).elim λc5 k5=>ag1 ?_ k4 k5 eq_int)))))
 ·rw[hl];exact rh (gz 0) (by decide) (ct (qI hN) (by decide))
 ·rw[jC];exact rh (gz 0) (by decide) (ct (qI hW) (by decide))
end
end
section
section
variable {W:Ws PG}{n b w:Nat}{r:Int}{PL:List ((Int×Int)×Int)}{T:List Int}
noncomputable abbrev tV(r:Int)(b w:Nat)(T:List Int)(e:Int×Int):List Int:=aD r b w (di T e.1 e.2)
noncomputable abbrev y3(T:List Int)(e:Int×Int):List Int:=di T e.1 e.2
theorem L2(hr:0<r)(gZ:∀q∈PL,bY q.2=ah)(wA:∀A:List Int,(∀c∈A,c∈aB)->jQ r (wk w) PL A=aD r b w A){A:List Int}(hA:∀c∈A,c∈aB)(hl:A.length<20):Ca W (n+60) 506 [bA r (wk w) PL,L A] [] (L (aD r b w A)) []:=
 have h:=ko (k:=wk w) hA
 wA A hA▸DQ hr gZ hA (by lia) (by lia)
theorem EK{A:List Int}(hA:∀c∈A,c∈aB)(hl:A.length<10):(aD r b w A).length<30:=
 bq (vg A) (bq (ko hA).2.1 (by lia))
theorem acg(hr:0<r)(gZ:∀q∈PL,bY q.2=ah)(hT:∀c∈T,c∈aB)(hl:T.length<10)(wA:∀A:List Int,(∀c∈A,c∈aB)->jQ r (wk w) PL A=aD r b w A)(eD:∀A:List Int,A≠[]->(∀c∈A,c∈aB)->aD r b w A≠[]){e:Int×Int}(h:0<=e.1/\e.1<e.2/\e.2<=T.length):F6 W (r,b,w,PL,T) (tV r b w T) (y3 T) e:=
 have hA:∀c∈y3 T e,c∈aB:=λc hc=>hT c (Bn hc)
 have jC:(y3 T e).length<10:=bq ET hl
 have hs:=YO h.1 (fy h.2.1) h.2.2
 ⟨h.1,h.2.1,by have:=h.2.2;lia,SI.mpr (eD _ (λq=>by rw[show di T e.1 e.2=[] from q,j7] at hs;have:=h.2.1;lia) hA),EK hA jC,hs,Et h.1 (gO (fy h.2.1) h.2.2) (gO h.1 (fy h.2.1)) h.2.2,λj=>L2 hr gZ wA hA (ct jC (by decide))⟩
theorem acb{g A:Int×Int->List Int}{z:List (Int×Int)}:(eT g A z).length<=z.length:=by
 induction z with
 |nil=>exact aQ _
 |cons e z ih=>
  by_cases h:g e=A e
  ·rw[n4 h];exact sC ih
  ·rw[n8 h];exact gM ih
theorem ab1{g A:Int×Int->List Int}{z:List (Int×Int)}{P:Int×Int×List Int->Prop}(h:∀e∈z,P (e.1,e.2,g e)):∀c∈eT g A z,P c:=by
 induction z with
 |nil=>exact λc hc=>nomatch hc
 |cons e z ih=>
  have ih:=ih λe he=>h e (.tail _ he)
  by_cases q:g e=A e
  ·rw[n4 q];exact ih
  ·rw[n8 q];exact eF.mpr ⟨h e (.head _),ih⟩
theorem agZ{g A:Int×Int->List Int}{N:Nat}{CH R:List (Int×Int×List Int)}{FW Wd:List Int}{D E:List (Int×Int)}(h:o7 g A N CH FW [] R D E Wd):R=CH/\Wd=FW/\(∀i:Nat,i<=N->dt i D=U (i9 CH i 0))/\∀i:Nat,i<=Wd.length->dt i (fV Wd.length N E)=U (jc CH i 0):=by
 refine h _ λp h0 hc hR C4 o1 b1 o2 b2 e=>?_
 have hc:p=N:=hc
 subst hc
 rw[show eT g A []=[] from rfl,bx] at hR
 rw[z7,bx] at C4
 refine⟨hR,C4,λi hi=>?_,λi hi=>x8.trans ?_⟩
 ·by_cases h:i<N
  ·exact o2 i (fw i) (hO.mpr h)
  ·rw[me hi (iD.mp h),e rfl,o1 N (gz _)];exact congrArg U qf.symm
 ·by_cases h:i<Wd.length
  ·exact(if_neg λe=>mh h (DD e)).trans (b2 i (fw i) (hO.mpr h))
  ·rw[me hi (iD.mp h),if_pos rfl,b1 _ (gz _)];exact congrArg U (Int.sub_sub_self ..).symm
theorem aaT{z:fu}{P FW:List Int}{Z:List (Int×Int)}{g A:Int×Int->List Int}{CH:List (Int×Int×List Int)}(hz:oM (P.map .int) (eU (P.map .int) 1)=Z.map wm)(ho:∀e∈Z,F6 W z g A e)(hC:CH.length<100)(hF:FW.length<100)(hZ:Z.length<20)(uC:chain 0 Z z.2.2.2.2.length)(hn:0<z.2.2.2.2.length)(hl:z.2.2.2.2.length<10)(Iw:eT g A Z=CH)(hW:Z.flatMap g=FW)(h0:FW≠[])
  (e1:Sm W (n+109) cD (eR 0) (oV z []) .next (oV z [(n! "places",.list (P.map .int))])) (f1:∀j,Ca W (j+60) 506 [bA z.1 (wk z.2.2.1) z.2.2.2.1,L z.2.2.2.2] [] (L FW) []) (f2:∀j,Ca W (j+70) 228 [L z.2.2.2.2,dat z.1 z.2.1,.str (bB z.2.2.1)] [] (L P) []) (f3:∀j,Ca W (j+80) 300 [L z.2.2.2.2,dat z.1 z.2.1,.str (bB z.2.2.1)] [] (.list (CH.map bO)) []) (f4:∀j,Ca W (j+20) 307 [L z.2.2.2.2,.list (CH.map bO)] [] (L FW) []):
  Ca W (n+110) 516 [bA z.1 (wk z.2.2.1) z.2.2.2.1,dat z.1 z.2.1,.str (bB z.2.2.1),L z.2.2.2.2] [] (.bool J) []:=
 (pT W (n:=n+108) (I:=o6 z (P.map .int) g A z.2.2.2.2.length CH FW) Z (λe he l s h=>aaL (ho e he) hC hF h) (λs h=>⟨rfl,h⟩)
  (.mk [] [] [] [] [] .z (λx=>rfl) (λQ_ k_=>k_ 0 (gz 0) uC Iw hW (λa ha=>Iw▸rfl) (λa ha=>Iw▸rfl) (λa ha h=>absurd h (gA.mpr ha)) (λa ha h=>absurd h (gA.mpr ha)) (λh=>by
    rw[h] at uC;exact absurd (DD uC) (hJ hn))) (bq (eA (fx _)) (ct (zO hZ (by decide)) (by decide))) (bq (eA (fx _)) (ct (zO hZ (by decide)) (by decide))))).run W λf s q h=>by
  induction q with
  |intro e i=>
   subst e
   induction i with
   |mk R On Bk Wd tl ht mL i c1 c2=>
    have i:=agZ i
    have a:=i.1.symm
    subst a
    have a:=i.2.1.symm
    subst a
    induction ht with
    |z=>exact absurd (mL rfl) h0
    |s b' e' f' s' tl h'=>
     cases h' with
     |s _ v=>
      rw[<-hz] at h
      exact v9 rfl rfl (aT e1 (aT (aL [] ⋯) (aT ((aL [eV 4360040283 h] ⋯:Sm W (n+109) cD (eR 2) (shL z (cA V.int P)) .next (sh z (cA V.int P) (cA bO CH) (dI On) (dI Bk) (cA V.int FW) (eE b' e' f' s' [(n! "at",Sl.val v)])))) (acK (ct hl (by decide)) hF (bq (fe ..) (ct c2 (by decide))) f1 f2 f3 f4 i.2.2.1 i.2.2.2)))) rfl
theorem TA(hw:w<4)(hr:0<r)(gZ:∀q∈PL,bY q.2=ah)(hT:∀c∈T,c∈aB)(hn:0<T.length)(hl:T.length<10)(Iu:∀c∈T,oE r (wk w) PL c=cF r b w c)(wA:∀A:List Int,(∀c∈A,c∈aB)->jQ r (wk w) PL A=aD r b w A)(eD:∀A:List Int,A≠[]->(∀c∈A,c∈aB)->aD r b w A≠[])
  (uC:chain 0 (jr (ef r b w T)) T.length) (hW:(jr (ef r b w T)).flatMap (tV r b w T)=aD r b w T):Ca W (n+110) 516 [bA r (wk w) PL,dat r b,.str (bB w),L T] [] (.bool J) []:=by
 have hm:=λe he=>V3 (e:=e) he uC (gz 0)
 have jC:(T.map V.int).length=T.length:=aO ..
 have xd:(jr (ef r b w T)).length<20:=bq (bf (JF▸Dz ..) places_len) (qI (ct hl (by decide)))
 have hC:=bq (acb (g:=tV r b w T) (A:=y3 T)) xd
 have hF:=EK (r:=r) (b:=b) (w:=w) hT hl
 have hz:oM ((ef r b w T).map .int) (eU ((ef r b w T).map .int) 1)=(jr (ef r b w T)).map wm:=by
  rw[show eU ((ef r b w T).map V.int) 1=(ef r b w T).tail.map .int from(nf (T:=ef r b w T) (gM (eO _))).trans rfl,Yp];rfl
 have Ro:T.length<20:=ct hl (by decide)
 have e1:=(Vd (W:=W) (n:=n) hT Iu).elim λc' k=>(aL [sp 4340270430 ((jC.symm▸rh (gz 0) (by decide) (ct Ro (by decide))):ja 0 (((r,b,w,PL,T).2.2.2.2.map V.int).length:Int)=U (.items ah (cj 0 ((r,b,w,PL,T).2.2.2.2.map V.int).length))),sm 4340130883 k,sr 4340131020 ((qY (bf (gM (List.length_filterMap_le ..)) (by rw[g8];exact oj (qI (ct hl (by decide)))))):fg .Add (.list (DB (nI r b w T) (cb T.length))) (.list [.int (((r,b,w,PL,T).2.2.2.2.map V.int).length:Int)])=U (.list ((DB (nI r b w T) (cb T.length))++[.int (((r,b,w,PL,T).2.2.2.2.map V.int).length:Int)])))] ⋯:Sm W (n+109) cD (eR 0) (oV (r,b,w,PL,T) []) .next (oV (r,b,w,PL,T) [(n! "places",.list ((DB (nI r b w T) (cb T.length))++[.int (((r,b,w,PL,T).2.2.2.2.map V.int).length:Int)]))]))
 rw[jC,adR hn] at e1
 refine aaT hz (λe he=>acg hr gZ hT hl wA eD (hm e he)) (ct hC (by decide)) (ct hF (by decide)) xd uC hn hl rfl hW (eD T (λe=>absurd hn (by rw[e];decide)) hT) e1 (λj=>L2 hr gZ wA hT Ro) (λj=>TM hw hT (ct hl (by decide))) (λj=>?_) λj=>?_
 ·rw[<-UY]
  exact UJ hw hT (ct hl (by decide)) (bq (ko hT).2.1 (d9 (zO hl (by decide)) (by decide)))
 ·have:=SO (W:=W) (n:=j) (ct hl (by decide)) (eT (tV r b w T) (y3 T) (jr (ef r b w T))) (ct hC (by decide)) (ab1 λe he=>
   have h:=hm e he
   ⟨h.1,gO (fy h.2.1) h.2.2,gO h.1 (fy h.2.1),h.2.2,ct (EK (λc hc=>hT c (Bn hc)) (bq ET hl)) (by decide)⟩)
  rwa [Uu (λe=>rfl) (gz 0) (gz 0) uC,hW,Nu,gk] at this
end
end
noncomputable def eQ(d wd co:V)(h:Nat):M:=.inst 267 [n! "data",n! "word",n! "composer",n! "held"] [d,wd,co,.cell h]
noncomputable def pu(o:Nat)(c:V)(F:Sl)(m:List M):S:={vars:=[(n! "self",.val (.cell o)),(n! "code",.val c),(n! "found",F)],mem:=m}
noncomputable def dZ:Cx:=eK PG 278 GP
noncomputable def oK(i:Nat):Stmt:=st i GP.body
noncomputable def fi(i:Nat):Stmt:=st i (ba (oK 3))
noncomputable def iQ(i:Nat):Stmt:=st i (ba (fi 0))
noncomputable def zH(X Y:List V)(d wd:V)(tl:List (af×Sl))(m:List M):S:={vars:=(n! "one",.val (.list X))::(n! "other",.val (.list Y))::(n! "data",.val d)::(n! "word",.val wd)::tl,mem:=m}
noncomputable def fM(X Y:List V)(d wd co:V)(R Q:List V)(p q:Int)(tl:List (af×Sl))(m:List M):S:=zH X Y d wd ((n! "composer",.val co)::(n! "sides",.list [.cell 0,.cell 2])::(n! "ready",.list [.list R,.list Q])::(n! "places",.list [.int p,.int q])::(n! "texts",.list [.list X,.list Y])::tl) m
noncomputable def eqT(v:V)(tl:List (af×Sl)):List (af×Sl):=(n! "side",.val v)::tl
theorem Pr{W:Ws PG}{n:Nat}{s:S}:Ts W (n+108) dZ (dx (oK 3)) s J s:=fj [] ⋯
theorem agy{W:Ws PG}{n:Nat}{s s':S}(h:iS W (n+107) dZ (.items ah [.int 0,.int 1]) (cE (fi 0)) (ba (fi 0)) s .next s'):Sm W (n+108) dZ (fi 0) s .next s':=aL [eV 2080080503 h] ⋯
theorem O2{W:Ws PG}{n:Nat}{X Y R Q:List V}{d wd co u v:V}{p q:Int}{tl:List (af×Sl)}{m:List M}:Bd W (n+107) dZ ah (cE (fi 0)) v (fM X Y d wd co R Q p q (eqT u tl) m) (fM X Y d wd co R Q p q (eqT v tl) m):=f7 [] ⋯
theorem Qk{W:Ws PG}{n:Nat}{s s':S}(h:iV W (n+106) dZ (dx (iQ 0)) (ba (iQ 0)) s .next s'):Sm W (n+107) dZ (iQ 0) s .next s':=aL [sw 2090120333 h] ⋯
theorem aeS{W:Ws PG}{n:Nat}{X Y Q F:List V}{d wd co:V}{p q c:Int}{tl:List (af×Sl)}{m' t:List M}{x y:M}{h1 h2:Nat}(h0:cC (.list X) (.int p)=U (.int c))(h:∀j,Cv W (j+90) 250 [.cell 0,.int c] (fM X Y d wd co [] Q p q (eqT (.int 0) tl) (eQ d wd co h1::x::eQ d wd co h2::y::t)) (.list F) (fM X Y d wd co [] Q p q (eqT (.int 0) tl) m')):Ex W (n+106) dZ (ba (iQ 0)) (fM X Y d wd co [] Q p q (eqT (.int 0) tl) (eQ d wd co h1::x::eQ d wd co h2::y::t)) .next (fM X Y d wd co F Q (p+1) q (eqT (.int 0) tl) m'):=cV [sv 2100460710 h0,sy 2100300720 (m:=n+104) (h _)] ⋯
theorem aeM{W:Ws PG}{n:Nat}{X Y Q F:List V}{d wd co:V}{p q c:Int}{tl:List (af×Sl)}{m' t:List M}{x y:M}{h1 h2:Nat}(h0:cC (.list Y) (.int q)=U (.int c))(h:∀j,Cv W (j+90) 250 [.cell 2,.int c] (fM X Y d wd co Q [] p q (eqT (.int 1) tl) (eQ d wd co h1::x::eQ d wd co h2::y::t)) (.list F) (fM X Y d wd co Q [] p q (eqT (.int 1) tl) m')):Ex W (n+106) dZ (ba (iQ 0)) (fM X Y d wd co Q [] p q (eqT (.int 1) tl) (eQ d wd co h1::x::eQ d wd co h2::y::t)) .next (fM X Y d wd co Q F p (q+1) (eqT (.int 1) tl) m'):=cV [sv 2100460710 h0,sy 2100300720 (m:=n+104) (h _)] ⋯
theorem aeu{W:Ws PG}{n:Nat}{X Y Q F:List V}{d wd co:V}{p q:Int}{tl:List (af×Sl)}{m' t:List M}{x y:M}{h1 h2:Nat}(h:∀j,Cv W (j+70) 264 [.cell 0] (fM X Y d wd co [] Q p q (eqT (.int 0) tl) (eQ d wd co h1::x::eQ d wd co h2::y::t)) (.list F) (fM X Y d wd co [] Q p q (eqT (.int 0) tl) m')):Ex W (n+107) dZ [iQ 1] (fM X Y d wd co [] Q p q (eqT (.int 0) tl) (eQ d wd co h1::x::eQ d wd co h2::y::t)) .next (fM X Y d wd co F Q p q (eqT (.int 0) tl) m'):=cV [sy 2130300500 (m:=n+104) (h _)] ⋯
theorem afk{W:Ws PG}{n:Nat}{X Y Q F:List V}{d wd co:V}{p q:Int}{tl:List (af×Sl)}{m' t:List M}{x y:M}{h1 h2:Nat}(h:∀j,Cv W (j+70) 264 [.cell 2] (fM X Y d wd co Q [] p q (eqT (.int 1) tl) (eQ d wd co h1::x::eQ d wd co h2::y::t)) (.list F) (fM X Y d wd co Q [] p q (eqT (.int 1) tl) m')):Ex W (n+107) dZ [iQ 1] (fM X Y d wd co Q [] p q (eqT (.int 1) tl) (eQ d wd co h1::x::eQ d wd co h2::y::t)) .next (fM X Y d wd co Q F p q (eqT (.int 1) tl) m'):=cV [sy 2130300500 (m:=n+104) (h _)] ⋯
noncomputable def rZ(v:V):List (af×Sl):=[(n! "many",.val v)]
noncomputable def PJ(R Q:List V):Int:=if(Q.length:Int)<(R.length:Int) then(Q.length:Int) else(R.length:Int)
theorem ag3{W:Ws PG}{n:Nat}{X Y R Q:List V}{d wd co u:V}{p q k:Int}{b:Bool}{m:List M}(h:k=0)(e:bC .Eq (.list R) (.list Q)=U b):Sm W (n+108) dZ (fi 2) (fM X Y d wd co R Q p q (eqT u (rZ (.int k))) m) (.ret (.bool b)) (fM X Y d wd co R Q p q (eqT u (rZ (.int k))) m):=aL [sb 2150190201 (tY h),sb 2160310391 e] ⋯
theorem agW{W:Ws PG}{n:Nat}{X Y R Q:List V}{d wd co u:V}{p q k:Int}{m:List M}(h:¬k=0):Sm W (n+108) dZ (fi 2) (fM X Y d wd co R Q p q (eqT u (rZ (.int k))) m) .next (fM X Y d wd co R Q p q (eqT u (rZ (.int k))) m):=aL [sb 2150190201 (oQ h)] ⋯
section
noncomputable def iR{α:Type}(f:Nat->α)(i:Nat)(x:α)(j:Nat):α:=if j=i then x else f j
def kL(d wd co:V)(m:List M)(h:Nat->Nat)(H:Nat->List Int):Prop:=∀C:Prop,(∀(len:4<=m.length) (ob:∀i,i<2->m[2*i]?=U (eQ d wd co (h i))) (li:∀i,i<2->m[h i]?=U (.list ((H i).map .int))) (ne:∀i j,i<2->j<2->j≠i->h j≠h i),C)->C
section
variable {d wd co:V}{m:List M}{h:Nat->Nat}{H H':Nat->List Int}{i:Nat}{l:List Int}{v:V}
theorem yL{α:Type}{m:List α}{k:Nat}{x:α}(h:m[k]?=U x):k<m.length:=(g7.mp h).1
theorem BG{j:Nat}{xs:List V}{k k2:Nat}(h1:m[k]?=U (M.list xs))(h2:m[k2]?=U (eQ d wd co j)):k≠k2:=λe=>by rw[e,h2] at h1;exact ay (congrArg (Option.bind · M.gb) h1)
theorem kL.congr(q:kL d wd co m h H)(e:∀j,j<2->H j=H' j):kL d wd co m h H':=by
 exact q _ λlen ob li ne Q_ k_=>k_ len ob (λj hj=>e j hj▸li j hj) ne
theorem gD{α:Type}{f:Nat->α}{x:α}:iR f i x i=x:=if_pos rfl
theorem nh{α:Type}{f:Nat->α}{x:α}{j:Nat}(e:j≠i):iR f i x j=f j:=if_neg e
theorem kL.keep(q:kL d wd co m h H)(hi:i<2):kL d wd co (m.set (h i) (M.list (l.map .int))) h (iR H i l):=by
 refine q _ λlen ob li ne=>?_
 refine λQ_ k_=>k_ (by rw[sF];exact len) (λj hj=>?_) (λj hj=>?_) ne
 ·rw[sA (BG (li i hi) (ob j hj))];exact ob j hj
 ·by_cases e:j=i
  ·rw[e,gD,Si (yL (li i hi))]
  ·rw[nh e,sA (ne j i hj hi (mu e))];exact li j hj
theorem kL.fin(q:kL d wd co m h H)(hi:i<2):kL d wd co ((m.set (h i) (.gone v)++[M.list []]).set (2*i) (eQ d wd co m.length)) (iR h i m.length) (iR H i []):=by
 refine q _ λlen ob li ne=>?_
 have ls:(m.set (h i) (.gone v)).length=m.length:=sF
 have l2:∀j,j<2->2*j<m.length:=λj hj=>yL (ob j hj)
 refine λQ_ k_=>k_ (by rw[sF,aX,ls];exact sC len) (λj hj=>?_) (λj hj=>?_) (λj k hj hk e=>?_)
 ·by_cases e:j=i
  ·rw[e,gD,Si (by rw[aX,ls];exact xu (l2 i hi))]
  ·rw[nh e,sA (λq=>e (R3 (by decide) q.symm)),qw (ls▸l2 j hj),sA (BG (li i hi) (ob j hj))];exact ob j hj
 ·by_cases e:j=i
  ·rw[e,gD,gD,sA (hJ (l2 i hi)),mQ (eA ls),ls,qK];rfl
  ·rw[nh e,nh e,sA (mu (BG (li j hj) (ob i hi))),qw (ls▸yL (li j hj)),sA (ne j i hj hi (mu e))];exact li j hj
 ·by_cases e1:j=i
  ·rw[e1,gD,nh (λq=>e (q.trans e1.symm))];exact hJ (yL (li k hk))
  ·rw[nh e1]
   by_cases e2:k=i
   ·rw[e2,gD];exact mh (yL (li j hj))
   ·rw[nh e2];exact ne j k hj hk e
theorem shape(hl:4<=m.length):∃a x b y t,m=a::x::b::y::t:=by
 have z:∀{k j:Nat},k+1<=j->j=0->False:=λh e=>Jl _ (e▸h)
 cases m with
 |nil=>exact(z hl rfl).elim
 |cons a m=>cases m with
  |nil=>exact(z (qy hl) rfl).elim
  |cons x m=>cases m with
   |nil=>exact(z (qy (qy hl)) rfl).elim
   |cons b m=>cases m with
    |nil=>exact(z (qy (qy (qy hl))) rfl).elim
    |cons y t=>exact⟨a,x,b,y,t,rfl⟩
end
def jl(r:Int)(b w:Nat)(T O:List Int)(p:Nat)(R H:List Int):Prop:=∀C:Prop,(∀(hp:p<=T.length) (q:Nat) (hq:H++T.drop p=T.drop q) (ho:R++aD r b w (H++T.drop p)=O),C)->C
section
variable {W:Ws PG}{n:Nat}{cx:Cx}{r:Int}{b w p:Nat}{T O R H:List Int}
theorem N1(h:jl r b w T O p R H):∀c∈H++T.drop p,c∈T:=by
 exact h _ λhp q hq ho=>λc hc=>uH (hq▸hc)
theorem NW(h:jl r b w T O p R H){k:Bool}:(aM k H).length<=(aM k T).length:=by
 exact h _ λhp q hq ho=>A5 ((R5 H (T.drop p)).trans (hq▸Dq q T))
theorem aaR(h:jl r b w T O p R H):H.length<=T.length:=by
 exact h _ λhp q hq ho=>((R5 H (T.drop p)).trans (hq▸Dq q T)).length_le
theorem drop_cons{T:List Int}{p:Nat}(h:p<T.length):T.drop p=T.getD p 0::T.drop (p+1):=by
 rw[I9 h,j6,gi h];rfl
theorem Us{St:Nat->List Int->List M->S}{Mm:List Int->List M->Prop}{t:ai}{bd:List br}
  (t1:∀p R m,R≠[]->Ts W n cx t (St p R m) ah (St p R m)) (t2:∀p m,¬p<T.length->Ts W n cx t (St p [] m) ah (St p [] m)) (t3:∀p m,p<T.length->Ts W n cx t (St p [] m) J (St p [] m))
  (bk:∀p H m,p<T.length->Mm H m->(∀c∈H,c∈T)->H.length<=T.length->(H=[]\/cF r b w (T.getD p 0)=ah)->∃m',Mm (H++[T.getD p 0]) m'/\Ex W n cx bd (St p [] m) .next (St (p+1) [] m'))
  (bc:∀p H m,p<T.length->Mm H m->(∀c∈H,c∈T)->(aM (wk w) H).length<=(aM (wk w) T).length->H≠[]->cF r b w (T.getD p 0)=J->∃m',Mm [T.getD p 0] m'/\Ex W n cx bd (St p [] m) .next (St (p+1) (aD r b w H) m'))
  (hs:∀A c B,(∀d∈A++c::B,d∈T)->cF r b w c=J->aD r b w (A++c::B)=aD r b w A++aD r b w (c::B)) (k:Nat):
  ∀{p R H m},T.length<=p+k->jl r b w T O p R H->Mm H m->∃p' R' H' m',jl r b w T O p' R' H'/\Mm H' m'/\(R'=[]->p'=T.length)/\iV W n cx t bd (St p R m) .next (St p' R' m'):=by
 have stop:∀{p R H m},¬(R=[]/\p<T.length)->jl r b w T O p R H->Mm H m->∃p' R' H' m',jl r b w T O p' R' H'/\Mm H' m'/\(R'=[]->p'=T.length)/\iV W n cx t bd (St p R m) .next (St p' R' m'):=λ{p R H m} q s hm=>by
  refine⟨p,R,H,m,s,hm,λe=>?_,?_⟩
  ·exact s _ λhp _ _ _=>me hp (iD.mp λl=>q ⟨e,l⟩)
  ·by_cases e:R=[]
   ·subst e;exact vX (t2 p m λl=>q ⟨rfl,l⟩)
   ·exact vX (t1 p R m e)
 induction k with
 |zero=>exact λ{p R H m} l=>stop λq=>iD.mpr l q.2
 |succ k ih=>
  intro p R H m l s hm
  by_cases q:R=[]/\p<T.length
  ·have e:=q.1
   subst e
   have c1:=N1 s
   have c2:=NW s (k:=wk w)
   have c3:=aaR s
   have hd:=drop_cons q.2
   have l:T.length<=(p+1)+k:=by rw[qE];exact l
   have go:∀{R' H' m'},jl r b w T O (p+1) R' H'->Mm H' m'->Ex W n cx bd (St p [] m) .next (St (p+1) R' m')->∃p' R' H' m',jl r b w T O p' R' H'/\Mm H' m'/\(R'=[]->p'=T.length)/\iV W n cx t bd (St p [] m) .next (St p' R' m'):=λs h x=>(ih l s h).imp λp' h=>h.imp λR' h=>h.imp λH' h=>h.imp λm' h=>⟨h.1,h.2.1,h.2.2.1,yW (t3 p m q.2) x h.2.2.2⟩
   refine s _ λhp z hq ho=>?_
   rw[gk,hd] at ho
   by_cases cut:H≠[]/\cF r b w (T.getD p 0)=J
   ·exact(bc p H m q.2 hm (λc h=>c1 c (bp _ h)) c2 cut.1 cut.2).elim λm' h=>go (λQ_ k_=>k_ q.2 p hd.symm ((hs H _ _ (hd▸c1) cut.2).symm.trans ho)) h.1 h.2
   ·refine(bk p H m q.2 hm (λc h=>c1 c (bp _ h)) c3 ?_).elim λm' h=>go (λQ_ k_=>k_ q.2 z ?_ ?_) h.1 h.2
    ·by_cases e:H=[]
     ·exact .inl e
     ·exact .inr (xt.mpr λs=>cut ⟨e,s⟩)
    ·rw[aN,<-hq,hd];rfl
    ·rw[gk,aN];exact ho
  ·exact stop q s hm
end
end
section
section
variable {W:Ws PG}{n b w i:Nat}{r c:Int}{m:List M}{h:Nat->Nat}{H:Nat->List Int}{k:Nat}{l:List Int}{v:List (af×Sl)}{xs:List V}
theorem two{P:Nat->Prop}(h0:P 0)(h1:P 1)(hi:i<2):P i:=by
 induction i with
 |zero=>exact h0
 |succ i=>induction i with
  |zero=>exact h1
  |succ i=>exact absurd hi (iD.mpr (xF 2 i))
theorem U0(l:List Int):tL (deep 19) (l.map .int) m=U (l.map .int,m):=by
 induction l with
 |nil=>rfl
 |cons a l ih=>
  show((deep 19 (.int a) m).bind λp=>(tL (deep 19) (l.map .int) p.2).map λq=>(p.1::q.1,q.2))=_
  rw[show deep 19 (.int a) m=U (.int a,m) from rfl,Option.bind_some,ih];rfl
theorem Vn(e:m[k]?=U (.list (l.map .int))):vV (.cell k) {vars:=v,mem:=m}=U (L l,{vars:=v,mem:=m.set k (.gone (L l))}):=by
 have d:deep 20 (.cell k) m=U (L l,m.set k (.gone (L l))):=by
  show((m[k]?).bind λc=>c.ou.elim (c.kids.bind λxs=>(tL (deep 19) xs m).bind λp=>(p.2[k]?).bind λc1=>if c1.tag=c.tag then U (c.with p.1,p.2.set k (.gone (c.with p.1))) else aj) λu=>U (u,m))=_
  rw[e]
  show(tL (deep 19) (l.map .int) m).bind _=_
  rw[U0]
  show((m[k]?).bind _)=_
  rw[e];rfl
 show((m[k]?).bind λc=>if c.tag=0 then(deep 20 (.cell k) m).map λp=>(p.1,({vars:=v,mem:=p.2}:S)) else U (c.ou.getD (.cell k),({vars:=v,mem:=m}:S)))=_
 rw[e,d];rfl
theorem Pa(e:m[k]?=U (.list xs)):U (BB {vars:=v,mem:=m} (.val (.cell k)))=U false:=congrArg (λo=>U ((Ax M.v o).bind V.vH).isSome) e
abbrev MF(r:Int)(b w:Nat):=kL (dat r b) (.str (bB w)) (cW w b)
noncomputable abbrev oS(r:Int)(b w h:Nat):M:=eQ (dat r b) (.str (bB w)) (cW w b) h
inductive ux(A A':M):Nat->List M->List M->Prop
 |a (x y B t x' y' B' t'):ux A A' 0 (A::x::B::y::t) (A'::x'::B'::y'::t')
 |b (x y B t x' y' B' t'):ux A A' 2 (B::x::A::y::t) (B'::x'::A'::y'::t')
theorem IJ{A A':M}{m1:List M}(hi:i<2)(l:4<=m.length)(l1:4<=m1.length)(e:m[2*i]?=U A)(e1:m1[2*i]?=U A'):ux A A' (2*i) m m1:=by
 refine(shape l).elim λa q=>q.elim λx q=>q.elim λc q=>q.elim λy q=>q.elim λt q=>(shape l1).elim λa' q'=>q'.elim λx' q'=>q'.elim λc' q'=>q'.elim λy' q'=>q'.elim λt' q'=>?_
 subst q;subst q'
 revert e e1
 exact two (P:=λi=>(a::x::c::y::t)[2*i]?=U A->(a'::x'::c'::y'::t')[2*i]?=U A'->ux A A' (2*i) (a::x::c::y::t) (a'::x'::c'::y'::t')) (λe e1=>aA e▸aA e1▸.a ..) (λe e1=>aA e▸aA e1▸.b ..) hi
theorem MF.shape(q:MF r b w m h H):∃x y t,m=oS r b w (h 0)::x::oS r b w (h 1)::y::t:=
 q _ λlen ob li ne=>(Mine.shape len).elim λa e=>e.elim λx e=>e.elim λc e=>e.elim λy e=>e.elim λt e=>⟨x,y,t,by
  have h0:=ob 0 (by decide)
  have h1:=ob 1 (by decide)
  rw[e] at h0 h1
  rw[e,aA h0,aA h1]⟩
theorem ade{o:Nat}{A G:List Int}{co wd:V}{m1:List M}(s:ux (eQ (dat r b) (.str (bB w)) co k) (eQ (dat r b) (.str (bB w)) co k) o m m1)(hc:mE b co)(f6:∀j,Ca W (j+60) 188 [L A,dat r b,.str (bB w),co] [] (L G) [])(hp:vV (.cell k) {vars:=[(n! "self",.val (.cell o))],mem:=m}=U (L A,{vars:=[(n! "self",.val (.cell o))],mem:=m1})):
  Ca W (n+70) 264 [.cell o] m (L G) ((m1++[M.list []]).set o (eQ (dat r b) (.str (bB w)) co m1.length)):=by
 have fc:=hc.free
 induction s<;>induction hc<;>exact bU [sx 2000240335 hp,sc 2000160710 (m:=n+67) (f6 _) (ak (aR _) (ak aZ (ak rfl (ak fc rfl)))) (aR _)] ⋯
theorem finish_ok(hw:w<4)(q:MF r b w m h H)(hi:i<2)(hA:∀c∈H i,c∈aB)(hx:(aM (wk w) (H i)).length<64):Ca W (n+70) 264 [.cell (2*i)] m (L (aD r b w (H i))) ((m.set (h i) (.gone (L (H i)))++[M.list []]).set (2*i) (oS r b w m.length)):=by
 have hl:(m.set (h i) (.gone (L (H i)))).length=m.length:=sF
 rw[<-hl]
 refine q _ λlen ob li j=>ade (wd:=.none) (IJ hi len (hl▸len) (ob i hi) ((sA (BG (li i hi) (ob i hi))).trans (ob i hi))) oh (λj=>xP hw (H i) hA hx) (Vn (li i hi))
section
variable {A F:List Int}{a:Int}{x y x' y':M}{t t':List M}{k k2 k3:Nat}
theorem M1{o:Nat}{u:V}{f:Sl}(e:m[k]?=U (M.list xs)):S.peek (pu o u f m) (.val (.cell k))=U (.list xs):=congrArg (Ax M.v) e
theorem N6(e:m[k]?=U (M.list xs)):(m[k]?).bind M.gb=U xs:=congrArg (Option.bind · M.gb) e
theorem acd{l:List Int}(h:l.length<1000):(l.map V.int).length<cG:=nk (by rw[aO];exact h)
theorem abV{o:Nat}{co:V}{B:List Int}{m2:List M}(s:ux (eQ (dat r b) (.str (bB w)) co k) (eQ (dat r b) (.str (bB w)) co k) o m m2)(hc:mE b co)(f5:B≠[]->∀j,Ca W (j+60) 205 [.int c,dat r b,.str (bB w),co] [] (.bool ah) [])(hl:B.length<1000)(e:m[k]?=U (M.list (B.map .int))):
  Ca W (n+90) 250 [.cell o,.int c] m (.list []) (m.set k (M.list ((B++[c]).map .int))):=by
 have fc:=hc.free
 have h0:=M1 (o:=o) (u:=.int c) (f:=.list []) e
 have h1:U (BB (pu o (.int c) (.list []) m) (.val (.cell k)))=U false:=Pa e
 have h2:=N6 e
 have h3:=acd hl
 rw[bZ]
 clear e
 cases B with
 |nil=>induction s<;>exact bU [sv 1910110205 h0,sb 1930080306 h1,sz 1930080305 h2,sz 1930080305 h2] ⋯
 |cons a B=>
  have f5:=f5 (uO a B)
  induction s<;>induction hc<;>exact bU [sv 1910110205 h0,sc 1910250830 (m:=n+85) (f5 _) (ak rfl (ak aZ (ak rfl (ak fc rfl)))) rfl,sb 1930080306 h1,sz 1930080305 h2,sz 1930080305 h2,sp 1930080304 h3] ⋯
theorem acM{o:Nat}{co:V}{m2:List M}(s:ux (eQ (dat r b) (.str (bB w)) co k) (eQ (dat r b) (.str (bB w)) co k3) o m m2)(hc:mE b co)(f5:∀j,Ca W (j+60) 205 [.int c,dat r b,.str (bB w),co] [] (.bool J) [])(e:m[k]?=U (M.list ((a::A).map .int)))(fF:∀j,Ca W (j+70) 264 [.cell o] m (L F) m2)(e2:m2[k3]?=U (M.list [])):
  Ca W (n+90) 250 [.cell o,.int c] m (L F) (m2.set k3 (M.list [.int c])):=by
 have fc:=hc.free
 have h0:=M1 (o:=o) (u:=.int c) (f:=.list []) e
 have h1:U (BB (pu o (.int c) (.list []) m2) (.val (.cell k3)))=U false:=Pa e2
 have h2:=N6 e2
 have f6:=ij (s:=pu o (.int c) (.list []) m) (fF (n+16))
 clear e e2 fF
 induction s<;>induction hc<;>exact bU [sv 1910110205 h0,sc 1910250830 (m:=n+85) (f5 _) (ak rfl (ak aZ (ak rfl (ak fc rfl)))) rfl,sy 1920200330 f6,sb 1930080306 h1,sz 1930080305 h2,sz 1930080305 h2] ⋯
end
theorem Yx(hw:w<4)(hc:c∈aB)(q:MF r b w m h H)(hi:i<2)(hl:(H i).length<1000)(hs:H i=[]\/cF r b w c=ah):Ca W (n+90) 250 [.cell (2*i),.int c] m (.list []) (m.set (h i) (M.list ((H i++[c]).map .int))):=by
 have f5:=λj=>uV (W:=W) (n:=j) (b:=b) (r:=r) hw hc
 exact q _ λlen ob li j=>abV (IJ hi len len (ob i hi) (ob i hi)) oh (λe=>hs.resolve_left e▸f5) hl (li i hi)
noncomputable def GU(r:Int)(b w:Nat)(m:List M)(k i:Nat)(A:List Int):List M:=(m.set k (.gone (L A))++[M.list []]).set (2*i) (oS r b w m.length)
theorem ZM(hw:w<4)(hc:c∈aB)(q:MF r b w m h H)(hi:i<2)(hA:∀c∈H i,c∈aB)(hx:(aM (wk w) (H i)).length<64)(h0:H i≠[])(hs:cF r b w c=J):Ca W (n+90) 250 [.cell (2*i),.int c] m (L (aD r b w (H i))) ((GU r b w m (h i) i (H i)).set m.length (M.list [.int c])):=by
 have q2:MF r b w (GU r b w m (h i) i (H i)) (iR h i m.length) (iR H i []):=kL.fin q hi
 have f5:=λj=>uV (W:=W) (n:=j) (b:=b) (r:=r) hw hc
 rw[hs] at f5
 have fF:∀j,Ca W (j+70) 264 [.cell (2*i)] m (L (aD r b w (H i))) (GU r b w m (h i) i (H i)):=λj=>finish_ok hw q hi hA hx
 refine q _ λlen ob li j=>q2 _ λCk ahg li2 j=>?_
 have e:=li i hi
 have e2:=li2 i hi
 have o2:=ahg i hi
 rw[gD] at e2 o2
 rw[gD] at e2
 cases hH:H i with
 |nil=>exact absurd hH h0
 |cons a A=>
  rw[hH] at e
  rw[<-hH]
  exact acM (IJ hi len Ck (ob i hi) o2) oh f5 e fF e2
end
end
section
structure Gd(W:Ws PG)(n:Nat)(r:Int)(b w i:Nat)(T:List Int)(St:List V->Int->List M->S):Prop where
 rr:∀a R p m,Ts W (n+106) dZ (dx (iQ 0)) (St (a::R) p m) ah (St (a::R) p m)
 t:∀p m,p<((T.map V.int).length:Int)->Ts W (n+106) dZ (dx (iQ 0)) (St [] p m) J (St [] p m)
 f:∀p m,¬p<((T.map V.int).length:Int)->Ts W (n+106) dZ (dx (iQ 0)) (St [] p m) ah (St [] p m)
 x:∀{F p c m m' h H},MF r b w m h H->cC (L T) (.int p)=U (.int c)->(∀j,Ca W (j+90) 250 [.cell (2*i),.int c] m (.list F) m')->Ex W (n+106) dZ (ba (iQ 0)) (St [] p m) .next (St F (p+1) m')
 y:∀a R p m,Ex W (n+107) dZ [iQ 1] (St (a::R) p m) .next (St (a::R) p m)
 z:∀{F p m m' h H},MF r b w m h H->(∀j,Ca W (j+70) 264 [.cell (2*i)] m (.list F) m')->Ex W (n+107) dZ [iQ 1] (St [] p m) .next (St F p m')
section
variable {W:Ws PG}{n b w i:Nat}{r:Int}{T O X Y:List Int}{Q:List V}{q:Int}{tl:List (af×Sl)}{m:List M}{h:Nat->Nat}{H:Nat->List Int}{R:List Int}{p:Nat}
noncomputable abbrev eqZ(r:Int)(b w:Nat)(X Y:List Int)(R Q:List V)(p q:Int)(tl:List (af×Sl))(m:List M):S:=fM (X.map .int) (Y.map .int) (dat r b) (.str (bB w)) (cW w b) R Q p q tl m
theorem adK:Gd W n r b w 0 X (λR p m=>eqZ r b w X Y R Q p q (eqT (.int 0) tl) m) where
 rr:=λa R p m=>fj [] ⋯
 t:=λp m h=>fj [sb 2090530691 (mI h)] ⋯
 f:=λp m h=>fj [sb 2090530691 (nB h)] ⋯
 x:=λq h0 k=>(MF.shape q).elim λx s=>s.elim λy s=>s.elim λt s=>by rw[s] at k ⊢;exact aeS h0 λj=>ij (k j)
 y:=λa R p m=>cV [] ⋯
 z:=λq k=>(MF.shape q).elim λx s=>s.elim λy s=>s.elim λt s=>by rw[s] at k ⊢;exact aeu λj=>ij (k j)
theorem adP:Gd W n r b w 1 Y (λR p m=>eqZ r b w X Y Q R q p (eqT (.int 1) tl) m) where
 rr:=λa R p m=>fj [] ⋯
 t:=λp m h=>fj [sb 2090530691 (mI h)] ⋯
 f:=λp m h=>fj [sb 2090530691 (nB h)] ⋯
 x:=λq h0 k=>(MF.shape q).elim λx s=>s.elim λy s=>s.elim λt s=>by rw[s] at k ⊢;exact aeM h0 λj=>ij (k j)
 y:=λa R p m=>cV [] ⋯
 z:=λq k=>(MF.shape q).elim λx s=>s.elim λy s=>s.elim λt s=>by rw[s] at k ⊢;exact afk λj=>ij (k j)
theorem AW{α:Type}{f:Nat->α}{x y:α}:∀j,iR (iR f i x) i y j=iR f i y j:=λj=>by
 by_cases e:j=i
 ·rw[e,gD,gD]
 ·rw[nh e,nh e,nh e]
theorem Eb:aD r b w []=[]:=by
 rw[aD];split<;>rfl
theorem MY{St:List V->Int->List M->S}(hw:w<4)(B:Gd W n r b w i T St)(hi:i<2)(hT:∀c∈T,c∈aB)(hl:T.length<900)(hx:(aM (wk w) T).length<64)
  (hs:∀A c B,(∀d∈A++c::B,d∈T)->cF r b w c=J->aD r b w (A++c::B)=aD r b w A++aD r b w (c::B)) (s:jl r b w T O p R (H i)) (q:MF r b w m h H):
  ∃(p':Nat) (R' A:List Int) (h':Nat->Nat) (m':List M),jl r b w T O p' R' A/\MF r b w m' h' (iR H i A)/\(R'=[]->O=[])/\Ex W (n+107) dZ [iQ 0,iQ 1] (St (R.map .int) p m) .next (St (R'.map .int) p' m'):=by
 have hm:((T.map V.int).length:Int)=T.length:=congrArg _ (aO ..)
 have q0:MF r b w m h (iR H i (H i)):=q.congr λj u=>by
  by_cases e:j=i
  ·rw[e,gD]
  ·rw[nh e]
 have at_:∀{p:Nat},p<T.length->T.getD p 0∈aB:=λh=>hT _ (getD_mem h)
 have lt:∀{p:Nat},(p:Int)<((T.map V.int).length:Int)↔p<T.length:=by rw[hm];exact hO
 refine(Us (St:=λp R m=>St (R.map .int) p m) (Mm:=λA m=>∃h,MF r b w m h (iR H i A)) (bd:=ba (iQ 0)) (λp R m e=>?_) (λp m e=>B.f p m λl=>e (lt.mp l)) (λp m e=>B.t p m (lt.mpr e)) (λp A m l k c1 c2 c3=>?_) (λp A m l k c1 c2 c3 c4=>?_) hs T.length (xF ..) s ⟨h,q0⟩).elim λp1 k=>k.elim λR1 k=>k.elim λA1 k=>k.elim λm1 k=>?_
 ·induction R with
  |nil=>exact absurd rfl e
  |cons a R=>exact B.rr _ _ p m
 ·exact k.elim λh k=>⟨_,⟨h,(k.keep hi).congr λj u=>AW j⟩,B.x k (mr l) λj=>by
   have:=Yx (W:=W) (n:=j) hw (at_ l) k hi (by rw[gD];exact bq c2 (ct hl (by decide))) (by rw[gD];exact c3)
   rwa [gD] at this⟩
 ·refine k.elim λh k=>?_
  have f:=λj=>ZM (W:=W) (n:=j) hw (at_ l) k hi (by rw[gD];exact λc hc=>hT c (c1 c hc)) (by rw[gD];exact bq c2 hx) (by rw[gD];exact c3) c4
  have g:MF r b w _ _ _:=kL.keep (kL.fin k hi (v:=L A)) hi (l:=[T.getD p 0])
  rw[gD] at g f
  exact⟨_,⟨_,g.congr λj u=>(AW j).trans (AW j)⟩,B.x k (mr l) f⟩
 ·refine k.2.1.elim λh1 q1=>?_
  have c1:=N1 k.1
  have c2:=NW k.1 (k:=wk w)
  induction R1 with
  |cons a R1=>exact⟨p1,a::R1,A1,h1,m1,k.1,q1,(λe=>nomatch e),aT (Qk k.2.2.2) (B.y _ _ _ _)⟩
  |nil=>
   have hp:=k.2.2.1 rfl
   have f:=λj=>finish_ok (W:=W) (n:=j) hw q1 hi (by rw[gD];exact λc hc=>hT c (c1 c (bp _ hc))) (by rw[gD];exact bq c2 hx)
   have g:MF r b w _ _ _:=kL.fin q1 hi (v:=L A1)
   rw[gD] at f
   have s:=k.1
   refine s _ λxd z hq ho=>?_
   have hd:T.drop p1=[]:=De (eA hp.symm)
   rw[hd,bx,gk] at ho
   exact⟨p1,aD r b w A1,[],_,_,λQ_ k_=>k_ xd p1 rfl (by rw[hd,bx,Eb,bx];exact ho),g.congr λj u=>AW j,λe=>ho.symm.trans e,aT (Qk k.2.2.2) (B.z q1 f)⟩
end
end
section
section
variable {W:Ws PG}{n b w:Nat}{r:Int}{X Y O O' R Q A B:List Int}{p q k:Nat}{tl iU:List (af×Sl)}{m:List M}{h:Nat->Nat}{H:Nat->List Int}
inductive Cc:List (af×Sl)->List (af×Sl)->Prop
 |z:Cc [] []
 |s (u:V) (tl:List (af×Sl)):Cc (eqT u tl) tl
theorem bdI:ba (fi 0)=[iQ 0,iQ 1]:=by kernel_rfl
inductive CE(r:Int)(b w:Nat)(X Y O O':List Int)(tl:List (af×Sl)):S->Prop
 |mk (p q:Nat) (R Q:List Int) (m:List M) (h:Nat->Nat) (H:Nat->List Int) (s0:jl r b w X O p R (H 0)) (s1:jl r b w Y O' q Q (H 1)) (q0:MF r b w m h H):CE r b w X Y O O' tl (eqZ r b w X Y (R.map .int) (Q.map .int) p q tl m)
inductive HL(r:Int)(b w:Nat)(X Y O O':List Int)(tl:List (af×Sl)):S->Prop
 |mk (p q:Nat) (R Q:List Int) (m:List M) (h:Nat->Nat) (H:Nat->List Int) (s0:jl r b w X O p R (H 0)) (s1:jl r b w Y O' q Q (H 1)) (q0:MF r b w m h H) (e0:R=[]->O=[]) (e1:Q=[]->O'=[]):HL r b w X Y O O' tl (eqZ r b w X Y (R.map .int) (Q.map .int) p q (eqT (.int 1) tl) m)
structure tX(r:Int)(b w:Nat)(T:List Int):Prop where
 c:∀c∈T,c∈aB
 l:T.length<900
 x:(aM (wk w) T).length<64
 s:∀A c B,(∀d∈A++c::B,d∈T)->cF r b w c=J->aD r b w (A++c::B)=aD r b w A++aD r b w (c::B)
theorem YG{s:S}(hw:w<4)(x:tX r b w X)(y:tX r b w Y)(ht:Cc tl iU)(i:CE r b w X Y O O' tl s):∃s',HL r b w X Y O O' iU s'/\Sm W (n+108) dZ (fi 0) s .next s':=by
 have bd:∀{v R Q p q m},Bd W (n+107) dZ ah (cE (fi 0)) v (eqZ r b w X Y R Q p q tl m) (eqZ r b w X Y R Q p q (eqT v iU) m):=by
  induction ht
  ·exact f7 [] ⋯
  ·exact O2
 induction i with
 |mk p q R Q m h H s0 s1 q0=>
  refine(MY (W:=W) (n:=n) hw (adK (Y:=Y) (Q:=Q.map .int) (q:=q) (tl:=iU)) (by decide) x.c x.l x.x x.s s0 q0).elim λp0 k=>k.elim λR0 k=>k.elim λA0 k=>k.elim λh0 k=>k.elim λm0 k=>?_
  refine(MY (W:=W) (n:=n) (H:=iR H 0 A0) hw (adP (X:=X) (Q:=R0.map .int) (q:=p0) (tl:=iU)) (by decide) y.c y.l y.x y.s s1 k.2.1).elim λp1 k1=>k1.elim λR1 k1=>k1.elim λA1 k1=>k1.elim λh1 k1=>k1.elim λm1 k1=>?_
  have z0:jl r b w X O p0 R0 (iR (iR H 0 A0) 1 A1 0):=k.1
  have z1:jl r b w Y O' p1 R1 (iR (iR H 0 A0) 1 A1 1):=k1.1
  refine⟨_,.mk p0 p1 R0 R1 m1 h1 _ z0 z1 k1.2.1 k.2.2.1 k1.2.2.1,agy (zj W (bdI▸λQ_ k_=>k_ _ _ _ bd k.2.2.2 λQ_ k_=>k_ _ _ _ O2 k1.2.2.2 ⟨rfl,rfl⟩))⟩
theorem acI(ho:R++A=O)(Iy:Q++B=O')(e0:R=[]->O=[])(e1:Q=[]->O'=[])(h:R=[]\/Q=[]):aJ (R=Q)=aJ (O=O'):=
 have f0:O=[]->R=[]:=λe=>(Sj.mp (ho.trans e)).1
 have f1:O'=[]->Q=[]:=λe=>(Sj.mp (Iy.trans e)).1
 decide_eq_decide.mpr ⟨λe=>(e0 (h.elim id λq=>e.trans q)).trans (e1 (h.elim (λq=>e.symm.trans q) id)).symm,λe=>h.elim (λq=>q.trans (f1 (e.symm.trans (e0 q))).symm) λq=>(f0 (e.trans (e1 q))).trans q.symm⟩
theorem abC(ho:R++A=O)(Iy:Q++B=O')(h0:k<=R.length)(h1:k<=Q.length):O=O'↔R.take k=Q.take k/\R.drop k++A=Q.drop k++B:=by
 have c0:R.take k++(R.drop k++A)=O:=by rw[<-aN,jm];exact ho
 have c1:Q.take k++(Q.drop k++B)=O':=by rw[<-aN,jm];exact Iy
 rw[<-c0,<-c1]
 exact⟨λe=>List.append_inj e (by rw[Je h0,Je h1]),λe=>by rw[e.1,e.2]⟩
theorem abq:PJ (R.map .int) (Q.map .int)=((min R.length Q.length:Nat):Int):=by
 rw[PJ,aO,aO]
 by_cases h:Q.length<R.length
 ·rw[if_pos (hO.mpr h),Dw (ee h)]
 ·rw[if_neg (λe=>h (hO.mp e)),xE (iD.mp h)]
inductive I0:List (af×Sl)->Prop
 |z:I0 []
 |s (v:V):I0 (rZ v)
theorem Ri:ba (oK 3)=[fi 0,fi 1,fi 2,fi 3,fi 4]:=by kernel_rfl
theorem YQ(hw:w<4)(x:tX r b w X)(y:tX r b w Y)(k:Nat):∀{O O' tl iU s},O.length<k->Cc tl iU->I0 iU->CE r b w X Y O O' tl s->∃s',iV W (n+108) dZ (dx (oK 3)) (ba (oK 3)) s (.ret (.bool (aJ (O=O')))) s':=by
 induction k with
 |zero=>exact λ{O O' tl iU s} h=>absurd h (Nat.not_lt_zero _)
 |succ k ih=>
  intro O O' tl iU s hk ht hn i
  refine(YG (W:=W) (n:=n) hw x y ht i).elim λs1 q=>?_
  have ret:∀{v s'},Ex W (n+108) dZ [fi 0,fi 1,fi 2,fi 3,fi 4] s (.ret v) s'->∃s',iV W (n+108) dZ (dx (oK 3)) (ba (oK 3)) s (.ret v) s':=λ{v s'} hx=>⟨s',1,.turn _ (.ret v) _ Pr (Ri▸hx) ⟨rfl,rfl⟩⟩
  revert q
  refine λq=>HL.casesOn (motive:=λs1 j=>Sm W (n+108) dZ (fi 0) s .next s1->_) q.1 (λp q R Q m h H s0 s1 q0 e0 e1 k0=>?_) q.2
  have km:Sm W (n+108) dZ (fi 1) (eqZ r b w X Y (R.map .int) (Q.map .int) p q (eqT (.int 1) iU) m) .next (eqZ r b w X Y (R.map .int) (Q.map .int) p q (eqT (.int 1) (rZ (.int ((min R.length Q.length:Nat):Int)))) m):=by
   rw[<-abq]
   induction hn
   ·exact aL [] ⋯
   ·exact aL [] ⋯
  have l0:=Dz R.length Q.length
  have l1:=sE R.length Q.length
  have go:=λ{fl s'} (h:Ex W (n+108) dZ [fi 2,fi 3,fi 4] _ fl s')=>aT k0 (aT km h)
  have hz:min R.length Q.length=0->R=[]\/Q=[]:=λe=>(Nat.min_eq_zero_iff.mp e).imp pg.mp pg.mp
  generalize min R.length Q.length=mm at*
  refine s0 _ λhp0 z0 hq0 IU=>?_
  refine s1 _ λHK z1 hq1 QR=>?_
  by_cases z:mm=0
  ·rw[<-acI IU QR e0 e1 (hz z)]
   exact ret (go (n9 (λe=>nomatch e) (ag3 (congrArg Nat.cast z) pB)))
  ·have c:=abC IU QR l0 l1
   have k2:=agW (W:=W) (n:=n) (X:=X.map .int) (Y:=Y.map .int) (d:=dat r b) (wd:=.str (bB w)) (co:=cW w b) (R:=R.map .int) (Q:=Q.map .int) (u:=.int 1) (p:=p) (q:=q) (m:=m) (λe=>z (DD e))
   have he:=pF (A:=R.take mm) (B:=Q.take mm)
   rw[show L (R.take mm)=.list (eZ (R.map .int) mm) from congrArg V.list (qZ l0).symm,show L (Q.take mm)=.list (eZ (Q.map .int) mm) from congrArg V.list (qZ l1).symm] at he
   by_cases e:R.take mm=Q.take mm
   ·rw[decide_eq_true e] at he
    have lt:(R.drop mm++aD r b w (H 0++X.drop p)).length<k:=by
     have:R.take mm++(R.drop mm++aD r b w (H 0++X.drop p))=O:=by rw[<-aN,jm];exact IU
     have:=congrArg qL this
     rw[aX,Je l0] at this
     lia
    refine(ih lt (.s (.int 1) _) (.s (.int mm)) (.mk p q (R.drop mm) (Q.drop mm) m h H (λQ_ k_=>k_ hp0 z0 hq0 rfl) (λQ_ k_=>k_ HK z1 hq1 rfl) q0)).imp λs' k3=>?_
    rw[show aJ (O=O')=_ from decide_eq_decide.mpr (c.trans (and_iff_right e))]
    have kk:=(cV [] ⋯:Ex W (n+108) dZ [fi 4] (fM (X.map .int) (Y.map .int) (dat r b) (.str (bB w)) (cW w b) (R.map .int) (Q.map .int) p q (eqT (.int 1) (rZ (.int mm))) m) .next (fM (X.map .int) (Y.map .int) (dat r b) (.str (bB w)) (cW w b) (eU (R.map .int) mm) (eU (Q.map .int) mm) p q (eqT (.int 1) (rZ (.int mm))) m))
    rw[nf l0,nf l1] at kk
    exact yW Pr (Ri▸go (aT k2 (aT ((aL [sb 2170300451 he] ⋯)) kk))) k3
   ·rw[decide_eq_false e] at he
    rw[decide_eq_false (λq=>e (c.mp q).1)]
    exact ret (go (aT k2 (n9 (λe=>nomatch e) ((OK [sb 2170300451 he] ⋯)))))
end
end
theorem SN{W:Ws PG}{n b w:Nat}{r:Int}{X Y:List Int}(hw:w<4)(x:tX r b w X)(y:tX r b w Y):∃m',Ca W (n+110) 278 [L X,L Y,dat r b,.str (bB w)] [] (.bool (aJ (aD r b w X=aD r b w Y))) m':=by
 have f1:=λj=>xm (W:=W) (n:=j) (b:=b) (r:=r) hw
 have f2:=λj=>zT (W:=W) (n:=j) (b:=b) (r:=r) hw
 have m0:MF r b w [oS r b w 1,.list [],oS r b w 3,.list []] (λi=>2*i+1) λu=>[]:=λQ_ k_=>k_ (aQ 4) (λi hi=>two (P:=λi=>[oS r b w 1,M.list [],oS r b w 3,M.list []][2*i]?=U (oS r b w (2*i+1))) rfl rfl hi) (λi hi=>two (P:=λi=>[oS r b w 1,M.list [],oS r b w 3,M.list []][2*i+1]?=U (M.list [])) rfl rfl hi) (λi j u u e q=>e (R3 (by decide) (Ak q)))
 have i0:CE r b w X Y (aD r b w X) (aD r b w Y) [] (eqZ r b w X Y [] [] 0 0 [] [oS r b w 1,.list [],oS r b w 3,.list []]):=.mk 0 0 [] [] _ _ _ (λQ_ k_=>k_ (eO _) 0 rfl rfl) (λQ_ k_=>k_ (eO _) 0 rfl rfl) m0
 refine(YQ (W:=W) (n:=n) hw x y _ (nT _) .z .z i0).elim λs' k=>⟨s'.mem,?_⟩
 have k:=(aL [sw 2070040503 k] ⋯:Sm W (n+109) dZ (oK 3) (eqZ r b w X Y [] [] 0 0 [] [oS r b w 1,M.list [],oS r b w 3,M.list []]) (.ret (V.bool (aJ (aD r b w X=aD r b w Y)))) s')
 have go:Sm W (n+109) dZ (oK 0) (zH (X.map .int) (Y.map .int) (dat r b) (.str (bB w)) [] []) .next (zH (X.map .int) (Y.map .int) (dat r b) (.str (bB w)) [(n! "composer",.val (cW w b))] [])/\Sm W (n+109) dZ (oK 1) (zH (X.map .int) (Y.map .int) (dat r b) (.str (bB w)) [(n! "composer",.val (cW w b))] []) .next (zH (X.map .int) (Y.map .int) (dat r b) (.str (bB w)) [(n! "composer",.val (cW w b)),(n! "sides",.list [.cell 0,.cell 2])] [oS r b w 1,.list [],oS r b w 3,.list []]):=by
  unfold oS
  cases z:wz w<;>rw[yz z] at f1 f2 ⊢
  ·exact⟨(aL [sc 2040150480 (m:=n+107) (f1 _) (ak aZ rfl) rfl] ⋯),(aL [sc 1860240610 (m:=n+103) (f2 _) (ak aZ rfl) rfl,sc 1860240610 (m:=n+103) (f2 _) (ak aZ rfl) rfl] ⋯)⟩
  ·exact⟨(aL [sc 2040150480 (m:=n+107) (f1 _) (ak aZ rfl) ia] ⋯),(aL [sc 1860240610 (m:=n+103) (f2 _) (ak aZ (ak rfl (ak ia rfl))) ia,sc 1860240610 (m:=n+103) (f2 _) (ak aZ (ak rfl (ak ia rfl))) ia] ⋯)⟩
 exact F4 rfl rfl (aT go.1 (aT go.2 (aT (aL [] ⋯) (n9 (λe=>nomatch e) k))))
noncomputable def fG:Cx:=eK PG 533 wb
noncomputable def bG(i:Nat):Stmt:=st i wb.body
noncomputable def lw(sr0:V)(d:List Int×Int)(tl:List (af×Sl)):S:={vars:=(n! "script",.val sr0)::(n! "deck",.val (.cell 1))::tl,mem:=jt d}
noncomputable def w7(sr0:V)(d:List Int×Int)(tl:List (af×Sl))(v:V):S:={vars:=(n! "script",.val sr0)::(n! "deck",.val (.cell 1))::tl,bX:=[.val v],mem:=jt d}
theorem ahf{W:Ws PG}{n:Nat}{T:List V}{d:List Int×Int}(fT:V.bI T=J)(h:∀j,Cv W (j+20) 463 [.list T] {vars:=[(n! "script",.val (.list T))]} (.cell 1) {vars:=[(n! "script",.val (.list T))],mem:=jt d}):Sm W (n+129) fG (bG 0) {vars:=[(n! "script",.val (.list T))]} .next (lw (.list T) d []):=aL [sy 4850110280 (m:=n+127) (h _)] ⋯
noncomputable def um(a b c:V)(tl:List (af×Sl)):List (af×Sl):=(n! "ranks",.val a)::(n! "goals",.val b)::(n! "barred",.val c)::tl
theorem ahT{W:Ws PG}{n:Nat}{sr0:V}{a b c:V}{d d':List Int×Int}(h:∀j,Cv W (j+40) 482 [.cell 1] (lw sr0 d []) (.tup [a,b,c]) (lw sr0 d' [])):Sm W (n+129) fG (bG 1) (lw sr0 d []) .next (lw sr0 d' (um a b c [])):=aL [sy 4860270420 (m:=n+127) (h _)] ⋯
noncomputable def nP(r:Int)(b:Nat)(B:List V)(wd:af)(tl:List (af×Sl)):List (af×Sl):=um (.dict rK (rV r)) (.dict gK gV) (.list B) ((n! "word",.val (.str wd))::(n! "data",.val (dat r b))::tl)
theorem ahn{W:Ws PG}{n b:Nat}{r x:Int}{sr0:V}{B:List V}{wd:af}{d d':List Int×Int}(h:∀j,Cv W (j+60) 489 [.dict rK (rV r),.dict gK gV,.list B] (lw sr0 d (um (.dict rK (rV r)) (.dict gK gV) (.list B) [])) (dat r b) (lw sr0 d (um (.dict rK (rV r)) (.dict gK gV) (.list B) [])))(h2:∀j,Cv W (j+20) 470 [.cell 1,.int 4] (w7 sr0 d (um (.dict rK (rV r)) (.dict gK gV) (.list B) []) (dat r b)) (.int x) (w7 sr0 d' (um (.dict rK (rV r)) (.dict gK gV) (.list B) []) (dat r b)))(e:cC (.tup [.str (n! "nfd"),.str (n! "nfc"),.str (n! "nfkd"),.str (n! "nfkc")]) (.int x)=U (.str wd)):Sm W (n+129) fG (bG 2) (lw sr0 d (um (.dict rK (rV r)) (.dict gK gV) (.list B) [])) .next (lw sr0 d' (nP r b B wd [])):=aL [sy 4870180490 (m:=n+127) (h _),sy 4870821000 (m:=n+126) (h2 _),sv 4870511010 e] ⋯
noncomputable def wD(r:Int)(k:Bool)(PL:List ((Int×Int)×Int)):Sl:=.dict [.str (n! "ranks"),.str (n! "goals"),.str (n! "is_compat"),.str (n! "pairs")] [.dict rK (rV r),.dict gK gV,.bool k,pD PL]
noncomputable def zu(r:Int)(k:Bool):Sl:=.dict [.str (n! "ranks"),.str (n! "goals"),.str (n! "is_compat")] [.dict rK (rV r),.dict gK gV,.bool k]
theorem ahS{W:Ws PG}{n b:Nat}{r:Int}{k:Bool}{sr0:V}{B:List V}{wd:af}{d:List Int×Int}(e:bC .In (.str wd) (.tup [.str (n! "nfkd"),.str (n! "nfkc")])=U k):Sm W (n+129) fG (bG 3) (lw sr0 d (nP r b B wd [])) .next (lw sr0 d (nP r b B wd [(n! "world",zu r k)])):=aL [sb 4880660821 e] ⋯
theorem afJ{W:Ws PG}{n b:Nat}{r:Int}{k:Bool}{sr0:V}{B:List V}{wd:af}{d:List Int×Int}(e:bC .In (.str wd) (.tup [.str (n! "nfc"),.str (n! "nfkc")])=U J)(h:∀j,Cv W (j+60) 501 [.dict rK (rV r),.dict gK gV,.list B] (lw sr0 d (nP r b B wd [(n! "world",zu r k)])) (pairD b) (lw sr0 d (nP r b B wd [(n! "world",zu r k)]))):Sm W (n+129) fG (bG 4) (lw sr0 d (nP r b B wd [(n! "world",zu r k)])) .next (lw sr0 d (nP r b B wd [(n! "world",wD r k (dQ b))])):=aL [sb 4890650801 e,sy 4890210530 (m:=n+126) (h _)] ⋯
noncomputable abbrev jA:=Int×Nat×Bool×List ((Int×Int)×Int)×List V×af
noncomputable def f9(p:jA)(tl:List (af×Sl)):List (af×Sl):=nP p.1 p.2.1 p.2.2.2.2.1 p.2.2.2.2.2 ((n! "world",wD p.1 p.2.2.1 p.2.2.2.1)::tl)
noncomputable def ud(p:jA)(tl:List (af×Sl)):List (af×Sl):=nP p.1 p.2.1 p.2.2.2.2.1 p.2.2.2.2.2 ((n! "world",.val (bA p.1 p.2.2.1 p.2.2.2.1))::tl)
theorem agw{W:Ws PG}{n:Nat}{p:jA}{y:Int}{T:List Int}{sr0:V}{d d1 d2:List Int×Int}(h:∀j,Cv W (j+20) 470 [.cell 1,.int 4] (lw sr0 d (f9 p [])) (.int y) (lw sr0 d1 (f9 p [])))(h2:∀j,Cv W (j+40) 475 [.cell 1,.int 1,.int 7] (w7 sr0 d1 (f9 p []) (.int y)) (L T) (w7 sr0 d2 (f9 p []) (.int y))):Sm W (n+129) fG (bG 5) (lw sr0 d (f9 p [])) .next (lw sr0 d2 (f9 p [(n! "text",.val (L T)),(n! "way",.val (.int y))])):=aL [sy 4900170350 (m:=n+127) (h _),sy 4900370580 (m:=n+127) (h2 _)] ⋯
noncomputable def gc(T:List Int)(y:Int)(tl:List (af×Sl)):List (af×Sl):=(n! "text",.val (L T))::(n! "way",.val (.int y))::tl
theorem af6{W:Ws PG}{n:Nat}{p:jA}{y a:Int}{T N:List Int}{sr0:V}{d d1 d2:List Int×Int}(h:∀j,Cv W (j+40) 475 [.cell 1,.int 0,.int 3] (lw sr0 d (f9 p (gc T y []))) (L N) (lw sr0 d1 (f9 p (gc T y []))))(h2:∀j,Cv W (j+20) 470 [.cell 1,.int 8] (w7 sr0 d1 (f9 p (gc T y [])) (L N)) (.int a) (w7 sr0 d2 (f9 p (gc T y [])) (L N))):Sm W (n+129) fG (bG 6) (lw sr0 d (f9 p (gc T y []))) .next (lw sr0 d2 (f9 p (gc T y [(n! "at",.val (.int a)),(n! "more",.val (L N))]))):=aL [sy 4910160370 (m:=n+127) (h _),sy 4910390570 (m:=n+127) (h2 _)] ⋯
noncomputable def iT(a:V)(N:List Int)(tl:List (af×Sl)):List (af×Sl):=(n! "at",.val a)::(n! "more",.val (L N))::tl
theorem afH{W:Ws PG}{n:Nat}{p:jA}{y:Int}{T N:List Int}{a sr0:V}{d:List Int×Int}(e:y=0)(f:∀j,Ca W (j+110) 516 [bA p.1 p.2.2.1 p.2.2.2.1,dat p.1 p.2.1,.str p.2.2.2.2.2,L T] [] (.bool J) []):Sm W (n+129) fG (bG 7) (lw sr0 d (f9 p (gc T y (iT a N [])))) (.ret (.bool J)) (lw sr0 d (ud p (gc T y (iT a N [])))):=aL [sb 4920140151 (tY e),sc 4930150600 (m:=n+126) (f _) (ak ((hU)) (ak ((aZ)) (ak rfl (ak ((aR T)) rfl)))) rfl] ⋯
theorem F7{W:Ws PG}{n:Nat}{p:jA}{y:Int}{T N:List Int}{a sr0:V}{d:List Int×Int}(e:¬y=0):Sm W (n+129) fG (bG 7) (lw sr0 d (f9 p (gc T y (iT a N [])))) .next (lw sr0 d (f9 p (gc T y (iT a N [])))):=aL [sb 4920140151 (oQ e)] ⋯
theorem aeG{W:Ws PG}{n:Nat}{p:jA}{y:Int}{T N:List Int}{a sr0:V}{d:List Int×Int}(e:y=1)(f:∀j,Ca W (j+90) 521 [bA p.1 p.2.2.1 p.2.2.2.1,dat p.1 p.2.1,.str p.2.2.2.2.2,L T] [] (.bool J) []):Sm W (n+129) fG (bG 8) (lw sr0 d (f9 p (gc T y (iT a N [])))) (.ret (.bool J)) (lw sr0 d (ud p (gc T y (iT a N [])))):=aL [sb 4940140151 (tY e),sc 4950150560 (m:=n+126) (f _) (ak ((hU)) (ak ((aZ)) (ak rfl (ak ((aR T)) rfl)))) rfl] ⋯
theorem Pf{W:Ws PG}{n:Nat}{p:jA}{y:Int}{T N:List Int}{a sr0:V}{d:List Int×Int}(e:¬y=1):Sm W (n+129) fG (bG 8) (lw sr0 d (f9 p (gc T y (iT a N [])))) .next (lw sr0 d (f9 p (gc T y (iT a N [])))):=aL [sb 4940140151 (oQ e)] ⋯
theorem afF{W:Ws PG}{n:Nat}{p:jA}{y mo:Int}{T N:List Int}{a sr0:V}{d d2:List Int×Int}(e:y=2)(h:∀j,Cv W (j+20) 470 [.cell 1,.int 4] (lw sr0 d (ud p (gc T y (iT a N [])))) (.int mo) (lw sr0 d2 (ud p (gc T y (iT a N [])))))(f:∀j,Ca W (j+90) 526 [bA p.1 p.2.2.1 p.2.2.2.1,dat p.1 p.2.1,L T,.int (1+mo)] [] (.bool J) []):Sm W (n+129) fG (bG 9) (lw sr0 d (f9 p (gc T y (iT a N [])))) (.ret (.bool J)) (lw sr0 d2 (ud p (gc T y (iT a N [])))):=aL [sb 4960140151 (tY e),sy 4970540720 (m:=n+124) (h _),sc 4970150730 (m:=n+126) (f _) (ak ((hU)) (ak ((aZ)) (ak ((aR T)) rfl))) rfl] ⋯
theorem afE{W:Ws PG}{n:Nat}{p:jA}{y:Int}{T N F:List Int}{a sr0:V}{d:List Int×Int}(f:∀j,Ca W (j+60) 506 [bA p.1 p.2.2.1 p.2.2.2.1,L T] [] (L F) []):Sm W (n+129) fG (bG 10) (lw sr0 d (f9 p (gc T y (iT a N [])))) .next (lw sr0 d (ud p (gc T y (iT a N [(n! "whole",.val (L F))])))):=aL [sc 4980120340 (m:=n+127) (f _) (ak ((hU)) (ak ((aR T)) rfl)) ((aR F))] ⋯
noncomputable def lw7(F:List Int)(tl:List (af×Sl)):List (af×Sl):=(n! "whole",.val (L F))::tl
noncomputable def jz(p:jA)(d:List Int×Int)(sr0:V)(T N F:List Int)(y a:Int)(tl:List (af×Sl)):S:=lw sr0 d (ud p (gc T y (iT (.int a) N (lw7 F tl))))
noncomputable def zt(Z:List Int)(tl:List (af×Sl)):List (af×Sl):=(n! "told",.val (L Z))::tl
theorem afm{W:Ws PG}{n:Nat}{p:jA}{y a:Int}{T N F Z:List Int}{sr0:V}{d:List Int×Int}(h1:fg .Add (.list (eZ (F.map V.int) a)) (L N)=U (.list (eZ (F.map V.int) a++N.map .int)))(h2:fg .Add (.list (eZ (F.map V.int) a++N.map .int)) (.list (eU (F.map V.int) a))=U (.list (eZ (F.map V.int) a++N.map .int++eU (F.map V.int) a)))(fA:V.bI (eZ (F.map V.int) a++N.map .int++eU (F.map V.int) a)=J)(f:∀j,Ca W (j+60) 506 [bA p.1 p.2.2.1 p.2.2.2.1,.list (eZ (F.map V.int) a++N.map .int++eU (F.map V.int) a)] [] (L Z) [])(e:bC .NotEq (L Z) (L Z)=U ah):Sm W (n+129) fG (bG 13) (jz p d sr0 T N F y a (zt Z [])) .next (jz p d sr0 T N F y a (zt Z [])):=aL [sr 5010380550 h1,sr 5010380680 h2,sc 5010210690 (m:=n+126) (f _) (ak ((hU)) (ak fA rfl)) ((aR Z)),sb 5010210691 e] ⋯
theorem ae3{W:Ws PG}{n:Nat}{p:jA}{y a:Int}{T N F Z A:List Int}{sr0:V}{d:List Int×Int}(h1:fg .Add (.list (eZ (T.map V.int) (-1))) (L N)=U (.list (eZ (T.map V.int) (-1)++N.map .int)))(h2:fg .Add (L T) (.list [.int 97])=U (.list (T.map .int++[.int 97])))(f:∀j,Ca W (j+40) 496 [.dict rK (rV p.1),.dict gK gV,L T,.bool p.2.2.1] [] (L A) []):Sm W (n+129) fG (bG 14) (jz p d sr0 T N F y a (zt Z [])) .next (jz p d sr0 T N F y a (zt Z [(n! "others",.list [L F,L A,.list (eZ (T.map V.int) (-1)++N.map .int),.list (T.map V.int).reverse,.list (T.map .int++[.int 97])])])):=aL [sc 5030210710 (m:=n+126) (f _) (ak rfl (ak rfl (ak ((aR T)) rfl))) ((aR A)),sr 5030730890 h1,sr 5031031140 h2] ⋯
noncomputable def rW(Z:List Int)(o:List V)(tl:List (af×Sl)):List (af×Sl):=zt Z ((n! "others",.list o)::tl)
theorem aef{W:Ws PG}{n:Nat}{p:jA}{y a x:Int}{T N F Z O:List Int}{o:List V}{sr0:V}{d d2:List Int×Int}(h:∀j,Cv W (j+20) 470 [.cell 1,.int 5] (jz p d sr0 T N F y a (rW Z o [])) (.int x) (jz p d2 sr0 T N F y a (rW Z o [])))(e:cC (.list o) (.int x)=U (L O)):Sm W (n+129) fG (bG 15) (jz p d sr0 T N F y a (rW Z o [])) .next (jz p d2 sr0 T N F y a (rW Z o [(n! "other",.val (L O))])):=aL [sy 5040190370 (m:=n+126) (h _),sv 5040120380 e] ⋯
theorem ad0{W:Ws PG}{n:Nat}{p:jA}{y a:Int}{q:Bool}{T N F Z O G:List Int}{o:List V}{sr0:V}{d:List Int×Int}(h:∀j,Cv W (j+110) 278 [L T,L O,dat p.1 p.2.1,.str p.2.2.2.2.2] (jz p d sr0 T N F y a (rW Z o [(n! "other",.val (L O))])) (.bool q) (jz p d sr0 T N F y a (rW Z o [(n! "other",.val (L O))])))(f:∀j,Ca W (j+60) 506 [bA p.1 p.2.2.1 p.2.2.2.1,L O] [] (L G) [])(e1:bC .Eq (L F) (L G)=U q)(e2:bC .Eq (.bool q) (.bool q)=U J):Ex W (n+129) fG [bG 16] (jz p d sr0 T N F y a (rW Z o [(n! "other",.val (L O))])) (.ret (.bool J)) (jz p d sr0 T N F y a (rW Z o [(n! "other",.val (L O))])):=cV [sy 5050110600 (m:=n+126) (h _),sc 5050740970 (m:=n+125) (f _) (ak ((hU)) (ak ((aR O)) rfl)) ((aR G)),sb 5050740971 e1,sb 5050650971 e2] ⋯
noncomputable def kX(w b:Nat):List ((Int×Int)×Int):=if wz w=J then dQ b else[]
structure PlainL(r:Int)(b w:Nat):Prop where
 ap:∀A:List Int,(∀c∈A,c∈aB)->jS r (aM (wk w) A)=fh r (aM (wk w) A)
 op:∀c∈aB,oE r (wk w) (kX w b) c=cF r b w c
 lf:∀A:List Int,(∀c∈A,c∈aB)->jQ r (wk w) (kX w b) A=aD r b w A
 ne:∀A:List Int,A≠[]->(∀c∈A,c∈aB)->aD r b w A≠[]
 ch:∀T:List Int,0<T.length->chain 0 (jr (ef r b w T)) T.length
 wh:∀T:List Int,0<T.length->(∀c∈T,c∈aB)->(jr (ef r b w T)).flatMap (tV r b w T)=aD r b w T
 du:∀c∈codes,vJ r b w c=tT r (wk w) (kX w b) c
 sp:∀(A:List Int) (c:Int) (B:List Int),(∀d∈A++c::B,d∈aB)->cF r b w c=J->aD r b w (A++c::B)=aD r b w A++aD r b w (c::B)
 el:∀X:List Int,(∀c∈X,c∈aB)->(aM (wk w) (aD r b w X)).length=(aM (wk w) X).length
 ins:∀(T M:List Int) (a:Nat),(∀c∈T,c∈codes)->(∀c∈M,c∈codes)->a<=(aD r b w T).length->Cd r b w (aD r b w T) a M=aD r b w ((aD r b w T).take a++M++(aD r b w T).drop a)
theorem Ff{w b:Nat}:∀q∈kX w b,bY q.2=false:=by
 rw[kX]
 split
 ·rcases b with _|_|b
  ·decide
  ·decide
  ·exact(by decide:∀q∈dQ 2,bY q.2=ah)
 ·exact λq h=>nomatch h
theorem V5{w:Nat}(hw:w<4):bC .In (.str (bB w)) (.tup [.str (n! "nfc"),.str (n! "nfkc")])=U (wz w):=
 by clear hw;rcases w with _|_|_|w<;>kernel_rfl
theorem abg{i:Int}(h0:0<=i)(h1:i<4):cC (.tup [.str (n! "nfd"),.str (n! "nfc"),.str (n! "nfkd"),.str (n! "nfkc")]) (.int i)=U (.str (bB i.toNat)):=by
 have:i=0\/i=1\/i=2\/i=3:=by lia
 exact this.elim (λe=>e▸rfl) λh=>h.elim (λe=>e▸rfl) λh=>h.elim (λe=>e▸rfl) λe=>e▸rfl
theorem UU(k:Nat):∀d,(tH k d).1.length=k/\∀c∈(tH k d).1,c∈codes:=by
 induction k with
 |zero=>exact λd=>⟨rfl,λc h=>nomatch h⟩
 |succ k ih=>
  intro d
  have hr:=ml (d:=d) (k:=17) (by decide)
  exact⟨congrArg ES (ih _).1,eF.mpr ⟨abb hr.1 hr.2,(ih _).2⟩⟩
theorem Mg{d:List Int×Int}{le ma:Int}(h0:0<=le)(hm:0<ma):(le:Int)<=(rA d le ma).1.length/\((rA d le ma).1.length:Int)<le+ma/\∀c∈(rA d le ma).1,c∈codes:=by
 have h:=UU (le+(cS d ma).1).toNat (cS d ma).2
 have hr:=ml (d:=d) hm
 rw[rA,h.1,uJ (Int.add_nonneg h0 hr.1)]
 exact⟨I7 hr.1,Int.add_lt_add_left hr.2 le,h.2⟩
noncomputable def g6(r:Int)(b w:Nat):jA:=(r,b,wk w,kX w b,(oJ b).map .int,bB w)
def LwI(W:Ws PG)(n:Nat)(T0:List Int):Prop:=∀C:Prop,(∀(r:Int) (b w:Nat) (d:List Int×Int) (y a:Int) (T N:List Int) (hr:eW r) (hb:b<3) (hw:w<4) (hy:0<=y/\y<4) (t0:0<T.length) (t1:T.length<8) (tc:∀c∈T,c∈codes) (n1:N.length<3) (nc:∀c∈N,c∈codes) (k:∀fl s',Ex W (n+129) fG [bG 7,bG 8,bG 9,bG 10,bG 11,bG 12,bG 13,bG 14,bG 15,bG 16] (lw (L T0) d (f9 (g6 r b w) (gc T y (iT (.int a) N [])))) fl s'->Ex W (n+129) fG wb.body {vars:=[(n! "script",.val (L T0))]} fl s'),C)->C
theorem aen:wb.body=[bG 0,bG 1,bG 2,bG 3,bG 4,bG 5,bG 6,bG 7,bG 8,bG 9,bG 10,bG 11,bG 12,bG 13,bG 14,bG 15,bG 16]:=by kernel_rfl
theorem PB{i:Int}(h0:0<=i){k:Nat}(h1:i<k):i.toNat<k:=(Int.toNat_lt h0).mpr h1
theorem aak{W:Ws PG}{n:Nat}(T0:List Int):LwI W n T0:=by
 have r1:=ml (d:=pU T0) (k:=3) (by decide)
 have r2:=ml (d:=(cS (pU T0) 3).2) (k:=3) (by decide)
 have k0:=ahf (W:=W) (n:=n) (aR T0) λj=>ij (Z3 T0)
 have k1:=ahT (W:=W) (n:=n) (sr0:=L T0) λj=>ij (ZT (n:=j) (pU T0))
 have hr:=(O3 r1.1 r1.2).1
 have hb:(cS (cS (pU T0) 3).2 3).1.toNat<3:=PB r2.1 r2.2
 generalize r3 (cS (pU T0) 3).1=r at*
 generalize (cS (cS (pU T0) 3).2 3).1.toNat=b at*
 generalize (cS (cS (pU T0) 3).2 3).2=d1 at*
 have CO:=ml (d:=d1) (k:=4) (by decide)
 have hw:(cS d1 4).1.toNat<4:=PB CO.1 CO.2
 have k2:=ahn (W:=W) (n:=n) (sr0:=L T0) (λj=>YD (n:=j) hr _ b) (λj=>ij (pK (by decide) d1)) (abg CO.1 CO.2)
 generalize (cS d1 4).1.toNat=w at*
 generalize (cS d1 4).2=d2 at*
 have k3:=ahS (W:=W) (n:=n) (b:=b) (r:=r) (sr0:=L T0) (B:=(oJ b).map .int) (d:=d2) (Ei hw)
 have k4:Sm W (n+129) fG (bG 4) (lw (L T0) d2 (nP r b ((oJ b).map .int) (bB w) [(n! "world",zu r (wk w))])) .next (lw (L T0) d2 (f9 (g6 r b w) [])):=by
  have h:=V5 hw
  show Sm W (n+129) fG (bG 4) _ .next (lw (L T0) d2 (nP r b ((oJ b).map .int) (bB w) [(n! "world",wD r (wk w) (kX w b))]))
  rw[kX]
  cases q:wz w<;>rw[q] at h
  ·exact aL [sb 4890650801 h] ⋯
  ·exact afJ h λj=>Wj (n:=j) (r:=r) _ b
 have m5:=Mg (d:=(cS d2 4).2) (le:=1) (ma:=7) (by decide) (by decide)
 have k5:=agw (W:=W) (n:=n) (p:=g6 r b w) (sr0:=L T0) (λj=>ij (pK (by decide) d2)) λj=>ij (MZ (least:=1) (many:=7) ⟨by decide,by decide⟩ ⟨by decide,by decide⟩ (cS d2 4).2)
 have hy:=ml (d:=d2) (k:=4) (by decide)
 generalize (cS d2 4).1=y at*
 generalize (rA (cS d2 4).2 1 7).1=T at*
 generalize (rA (cS d2 4).2 1 7).2=d3 at*
 have m6:=Mg (d:=d3) (le:=0) (ma:=3) (by decide) (by decide)
 have k6:=af6 (W:=W) (n:=n) (p:=g6 r b w) (y:=y) (T:=T) (sr0:=L T0) (λj=>ij (MZ (least:=0) (many:=3) ⟨by decide,by decide⟩ ⟨by decide,by decide⟩ d3)) λj=>ij (pK (by decide) _)
 exact λQ_ k_=>k_ r b w _ y _ T _ hr hb hw hy (hO.mp (uK (by decide:(0:Int)<1) m5.1)) (hO.mp m5.2.1) m5.2.2 (hO.mp m6.2.1) m6.2.2 (λfl s' k=>aen▸aT k0 (aT k1 (aT k2 (aT k3 (aT k4 (aT k5 (aT k6 k)))))))
section
section
variable {W:Ws PG}{n b w:Nat}{r:Int}{A B T N O:List Int}{p:Nat}
noncomputable abbrev xl(w:Nat)(A:List Int):Nat:=(aM (wk w) A).length
theorem tG:xl w (A++B)=xl w A+xl w B:=by rw[xl,aM,Jr,aX];rfl
theorem EP:xl w (A.take p)+xl w (A.drop p)=xl w A:=by rw[<-tG,jm]
theorem Zp(hp:PlainL r b w)(hA:∀c∈A,c∈aB)(hB:∀c∈B,c∈aB):xl w (jM r b w A B)=xl w A+xl w B:=by
 rw[jM]
 split
 ·exact tG
 ·have e:xl w (aD r b w _)=xl w _:=hp.el _ (n5 (x6 (k:=jI r b w A A.length) hA) (qV (k:=iu r b w B) hB))
  rw[tG,tG,e,tG,<-j9,EP,j9,EP]
structure kO(w:Nat)(A:List Int):Prop where
 c:∀c∈A,c∈aB
 x:xl w A<64
 l:A.length<40
theorem Fj(hp:PlainL r b w)(hr:eW r)(h:kO w A):Ca W (n+60) 506 [bA r (wk w) (kX w b),L A] [] (L (aD r b w A)) []:=
 hp.lf A h.c▸DQ (hr.elim (λe=>e▸by decide) λh=>h.elim (λe=>e▸by decide) λe=>e▸by decide) Ff h.c (bq (ko h.c).1 (zO h.l (by decide))) h.x
theorem kO.of(c:∀c∈A,c∈aB)(l:A.length<22):kO w A:=⟨c,bq (ko c).2.1 (d9 (zO l (by decide:0<3)) (by decide:3*22<=66) |> λh=>by lia),ct l (by decide)⟩
theorem kO.ok(hp:PlainL r b w)(h:kO w A):tX r b w A:=⟨h.c,ct h.l (by decide),h.x,λX c Y q=>hp.sp X c Y λd hd=>h.c d (q d hd)⟩
theorem M7(hp:PlainL r b w)(hT:∀c∈T,c∈aB):(aD r b w T).length<=xl w T/\xl w (aD r b w T)=xl w T:=⟨vg T,hp.el T hT⟩
theorem Xz(hp:PlainL r b w)(h:kO w T)(h2:xl w T<22):kO w (aD r b w T):=⟨qR h.c,bq (eA (hp.el T h.c)) h.x,bq (vg T) (ct h2 (by decide))⟩
theorem Om(hp:PlainL r b w)(hw:w<4)(hT:∀c∈T,c∈codes)(hN:∀c∈N,c∈codes)(lT:xl w T<22)(lN:xl w N<7)(ha:p<=(aD r b w T).length):kO w ((aD r b w T).take p++N++(aD r b w T).drop p)/\Ca W (n+110) 293 [L (aD r b w T),.int p,L N,dat r b,.str (bB w)] [] (L (aD r b w ((aD r b w T).take p++N++(aD r b w T).drop p))) []:=by
 have cT:∀c∈T,c∈aB:=λc hc=>.tail _ (hT c hc)
 have cN:∀c∈N,c∈aB:=λc hc=>.tail _ (hN c hc)
 rw[<-hp.ins T N p hT hN ha]
 have f:=M7 hp cT
 have g:=M7 hp cN
 have c1:=qR (r:=r) (b:=b) (w:=w) cT
 have c2:=qR (r:=r) (b:=b) (w:=w) cN
 generalize aD r b w T=F at*
 have s:=EP (w:=w) (A:=F) (p:=p)
 have x1:xl w (F.take p)+xl w (aD r b w N)<64:=by lia
 have xj:=Zp hp (qV (k:=p) c1) c2
 have mj:=K8 (r:=r) (b:=b) (w:=w) (qV (k:=p) c1) c2
 have lj:=(ko (k:=wk w) mj).2.2
 have mx:=n5 (n5 (qV (k:=p) c1) cN) (x6 (k:=p) c1)
 have xx:xl w (F.take p++N++F.drop p)<29:=by rw[tG,tG];lia
 have x2:xl w (jM r b w (F.take p) (aD r b w N))+xl w (F.drop p)<64:=by rw[xj];lia
 have x3:xl w (jM r b w (F.take p) (aD r b w N))<100:=by rw[xj];lia
 exact⟨⟨mx,ct xx (by decide),bq (ko mx).2.2 (ct xx (by decide))⟩,TZ hw c1 cN ha (bq f.1 (by lia)) (ct lN (by decide)) x1 x2 (bq lj x3)⟩
theorem rF{P:Int->Prop}(h0:P 0)(h1:P 1)(h2:P 2)(h3:P 3)(h4:P 4){i:Int}(a:0<=i)(b:i<5):P i:=by
 have:i=0\/i=1\/i=2\/i=3\/i=4:=by lia
 exact this.elim (λe=>e▸h0) λh=>h.elim (λe=>e▸h1) λh=>h.elim (λe=>e▸h2) λh=>h.elim (λe=>e▸h3) λe=>e▸h4
theorem YE{P:List Int->Prop}{A B C D E:List Int}(hA:P A)(hB:P B)(hC:P C)(hD:P D)(hE:P E){i:Int}(a:0<=i)(b:i<5):∃O,cC (.list [L A,L B,L C,L D,L E]) (.int i)=U (L O)/\P O:=
 rF (P:=λi=>∃O,cC (.list [L A,L B,L C,L D,L E]) (.int i)=U (L O)/\P O) ⟨A,rfl,hA⟩ ⟨B,rfl,hB⟩ ⟨C,rfl,hC⟩ ⟨D,rfl,hD⟩ ⟨E,rfl,hE⟩ a b
end
end
section
section
variable {W:Ws PG}{n b w:Nat}{r y a:Int}{T N:List Int}{sr0:V}{d:List Int×Int}
theorem ng(hr:eW r):0<r:=hr.elim (λe=>e▸by decide) λh=>h.elim (λe=>e▸by decide) λe=>e▸by decide
theorem bEq{q:Bool}:bC .Eq (.bool q) (.bool q)=U true:=by induction q<;>rfl
theorem aby{a:Int}{k:Nat}:fg .Mod (.int a) (.int ((k:Int)+1))=U (.val (.int (a%((k:Int)+1)))):=by
 exact if_pos (Jn (fw k))
theorem aeW(hp:PlainL r b w)(hr:eW r)(hw:w<4)(t0:0<T.length)(t1:T.length<8)(tc:∀c∈T,c∈codes)(n1:N.length<3)(nc:∀c∈N,c∈codes):∃s',Ex W (n+129) fG [bG 10,bG 11,bG 12,bG 13,bG 14,bG 15,bG 16] (lw sr0 d (f9 (g6 r b w) (gc T y (iT (.int a) N [])))) (.ret (.bool J)) s':=by
 have cT:∀c∈T,c∈aB:=λc hc=>.tail _ (tc c hc)
 have cN:∀c∈N,c∈aB:=λc hc=>.tail _ (nc c hc)
 have xT:xl w T<22:=bq (ko cT).2.1 (bq (Di 3 (pk t1)) (by decide))
 have xN:xl w N<7:=bq (ko cN).2.1 (bq (Di 3 (pk n1)) (by decide))
 have oT:kO w T:=.of cT (ct t1 (by decide))
 have oF:=Xz hp oT xT
 have lF:(aD r b w T).length<22:=bq (vg T) xT
 have hq:=Int.emod_nonneg a (show((aD r b w T).length:Int)+1≠0 from mW (Jn (fw _)))
 have zw:=Int.emod_lt_of_pos a (show 0<((aD r b w T).length:Int)+1 from Jn (fw _))
 refine(zR hq).elim λp e=>?_
 rw[e] at zw
 have rM:p<=(aD r b w T).length:=pk (hO.mp zw)
 have i2:=λj=>(Om (W:=W) (n:=j) hp hw tc nc xT xN rM).2
 have iX:=(Om (W:=W) (n:=n) hp hw tc nc xT xN rM).1
 have eX:eZ ((aD r b w T).map V.int) p++N.map .int++eU ((aD r b w T).map V.int) p=((aD r b w T).take p++N++(aD r b w T).drop p).map .int:=by rw[qZ rM,nf rM,bZ,bZ]
 have fX:∀j,Ca W (j+60) 506 [bA r (wk w) (kX w b),.list (eZ ((aD r b w T).map V.int) p++N.map .int++eU ((aD r b w T).map V.int) p)] [] (L (aD r b w ((aD r b w T).take p++N++(aD r b w T).drop p))) []:=λj=>by rw[eX];exact Fj hp hr iX
 have gX:V.bI (eZ ((aD r b w T).map V.int) p++N.map .int++eU ((aD r b w T).map V.int) p)=true:=by rw[eX];exact aR _
 have lX:=congrArg qL eX
 have IQ:=afE (W:=W) (n:=n) (p:=g6 r b w) (y:=y) (T:=T) (N:=N) (a:=.int a) (sr0:=sr0) (d:=d) λj=>Fj hp hr oT
 have IB:=(aL [sr 4990090300 ((by rw[aby,aO,e]):fg .Mod (.int a) (.int ((((aD r b w T).map V.int).length:Int)+1))=U (.val (.int p)))] ⋯:Sm W (n+129) fG (bG 11) (jz (g6 r b w) d sr0 T N (aD r b w T) y a []) .next (jz (g6 r b w) d sr0 T N (aD r b w T) y p []))
 have HC:=(aL [sc 5000110670 (m:=n+127) (i2 _) (ak ((aR (aD r b w T))) (ak rfl (ak ((aR N)) (ak ((aZ (r:=(g6 r b w).1) (b:=(g6 r b w).2.1))) rfl)))) ((aR (aD r b w (x4 p (aD r b w T)++N++List.drop p (aD r b w T)))))] ⋯:Sm W (n+129) fG (bG 12) (jz (g6 r b w) d sr0 T N (aD r b w T) y ↑p []) .next (jz (g6 r b w) d sr0 T N (aD r b w T) y ↑p [(n! "told",.val (L (aD r b w (x4 p (aD r b w T)++N++List.drop p (aD r b w T)))))]))
 have bT:=ko cT (k:=wk w)
 have oA:kO w (jS r (aM (wk w) T)):=.of (hp.ap T cT▸AI (ym cT)) (by rw[EO];exact xT)
 generalize aD r b w ((aD r b w T).take p++N++(aD r b w T).drop p)=Z at*
 have lT:T.length<8:=t1
 have lN:N.length<3:=n1
 have lB:(eZ ((aD r b w T).map V.int) p).length<=(aD r b w T).length:=by rw[qZ rM,aO];exact List.length_take_le' ..
 have lE:(eU ((aD r b w T).map V.int) p).length<=(aD r b w T).length:=by rw[nf rM,aO,mU];exact qP ..
 have lM:(N.map V.int).length=N.length:=aO ..
 have lS:(eZ (T.map V.int) (-1)).length<=T.length:=by rw[eZ,qH];exact bf (sE ..) (eA (aO ..))
 have Ik:=afm (W:=W) (n:=n) (p:=g6 r b w) (y:=y) (sr0:=sr0) (d:=d) (T:=T) (qY (oj (by lia))) (qY (oj (by rw[aX];lia))) gX fX ne_int
 have C0:=ae3 (W:=W) (n:=n) (p:=g6 r b w) (y:=y) (a:=p) (F:=aD r b w T) (sr0:=sr0) (d:=d) (Z:=Z) (T:=T) (N:=N) (A:=jS r (aM (wk w) T)) (qY (oj (by lia))) (qY (oj (by rw[aO];exact ct (qI t1) (by decide)))) λj=>Ey (n:=j) cT (bq bT.1 (by lia)) (ct xT (by decide))
 have e4:eZ (T.map V.int) (-1)++N.map .int=(T.dropLast++N).map .int:=by
  rw[bZ,eZ,aO,show jG T.length (-1)=T.length-1 from aav _,<-Ah,List.dropLast_eq_take]
 rw[e4,<-List.map_reverse,show T.map V.int++[.int 97]=(T++[97]).map .int by rw[bZ];rfl] at C0
 have hx:=ml (d:=d) (k:=5) (by decide)
 refine(YE (P:=kO w) oF oA (kO.of (n5 (λc hc=>cT c (List.dropLast_subset _ hc)) cN) (by rw[aX,SA];lia)) (kO.of (λc hc=>cT c (Dt.mp hc)) (by rw[ph];exact ct t1 (by decide))) (kO.of (n5 cT (by decide:∀c∈[97],c∈aB)) (by rw[aX];exact ct (qI t1) (by decide))) hx.1 hx.2).elim λO o=>?_
 have IA:=aef (W:=W) (n:=n) (p:=g6 r b w) (y:=y) (a:=p) (T:=T) (N:=N) (F:=aD r b w T) (sr0:=sr0) (Z:=Z) (λj=>ij (pK (by decide) d)) o.1
 exact⟨_,aT IQ (aT IB (aT HC (aT Ik (aT C0 (aT IA (ad0 (W:=W) (n:=n) (p:=g6 r b w) (y:=y) (a:=p) (T:=T) (N:=N) (F:=aD r b w T) (G:=aD r b w O) (sr0:=sr0) (Z:=Z) (d:=(cS d 5).2) (O:=O) (λj=>(SN (W:=W) (n:=j) hw (oT.ok hp) (o.2.ok hp)).elim λm' h=>A7 (ak (aR _) (ak (aR _) (ak aZ rfl))) h (En rfl)) (λj=>Fj hp hr o.2) pB bEq))))))⟩
theorem adM(T0:List Int)(hp:∀r b w,eW r->b<3->w<4->PlainL r b w):∃m',Ca W (n+130) 533 [L T0] [] (.bool J) m':=by
 refine aak (W:=W) (n:=n) T0 _ λr b w d y a T N hr hb hw hy t0 t1 tc n1 nc k=>?_
 have hp:=hp r b w hr hb hw
 have cT:∀c∈T,c∈aB:=λc hc=>.tail _ (tc c hc)
 have go:∀{s'},Ex W (n+129) fG [bG 7,bG 8,bG 9,bG 10,bG 11,bG 12,bG 13,bG 14,bG 15,bG 16] (lw (L T0) d (f9 (g6 r b w) (gc T y (iT (.int a) N [])))) (.ret (.bool J)) s'->∃m',Ca W (n+130) 533 [L T0] [] (.bool J) m':=λ{s'} h=>⟨s'.mem,F4 (f:=wb) rfl rfl (k _ _ h)⟩
 have l10:T.length<10:=ct t1 (by decide)
 by_cases e0:y=0
 ·exact go (n9 (λe=>nomatch e) (afH (p:=g6 r b w) e0 λj=>TA hw (ng hr) Ff cT t0 l10 (λc hc=>hp.op c (cT c hc)) hp.lf hp.ne (hp.ch T t0) (hp.wh T t0 cT)))
 ·by_cases e1:y=1
  ·exact go (aT (F7 e0) (n9 (λe=>nomatch e) (aeG (p:=g6 r b w) e1 λj=>SV hw (ng hr) Ff cT (ct t1 (by decide)) λc hc=>hp.du c (tc c hc))))
  ·by_cases e2:y=2
   ·have h:=ml (d:=d) (k:=4) (by decide)
    exact go (aT (F7 e0) (aT (Pf e1) (n9 (λe=>nomatch e) (afF (p:=g6 r b w) e2 (λj=>ij (pK (by decide) d)) λj=>Ta hr (Int.add_nonneg (by decide) h.1) tc (ct t1 (by decide))))))
   ·exact(aeW hp hr hw t0 t1 tc n1 nc).elim λs' h=>go (aT (F7 e0) (aT (Pf e1) (aT ((OK [sb 4960140151 (oQ e2)] ⋯)) h)))
end
end
section
section
variable {r:Int}
noncomputable def dM(r:Int)(c:Int):List Int->List Int
 |[]=>[c]
 |d::l=>if rk r c<=rk r d then c::d::l else d::dM r c l
noncomputable def ms(r:Int):List Int->List Int
 |[]=>[]
 |c::l=>dM r c (ms r l)
theorem Oe(c:Int):∀l:List Int,oG (rk r c,c) (l.map λd=>(rk r d,d))=(dM r c l).map λd=>(rk r d,d)
 |[]=>rfl
 |d::l=>by
  rw[ff,oG,dM]
  split
  ·rfl
  ·rw[Oe c l];rfl
theorem vz:∀l:List Int,gS (l.map λd=>(rk r d,d))=(ms r l).map λd=>(rk r d,d)
 |[]=>rfl
 |c::l=>by rw[ff,gS,vz l,Oe];rfl
def Mk(r:Int)(l:List Int):Prop:=∀c∈l,0<rk r c
theorem J0:∀(l A:List Int),Mk r l->ew r l (A.map λd=>(rk r d,d))=ms r (A++l)
 |[],A,_=>by rw[ew,vz,nW,bx];exact List.map_id' _
 |c::l,A,h=>by
  have:=J0 l (A++[c]) λd hd=>h d (.tail _ hd)
  rw[ew,if_pos (h c (.head _))]
  rw[bZ,aN] at this
  exact this
theorem xR{l:List Int}(h:Mk r l):fh r l=ms r l:=by
 have:=J0 l [] h
 exact this
theorem DP{s:Int}(hs:¬0<rk r s)(B:List Int):∀(A:List Int) (R:List (Int×Int)),ew r (A++s::B) R=ew r A R++s::fh r B
 |[],R=>by simp only[gk,ew,gt_iff_lt,hs,if_false];rfl
 |c::A,R=>by
  rw[l9,ew,ew]
  split
  ·exact DP hs B A _
  ·rw[DP hs B A];simp [aN]
theorem u6{s:Int}(hs:¬0<rk r s)(A B:List Int):fh r (A++s::B)=fh r A++s::fh r B:=DP hs B A []
noncomputable def kE(r:Int)(t:List Int):Int->List Int:=
 List.rec (motive:=λ_=>Int->List Int) (λx=>[x]) (λy _ h x=>if 0<rk r y/\rk r y<rk r x then y::h x else x::h y) t
noncomputable def mA(r:Int)(l:List Int):List Int:=List.rec (motive:=λ_=>List Int) [] (λx t _=>kE r t x) l
theorem tE(x y:Int)(t:List Int):kE r (y::t) x=if 0<rk r y/\rk r y<rk r x then y::kE r t x else x::kE r t y:=rfl
theorem Qf(P:List Int)(x:Int)(A:List Int):(P++x::A).getD P.length 0=x:=by
 induction P with
 |nil=>rfl
 |cons p P ih=>exact ih
theorem Pq(P:List Int)(x y:Int)(A:List Int):(P++x::A).set P.length y=P++y::A:=by
 induction P with
 |nil=>rfl
 |cons p P ih=>exact congrArg (p::·) ih
theorem agi(P:List Int)(x y:Int)(A:List Int):(P++x::y::A).getD (1+P.length) 0=y:=by
 have:=Qf (P++[x]) y A
 rw[aN,aX] at this
 rw[kb]
 exact this
theorem setB(P:List Int)(x y z:Int)(A:List Int):(P++x::y::A).set (1+P.length) z=P++x::z::A:=by
 have:=Pq (P++[x]) y z A
 rw[aN,aX,aN] at this
 rw[kb]
 exact this
theorem XQ(t:List Int):∀(P:List Int) (x:Int),(List.range' P.length t.length).foldl (nD r) (P++x::t)=P++kE r t x:=by
 induction t with
 |nil=>exact λP x=>rfl
 |cons y t ih=>
  intro P x
  have k:∀u v:Int,(List.range' (P.length+1) t.length).foldl (nD r) (P++u::v::t)=P++u::kE r t v:=λu v=>by
   have:=ih (P++[u]) v
   rw[aX,aN,aN] at this
   exact this
  have hb:nD r (P++x::y::t) P.length=if 0<rk r y/\rk r y<rk r x then P++y::x::t else P++x::y::t:=by
   rw[nD,Qf,agi,Pq,setB]
  rw[fP,List.range'_succ,ll,hb,tE]
  by_cases h:0<rk r y/\rk r y<rk r x
  ·rw[if_pos h,if_pos h];exact k y x
  ·rw[if_neg h,if_neg h];exact k x y
theorem abj(F:List Int):nz r (F.length-1) F=mA r F:=by
 cases F with
 |nil=>rfl
 |cons x t=>
  rw[nz,List.range_eq_range']
  exact XQ t [] x
noncomputable def iJ(r:Int):Nat->List Int->List Int
 |0,F=>F
 |n+1,F=>iJ r n (mA r F)
theorem Pj:∀(l:List Nat) (F:List Int),l.foldl (λF j=>nz r (F.length-1) F) F=iJ r l.length F
 |[],F=>rfl
 |a::l,F=>by rw[ll,Pj l,abj];rfl
theorem acH(F:List Int):jS r F=iJ r F.length F:=by rw[jS,Pj,g8]
theorem Up{s:Int}(hs:rk r s=0)(B:List Int)(hB:∀c∈B,0<=rk r c):∀A:List Int,mA r (A++s::B)=mA r A++s::mA r B:=by
 have h0:kE r B s=s::mA r B:=by
  cases B with
  |nil=>rfl
  |cons b B=>exact if_neg λh=>Aj _ (sM h.1 (hs▸h.2))
 have h1 (x:Int) (A:List Int):kE r (A++s::B) x=kE r A x++s::mA r B:=by
  induction A generalizing x with
  |nil=>exact(if_neg λh=>Aj _ (hs▸h.1)).trans (congrArg (x::·) h0)
  |cons y A ih=>
   rw[l9,tE,tE,ih,ih]
   split<;>rfl
 intro A
 cases A with
 |nil=>exact h0
 |cons x A=>exact h1 x A
theorem Em{x y:Int}(h:rk r y<rk r x):∀l:List Int,dM r x (dM r y l)=dM r y (dM r x l)
 |[]=>by
  simp only[dM]
  rw[if_neg (by lia),if_pos (by lia)]
 |d::l=>by
  rw[dM,dM]
  by_cases h1:rk r y<=rk r d
  ·rw[if_pos h1,dM,if_neg (by lia)]
   by_cases h2:rk r x<=rk r d
   ·rw[if_pos h2,dM,if_pos h2,dM,if_pos (by lia)]
   ·rw[if_neg h2,dM,if_neg h2,dM,if_pos h1]
  ·rw[if_neg h1,dM]
   by_cases h2:rk r x<=rk r d
   ·lia
   ·rw[if_neg h2,if_neg h2,dM,if_neg h1,Em h l]
theorem D3{y m:Int}(h:rk r y<=rk r m):∀l:List Int,dM r y (l++[m])=dM r y l++[m]
 |[]=>by simp only[gk,dM,if_pos h];rfl
 |d::l=>by
  rw[l9,dM,dM]
  split
  ·rfl
  ·rw[D3 h l];rfl
inductive Last(r:Int)(t:List Int)(x:Int):Prop where
 |mk (aa:List Int) (m:Int) (e:kE r t x=aa++[m]) (h:∀u∈aa,rk r u<=rk r m) (s:ms r (x::t)=ms r aa++[m]) (l:aa.length=t.length) (k:Mk r aa) (hx:rk r x<=rk r m):Last r t x
theorem Mk.cons{x:Int}{aa:List Int}(h:0<rk r x)(k:Mk r aa):Mk r (x::aa):=eF.2 ⟨h,k⟩
theorem Vo(t:List Int):∀x:Int,Mk r (x::t)->Last r t x:=by
 induction t with
 |nil=>exact λx h=>⟨[],x,rfl,nofun,rfl,rfl,nofun,gz _⟩
 |cons y t ih=>
  intro x h
  have hx:=h x (.head _)
  have h':Mk r (y::t):=λu j=>h u (.tail _ j)
  by_cases hc:0<rk r y/\rk r y<rk r x
  ·obtain⟨aa,m,e,h2,s,l,k,hm⟩:=ih x (Mk.cons hx λu j=>h' u (.tail _ j))
   have hy:=gO (fy hc.2) hm
   refine⟨y::aa,m,(if_pos hc).trans (congrArg (y::·) e),eF.2 ⟨hy,h2⟩,?_,congrArg ES l,Mk.cons hc.1 k,hm⟩
   have:ms r (x::y::t)=dM r y (ms r (x::t)):=Em hc.2 _
   rw[this,s,D3 hy];rfl
  ·obtain⟨aa,m,e,h2,s,l,k,hm⟩:=ih y h'
   have hy:rk r x<=rk r m:=gO (gA.1 λj=>hc ⟨h' y (.head _),j⟩) hm
   refine⟨x::aa,m,(if_neg hc).trans (congrArg (x::·) e),eF.2 ⟨hy,h2⟩,?_,congrArg ES l,Mk.cons hx k,hy⟩
   rw[ms,s,D3 hy];rfl
theorem VG{m:Int}(V:List Int)(h:∀u∈V,rk r u<=rk r m):mA r (V++[m])=mA r V++[m]:=by
 have h1 (x:Int) (V:List Int) (hx:rk r x<=rk r m) (h:∀u∈V,rk r u<=rk r m):kE r (V++[m]) x=kE r V x++[m]:=by
  induction V generalizing x with
  |nil=>exact if_neg λj=>gA.2 hx j.2
  |cons y V ih=>
   have h':=eF.1 h
   rw[l9,tE,tE,ih x hx h'.2,ih y h'.1 h'.2]
   split<;>rfl
 cases V with
 |nil=>rfl
 |cons x V=>have h':=eF.1 h;exact h1 x V h'.1 h'.2
theorem Ld{c:Int}(l:List Int)(h:c∈mA r l):c∈l:=by
 have h1 (t:List Int):∀x,c∈kE r t x->c=x\/c∈t:=by
  induction t with
  |nil=>exact λx h=>.inl (cK.1 h)
  |cons y t ih=>
   intro x h
   rw[tE] at h
   split at h
   ·exact(cf.1 h).elim (λh=>.inr (h▸.head _)) λh=>(ih x h).imp_right (.tail _)
   ·exact(cf.1 h).imp_right λh=>cf.2 (ih y h)
 cases l with
 |nil=>exact h
 |cons x t=>exact cf.2 (h1 t x h)
theorem Lp{m:Int}:∀(n:Nat) (V:List Int),(∀u∈V,rk r u<=rk r m)->iJ r n (V++[m])=iJ r n V++[m]
 |0,V,_=>rfl
 |n+1,V,h=>by
  rw[iJ,VG V h,Lp n _ λu hu=>h u (Ld V hu)];rfl
theorem Ee:∀n:Nat,iJ r n []=[]
 |0=>rfl
 |n+1=>by exact Ee n
theorem DS:∀(n:Nat) (A:List Int),Mk r A->A.length<=n->iJ r n A=ms r A
 |0,A,_,h=>by
  obtain rfl:A=[]:=pg.mp (by lia)
  rfl
 |n+1,[],_,_=>by rw[Ee];rfl
 |n+1,x::t,h,hl=>by
  obtain⟨aa,m,h1,h2,h3,h4,h5⟩:=Vo t x h
  exact(congrArg (iJ r n) h1).trans ((Lp n aa h2).trans ((congrArg (·++[m]) (DS n aa h5 (h4▸qy hl))).trans h3.symm))
theorem JZ{s:Int}(hs:rk r s=0):∀(n:Nat) (A B:List Int),(∀c∈B,0<=rk r c)->iJ r n (A++s::B)=iJ r n A++s::iJ r n B
 |0,A,B,_=>rfl
 |n+1,A,B,h=>by
  rw[iJ,Up hs B h,JZ hs n _ _ λc hc=>h c (Ld B hc)];rfl
theorem Ea:∀l:List Int,Mk r l\/∃A s B,l=A++s::B/\Mk r A/\¬0<rk r s
 |[]=>.inl λc h=>by cases h
 |c::l=>by
  by_cases hc:0<rk r c
  ·rcases Ea l with h|⟨A,s,B,rfl,h1,h2⟩
   ·left;intro d hd
    rcases cf.mp hd with rfl|hd
    ·exact hc
    ·exact h d hd
   ·right;refine⟨c::A,s,B,rfl,λd hd=>?_,h2⟩
    rcases cf.mp hd with rfl|hd
    ·exact hc
    ·exact h1 d hd
  ·exact .inr ⟨[],c,l,rfl,(λd hd=>by cases hd),hc⟩
theorem Ef(hr:0<r):∀(k n:Nat) (l:List Int),l.length<=k->l.length<=n->iJ r n l=fh r l
 |0,n,l,h,_=>by
  obtain rfl:l=[]:=pg.mp (by lia)
  rw[Ee];rfl
 |k+1,n,l,h,hn=>by
  rcases Ea l with hm|⟨A,s,B,rfl,h1,h2⟩
  ·rw[DS n l hm hn,xR hm]
  ·have hs:rk r s=0:=by have:=(tf (c:=s) hr).2;lia
   rw[aX,fP] at h hn
   rw[JZ hs n A B λc j=>(tf hr).2,u6 h2,DS n A h1 (by lia),xR h1,Ef hr k n B (by lia) (by lia)]
theorem MV(hr:0<r)(l:List Int):jS r l=fh r l:=by
 rw[acH,Ef hr l.length _ l (aQ _) (aQ _)]
end
end
section
section
variable {r:Int}{b w:Nat}
theorem YF(l:List Int):∀x:CS,(l.foldl (ey r []) x).out=x.out++l:=by
 induction l with
 |nil=>exact λx=>(bx _).symm
 |cons c l ih=>
  intro x
  rw[ll,ih,m7 (PL:=[]) (Q:=λy=>y.out=x.out++[c]) (λj=>m8 r x c) λs p j e=>ay e,aN];rfl
theorem aaF(hr:0<r)(A:List Int):jQ r (wk w) (kX w b) A=aD r b w A:=by
 rw[jQ,aD,MV hr,kX]
 split
 ·rfl
 ·rw[YF];rfl
theorem XD(hr:eW r)(hb:b<3)(hw:w<4):∀c∈aB,oE r (wk w) (kX w b) c=cF r b w c:=by
 obtain rfl|rfl|rfl:b=0\/b=1\/b=2:=by lia
 all_goals obtain rfl|rfl|rfl|rfl:w=0\/w=1\/w=2\/w=3:=by lia
 all_goals rcases hr with rfl|rfl|rfl<;>decide+kernel
theorem WB(hr:eW r)(hb:b<3)(hw:w<4):∀c∈codes,vJ r b w c=tT r (wk w) (kX w b) c:=by
 obtain rfl|rfl|rfl:b=0\/b=1\/b=2:=by lia
 all_goals obtain rfl|rfl|rfl|rfl:w=0\/w=1\/w=2\/w=3:=by lia
 all_goals rcases hr with rfl|rfl|rfl<;>decide+kernel
theorem K0{n:Int}:∀(l:List Int) (p:Int),(p::l).Pairwise (·<·)->(∀x∈p::l,x<n)->chain p (jr (p::(l++[n]))) n
 |[],p,_,h=>⟨rfl,h p (.head _),rfl⟩
 |q::l,p,hp,h=>by
  rw[lg] at hp
  exact⟨rfl,hp.1 q (.head _),K0 l q hp.2 λx hx=>h x (.tail _ hx)⟩
theorem JR{T:List Int}(hn:0<T.length):∃l,ef r b w T=0::(l++[(T.length:Int)])/\((0:Int)::l).Pairwise (·<·)/\(∀x∈(0:Int)::l,x<T.length)/\l=jw r b w T (cb (T.length-1)):=by
 refine⟨jw r b w T (cb (T.length-1)),?_,?_,?_,rfl⟩
 ·rw[ef,if_neg (by lia)];rfl
 ·rw[lg]
  refine⟨λx hx=>?_,?_⟩
  ·simp only[jw,i4] at hx
   obtain⟨i,-,rfl⟩:=hx
   lia
  ·rw[jw,z4]
   exact((Dd).filter _).imp λh=>by lia
 ·intro x hx
  rcases cf.mp hx with rfl|hx
  ·lia
  ·simp only[jw,i4,xD,lr] at hx
   obtain⟨i,⟨h1,-⟩,rfl⟩:=hx
   lia
theorem X6(T:List Int)(hn:0<T.length):chain 0 (jr (ef r b w T)) T.length:=by
 obtain⟨l,h1,h2,h3,-⟩:=JR hn
 rw[h1]
 exact K0 l 0 h2 h3
end
end
section
section
variable {r:Int}{b w:Nat}
def Hn(r:Int)(R R':List Int):Prop:=∀A,ms r (R++A)=ms r (R'++A)
theorem Wm{R R':List Int}(h:Hn r R R'):∀l:List Int,ew r l (R.map λd=>(rk r d,d))=ew r l (R'.map λd=>(rk r d,d)):=by
 intro l
 induction l generalizing R R' with
 |nil=>
  rw[ew,ew,vz,vz]
  have:=h []
  rw[bx,bx] at this
  rw[this]
 |cons c l ih=>
  rw[ew,ew]
  split
  ·have h2:Hn r (R++[c]) (R'++[c]):=λA=>by rw[aN,aN];exact h _
   have:=ih h2
   rw[bZ,bZ] at this
   exact this
  ·rw[vz,vz]
   have:=h []
   rw[bx,bx] at this
   rw[this]
theorem MN{x y:Int}(h:rk r y<rk r x)(A:List Int):∀R:List Int,ms r (R++x::y::A)=ms r (R++y::x::A)
 |[]=>by rw[gk,gk,ms,ms,ms,ms,Em h]
 |c::R=>by rw[l9,l9,ms,ms,MN h A R]
theorem DT{x y:Int}(hy:0<rk r y)(h:rk r y<rk r x)(B:List Int):∀(Z R:List Int),ew r (Z++x::y::B) (R.map λd=>(rk r d,d))=ew r (Z++y::x::B) (R.map λd=>(rk r d,d))
 |[],R=>by
  have hx:0<rk r x:=by lia
  have h2:Hn r (R++[x,y]) (R++[y,x]):=λA=>by
   rw[aN,aN];exact MN h A R
  have:=Wm h2 B
  rw[bZ,bZ] at this
  simp only[gk,ew,gt_iff_lt,hx,hy,if_true,aN]
  exact this
 |c::Z,R=>by
  rw[l9,l9,ew,ew]
  split
  ·have:=DT hy h B Z (R++[c])
   rw[bZ] at this
   exact this
  ·have:=DT hy h B Z []
   rw[DL] at this
   rw[this]
def Eqv(r:Int)(P Q:List Int):Prop:=∀Z Z':List Int,fh r (Z++P++Z')=fh r (Z++Q++Z')
theorem vo(P:List Int):Eqv r P P:=λj j=>rfl
theorem Eqv.trans{P Q S:List Int}(h:Eqv r P Q)(k:Eqv r Q S):Eqv r P S:=λZ Z'=>(h Z Z').trans (k Z Z')
theorem Eqv.symm{P Q:List Int}(h:Eqv r P Q):Eqv r Q P:=λZ Z'=>(h Z Z').symm
theorem Eqv.left{P Q:List Int}(A:List Int)(h:Eqv r P Q):Eqv r (A++P) (A++Q):=λZ Z'=>by
 have:=h (Z++A) Z'
 rwa [aN Z A P,aN Z A Q] at this
theorem Eqv.right{P Q:List Int}(B:List Int)(h:Eqv r P Q):Eqv r (P++B) (Q++B):=λZ Z'=>by
 have:=h Z (B++Z')
 rwa [<-aN (Z++P),aN Z P B,<-aN (Z++Q),aN Z Q B] at this
theorem Eqv.len{P Q:List Int}(h:Eqv r P Q):P.length=Q.length:=by
 have:=congrArg qL (h [] [])
 rwa [x7,x7,bx,bx] at this
theorem Eqv.swap{x y:Int}(hy:0<rk r y)(h:rk r y<rk r x):Eqv r [x,y] [y,x]:=λZ Z'=>by
 have:=DT hy h Z' Z []
 rw[fh,fh,aN,aN]
 exact this
theorem Eqv.pas(t:List Int):∀x,Eqv r (kE r t x) (x::t):=by
 induction t with
 |nil=>exact λx=>vo _
 |cons y t ih=>
  intro x
  rw[tE]
  by_cases h:0<rk r y/\rk r y<rk r x
  ·rw[if_pos h];exact((ih x).left [y]).trans ((Eqv.swap h.1 h.2).symm.right t)
  ·rw[if_neg h];exact(ih y).left [x]
theorem Eqv.pass(l:List Int):Eqv r (mA r l) l:=by
 cases l with
 |nil=>exact vo _
 |cons x t=>exact Eqv.pas t x
theorem Eqv.iJ:∀(n:Nat) (l:List Int),Eqv r (iJ r n l) l
 |0,l=>vo l
 |n+1,l=>(Eqv.iJ n (mA r l)).trans (Eqv.pass l)
theorem Eqv.ord(hr:0<r)(l:List Int):Eqv r (fh r l) l:=by
 have:=Eqv.iJ (r:=r) l.length l
 rw[Ef hr l.length l.length l (aQ _) (aQ _)] at this
 exact this
theorem Eqv.over{c:Int}(l:List Int)(h:∀d∈l,0<rk r d/\rk r d<rk r c):Eqv r (c::l) (l++[c]):=by
 induction l with
 |nil=>exact vo _
 |cons d l ih=>
  have h1:=h d (.head _)
  exact((Eqv.swap h1.1 h1.2).right l).trans ((ih λe he=>h e (.tail _ he)).left [d])
theorem aar{k:Bool}:∀c∈aB,∀d∈ex k c,ex k d=[d]:=by
 induction k<;>decide+kernel
theorem EH{k:Bool}:∀{l:List Int},(∀c∈l,ex k c=[c])->aM k l=l
 |[],_=>rfl
 |c::l,h=>by
  have:=EH λd hd=>h d (.tail _ hd)
  rw[aM,mT,h c (.head _)]
  exact congrArg (c::·) this
theorem n3{k:Bool}(A B:List Int):aM k (A++B)=aM k A++aM k B:=Jr
theorem Mp{k:Bool}{s c p:Int}(h:tQ b s c=U p):ex k p=ex k s++[c]/\rk r p=0:=by
 have h2:∀q∈dQ b,ex k q.2=ex k q.1.1++[q.1.2]/\bY q.2=false:=by
  rcases b with _|_|b
  ·cases k<;>decide
  ·cases k<;>decide
  ·cases k
   ·exact(by decide:∀q∈dQ 2,ex ah q.2=ex ah q.1.1++[q.1.2]/\bY q.2=ah)
   ·exact(by decide:∀q∈dQ 2,ex J q.2=ex J q.1.1++[q.1.2]/\bY q.2=ah)
 have h3:=h2 _ (yg h)
 have no {q:Int} (e:bY q=J):p≠q:=λj=>jk ((e.symm.trans (j▸rfl)).trans h3.2)
 exact⟨h3.1,by rw[rk,if_neg (no rfl),if_neg (no rfl),if_neg (no rfl),if_neg (no rfl)]⟩
def Hj(r:Int)(k:Bool)(x:CS):Prop:=∀d∈x.tl,0<rk r d/\ex k d=[d]
theorem EY{c:Int}{l:List Int}(h:fm r l<c):∀d∈l,rk r d<c:=by
 have aux:∀(l:List Int) (m:Int),l.foldl (λm c=>max m (rk r c)) m<c->m<c/\∀d∈l,rk r d<c:=by
  intro l
  induction l with
  |nil=>exact λm h=>⟨h,λd hd=>dq hd⟩
  |cons a l ih=>
   intro m h
   have i:=ih _ h
   exact⟨qF (Int.le_max_left ..) i.1,eF.2 ⟨qF (Int.le_max_right ..) i.1,i.2⟩⟩
 exact(aux l _ h).2
theorem MS{k:Bool}{c:Int}(h:ex k c=[c]):aM k [c]=[c]:=(bx _).trans h
theorem X0(hr:0<r){k:Bool}{x:CS}{c:Int}(hx:Hj r k x)(hc:ex k c=[c]):Eqv r (aM k (dP r b x c).out) (aM k x.out++[c])/\Hj r k (dP r b x c):=by
 refine⟨m7 (Q:=λy=>Eqv r (aM k y.out) (aM k x.out++[c])) (λj=>?_) λs p hs q ho=>?_,m7 (λj=>?_) λs p j j j=>hx⟩
 ·rw[m8,n3,MS hc];exact vo _
 ·rw[i5 hs,i5 rfl,n3,n3,vk,vk,(Mp (r:=r) q).1,show aM k x.tl=x.tl from EH λd hd=>(hx d hd).2,aN,aN,aN]
  exact((Eqv.over x.tl λd hd=>⟨(hx d hd).1,ho.elim (λe=>dq (e▸hd)) λh=>EY h d hd⟩).left _).left _
 ·by_cases h0:rk r c=0
  ·rw[show x.push r c=_ from if_pos h0];exact λd hd=>dq hd
  ·rw[show x.push r c=_ from if_neg h0]
   exact zS.2 ⟨hx,λd hd=>cK.1 hd▸⟨SG.2 ⟨(tf hr).2,mu h0⟩,hc⟩⟩
theorem Xc(hr:0<r){k:Bool}(l:List Int):∀x:CS,Hj r k x->(∀c∈l,ex k c=[c])->Eqv r (aM k (l.foldl (dP r b) x).out) (aM k x.out++l):=by
 induction l with
 |nil=>exact λx j j=>(bx (aM k x.out)).symm▸vo _
 |cons c l ih=>
  intro x hx hl
  have h:=X0 (b:=b) hr hx (hl c (.head _))
  have:=(ih _ h.2 λd hd=>hl d (.tail _ hd)).trans (h.1.right l)
  rwa [aN] at this
theorem aa7(hr:0<r){k:Bool}{l:List Int}(hl:∀c∈l,ex k c=[c]):Eqv r (aM k (ju r b l)) l:=Xc hr l ⟨[],aj,[]⟩ (λd hd=>dq hd) hl
theorem L5{k:Bool}{A:List Int}(hA:∀c∈A,c∈aB):∀d∈fh r (aM k A),ex k d=[d]:=by
 intro d hd
 have h1:d∈aM k A:=(Lg hd).elim id λh=>by cases h
 obtain⟨c,hc,h2⟩:=List.mem_flatMap.mp h1
 exact aar c (hA c hc) d h2
theorem yb(hr:0<r){A:List Int}(hA:∀c∈A,c∈aB):Eqv r (aM (wk w) (aD r b w A)) (aM (wk w) A):=by
 have he:=L5 (r:=r) (k:=wk w) hA
 rw[aD]
 split
 ·exact(aa7 hr he).trans (Eqv.ord hr _)
 ·rw[EH he]
  exact Eqv.ord hr _
theorem Yo(hr:0<r)(A:List Int)(h:A≠[])(hA:∀c∈A,c∈aB):aD r b w A≠[]:=λe=>by
 have k:=(yb (b:=b) (w:=w) hr hA).len
 rw[e] at k
 exact h (C6 (Nat.le_zero.1 (bf (ko hA).2.2 (eA k.symm))))
theorem J2{A B:List Int}(h:Eqv r (aM (wk w) A) (aM (wk w) B)):aD r b w A=aD r b w B:=by
 have:=h [] []
 rw[gk,bx,gk,bx] at this
 rw[aD,aD,this]
theorem KG(hr:0<r){A B:List Int}(hA:∀c∈A,c∈aB):aD r b w (aD r b w A++B)=aD r b w (A++B):=by
 apply J2
 rw[n3,n3]
 exact(yb hr hA).right _
theorem UA(hr:0<r){A B:List Int}(hB:∀c∈B,c∈aB):aD r b w (A++aD r b w B)=aD r b w (A++B):=by
 apply J2
 rw[n3,n3]
 exact(yb hr hB).left _
end
end
section
section
variable {r:Int}{b w:Nat}
noncomputable def CS.ahead(P:List Int)(x:CS):CS:={x with pre:=P++x.pre}
theorem K1(P:List Int)(x:CS):(x.ahead P).out=P++x.out:=by simp [CS.ahead,CS.out]
theorem DV(P:List Int)(x:CS)(c:Int):(x.ahead P).push r c=(x.push r c).ahead P:=by
 unfold CS.push
 split
 ·rw[K1];rfl
 ·rfl
theorem U4(P:List Int)(x:CS)(c:Int):dP r b (x.ahead P) c=(dP r b x c).ahead P:=by
 show ey r (dQ b) (x.ahead P) c=(ey r (dQ b) x c).ahead P
 cases hs:x.st with
 |none=>rw[vn hs,vn (x:=x.ahead P) hs,DV]
 |some s=>
  by_cases h:x.tl=[]\/fm r x.tl<rk r c
  ·cases q:gW s c (dQ b) with
   |none=>rw[vm hs q,vm (x:=x.ahead P) hs q,DV]
   |some p=>rw[sZ hs h q,sZ (x:=x.ahead P) hs h q];rfl
  ·rw[vM h,vM (x:=x.ahead P) h,DV]
theorem Uy(P:List Int)(l:List Int):∀x:CS,l.foldl (dP r b) (x.ahead P)=(l.foldl (dP r b) x).ahead P:=by
 induction l with
 |nil=>exact λx=>rfl
 |cons c l ih=>intro x;rw[ll,ll,U4,ih]
theorem XA{x s p:Int}(h:(jV b).contains s=ah)(q:gW x s (dQ b)=U p):False:=by
 refine jk ((xk.2 ((show ∀q∈dQ b,q.1.2∈jV b from ?_) _ (yg q))).symm.trans h)
 rcases b with _|_|b
 ·decide
 ·decide
 ·exact(by decide:∀q∈dQ 2,q.1.2∈jV 2)
theorem Vy{s:Int}(h0:rk r s=0)(hs:(jV b).contains s=ah)(A B:List Int):ju r b (A++s::B)=ju r b A++ju r b (s::B):=by
 have h1 (x:CS):dP r b x s=x.push r s:=m7 (Q:=λy=>y=x.push r s) (λj=>rfl) λs p j q j=>(XA hs q).elim
 rw[ju,ju,ju,z5,ll,ll,h1,h1]
 generalize A.foldl (dP r b) ⟨[],aj,[]⟩=x
 have h2:x.push r s=(CS.push r ⟨[],aj,[]⟩ s).ahead x.out:=by
  unfold CS.push
  rw[if_pos h0,if_pos h0]
  simp [CS.ahead,CS.out]
 rw[h2,Uy,K1]
theorem afL{k:Bool}{c:Int}(hc:c∈aB):∃l,ex k c=hd k c::l:=by
 have h1:=(te (k:=k) c hc).1
 rw[hd]
 cases q:ex k c with
 |nil=>rw[q] at h1;simp at h1
 |cons a l=>exact⟨l,rfl⟩
theorem AU(hr:0<r)(A:List Int)(c:Int)(B:List Int)(hm:∀d∈A++c::B,d∈aB)(hs:cF r b w c=J):aD r b w (A++c::B)=aD r b w A++aD r b w (c::B):=by
 have hc:c∈aB:=hm c (cy _ (.head _))
 obtain⟨l,hl⟩:=afL hc
 rw[cF,Du] at hs
 have h0:¬0<rk r (hd (wk w) c):=by simpa using hs.1
 have h00:rk r (hd (wk w) c)=0:=by have:=(tf (c:=hd (wk w) c) hr).2;lia
 have e1:aM (wk w) (A++c::B)=aM (wk w) A++hd (wk w) c::(l++aM (wk w) B):=by
  rw[n3];congr 1
  rw[aM,mT,hl];rfl
 have e2:aM (wk w) (c::B)=[]++hd (wk w) c::(l++aM (wk w) B):=by
  rw[aM,mT,hl];rfl
 have e3:fh r ([]:List Int)=[]:=rfl
 rw[aD,aD,aD,e1,e2,u6 h0,u6 h0,e3,gk]
 split
 ·rename_i hz
  have h2:(jV b).contains (hd (wk w) c)=false:=by
   have:=hs.2
   rw[hz,Bool.true_and] at this
   simpa using this
  rw[Vy h00 h2]
 ·rfl
theorem Nm{k:Bool}:∀{A B C D:List Int},(∀c∈A++B,c∈aB)->A++B=C++D->(aM k A).length=(aM k C).length->A=C/\B=D
 |[],B,[],D,_,h,_=>⟨rfl,h⟩
 |[],B,c::C,D,hm,h,e=>by
  have hc:c∈aB:=hm c (by rw[h];exact .head _)
  have h1:=(te (k:=k) c hc).1
  rw[aM,aM,z7,mT,aX,j7] at e
  lia
 |a::A,B,[],D,hm,h,e=>by
  have ha:a∈aB:=hm a (.head _)
  have h1:=(te (k:=k) a ha).1
  rw[aM,aM,z7,mT,aX,j7] at e
  lia
 |a::A,B,c::C,D,hm,h,e=>by
  simp only[l9,List.cons.injEq] at h
  obtain⟨rfl,h⟩:=h
  rw[aM,aM,mT,mT,aX,aX] at e
  obtain⟨h1,h2⟩:=Nm (k:=k) (λc hc=>hm c (.tail _ hc)) h (by simp only[aM];lia)
  exact⟨by rw[h1],h2⟩
theorem Ar(hr:0<r){A B:List Int}{c:Int}(hm:∀d∈A++c::B,d∈aB)(hs:cF r b w c=J)(h:aD r b w (A++c::B)=A++c::B):aD r b w A=A/\aD r b w (c::B)=c::B:=by
 rw[AU hr A c B hm hs] at h
 have hA:∀d∈A,d∈aB:=λd hd=>hm d (bp _ hd)
 exact Nm (by rw[h];exact hm) h (yb hr hA).len
theorem Eh(hr:0<r){A:List Int}(hA:∀c∈A,c∈aB):aD r b w (aD r b w A)=aD r b w A:=by
 have:=KG (b:=b) (w:=w) hr (B:=[]) hA
 rwa [bx,bx] at this
end
end
section
section
variable {r:Int}{b w:Nat}
theorem UN{c:Int}{v:List Int}(h:∀d∈v,rk r c<rk r d):dM r c v=c::v:=by
 cases v with
 |nil=>rfl
 |cons d v=>exact if_pos (fy (h d (.head _)))
theorem WN{c d:Int}{l:List Int}(h:d∈dM r c l):d=c\/d∈l:=by
 induction l with
 |nil=>exact .inl (cK.mp h)
 |cons e l ih=>
  rw[dM] at h
  split at h
  ·exact cf.mp h
  ·exact(cf.mp h).elim (λh=>.inr (h▸.head _)) λh=>(ih h).imp_right (.tail _)
inductive Sn(r t:Int):List Int->List Int->Prop
 |b (v:List Int) (h:∀d∈v,rk r t<rk r d):Sn r t v (t::v)
 |c (d:Int) (l l':List Int) (h:Sn r t l l'):Sn r t (d::l) (d::l')
theorem acN{t:Int}(c:Int){l l':List Int}(h:Sn r t l l'):Sn r t (dM r c l) (dM r c l'):=by
 induction h with
 |b v h=>
  rw[show dM r c (t::v)=if rk r c<=rk r t then c::t::v else t::dM r c v from rfl]
  by_cases hc:rk r c<=rk r t
  ·rw[if_pos hc,UN λd hd=>qF hc (h d hd)]
   exact .c c _ _ (.b v h)
  ·rw[if_neg hc]
   exact .b _ λd hd=>(WN hd).elim (λe=>e▸D0.1 hc) (h d)
 |c d l l' h ih=>
  rw[dM,dM]
  by_cases hc:rk r c<=rk r d
  ·rw[if_pos hc,if_pos hc];exact .c c _ _ (.c d _ _ h)
  ·rw[if_neg hc,if_neg hc];exact .c d _ _ ih
theorem abX{t:Int}{l l':List Int}(h:Sn r t l l')(A:List Int):Sn r t (A++l) (A++l'):=by
 induction A with
 |nil=>exact h
 |cons d A ih=>exact .c d _ _ ih
theorem afS(t:Int)(P:List Int):Sn r t (ms r P) (ms r (P++[t])):=by
 induction P with
 |nil=>exact .b [] nofun
 |cons c P ih=>exact acN c ih
theorem abr{t:Int}(ht:0<rk r t):∀(n:Nat) (P:List Int),P.length<=n->Sn r t (fh r P) (fh r (P++[t])):=by
 intro n
 induction n with
 |zero=>exact λP h=>by rw[C6 (Nat.le_zero.mp h),gk,xR (Mk.cons ht λj h=>dq h)];exact .b [] nofun
 |succ n ih=>
  intro P h
  refine(Ea (r:=r) P).elim (λhm=>?_) λk=>k.elim λA k=>k.elim λs k=>k.elim λB k=>?_
  ·rw[xR hm,xR (zS.2 ⟨hm,Mk.cons ht λj h=>dq h⟩)]
   exact afS t P
  ·rw[k.1,aN,l9,u6 k.2.2,u6 k.2.2]
   rw[k.1,aX,fP] at h
   exact abX (.c s _ _ (ih B (bf (xF ..) (qy h)))) _
theorem KO{Q:Prop}(y:CS){c:Int}(hc:0<rk r c)(push:dP r b y c={y with tl:=y.tl++[c]}->Q)
  (put:∀p,rk r p=0->(y.tl=[]\/fm r y.tl<rk r c)->dP r b y c={y with st:=U p}->(∀tl,fm r tl<=fm r y.tl->dP r b {y with tl:=tl} c={y with tl:=tl,st:=U p})->Q):Q:=by
 have hp:y.push r c={y with tl:=y.tl++[c]}:=if_neg (mW hc)
 cases hs:y.st with
 |none=>exact push ((vn hs).trans hp)
 |some s=>
  by_cases ho:y.tl=[]\/fm r y.tl<rk r c
  ·cases q:gW s c (dQ b) with
   |none=>exact push ((vm hs q).trans hp)
   |some p=>exact put p (Mp (k:=J) q).2 ho (sZ hs ho q) λl h=>sZ hs (.inr (qF h (ho.elim (λe=>e▸sM (show(-1:Int)<0 by decide) hc) id))) q
  ·exact push ((vM ho).trans hp)
theorem go_marks{Q:Prop}(v:List Int):∀y:CS,(∀d∈v,0<rk r d)->(∀z,∀d∈v,(v.foldl (dP r b) y).out=z++[d]->Q)->
  (∀st,v.foldl (dP r b) y={y with st:=st}->(∀tl,fm r tl<=fm r y.tl->v.foldl (dP r b) {y with tl:=tl}={y with tl:=tl,st:=st})->(∀s,y.st=U s->rk r s=0->∃s,st=U s/\rk r s=0)->Q)->Q:=by
 induction v with
 |nil=>exact λy j B A=>A y.st rfl (λj j=>rfl) λs e h=>⟨s,e,h⟩
 |cons c v ih=>
  intro y hv B A
  have Ie:=eF.1 hv
  rw[ll] at B A
  refine KO (b:=b) y Ie.1 (λe=>?_) λp hp j e e2=>?_
  ·rw[e] at B
   exact ih _ Ie.2 (λz d m=>B z d (.tail _ m)) λst k j j=>B (y.pre++st.toList++y.tl) c (.head _) (by rw[k];exact(aN ..).symm)
  ·rw[e] at B A
   exact ih _ Ie.2 (λz d m=>B z d (.tail _ m)) λst k1 k2 k3=>A st k1 (λtl h=>by rw[ll,e2 tl h];exact k2 tl h) λj j j=>k3 p rfl hp
theorem AH{X Y:List Int}{s t:Int}(h:X++[s]=Y++[t]):X=Y/\s=t:=
 (List.append_inj' h rfl).imp id λh=>(nV h).1
theorem Zm{X v:List Int}{t:Int}(ht:0<rk r t)(h3:∀d∈v,rk r t<rk r d)(x:CS)(h:((t::v).foldl (dP r b) x).out=X++[t]):(v.foldl (dP r b) x).out=X:=by
 have hv:∀d∈v,0<rk r d:=λd m=>sM ht (h3 d m)
 have no {Q:Prop} {z:List Int} {d:Int} (e:z++[d]=X++[t]) (n:rk r d≠rk r t):Q:=absurd (congrArg (rk r) (AH e).2) n
 rw[ll] at h
 refine KO (b:=b) x ht (λe=>?_) λp hp ho e j=>?_<;>rw[e] at h
 ·refine go_marks v _ hv (λz d m k=>no (k.symm.trans h) (mW (h3 d m))) λst k1 k2 j=>?_
  rw[k1] at h
  have:=k2 x.tl (by show _<=fm r (x.tl++[t]);rw[Kf];split<;>lia)
  rw[show v.foldl (dP r b) x=_ from this]
  exact(AH ((aN ..).trans h)).1
 ·refine go_marks v _ hv (λz d m k=>no (k.symm.trans h) (mW (h3 d m))) λst k1 j k3=>?_
  rw[k1] at h
  refine(k3 p rfl hp).elim λs k=>?_
  rcases Su x.tl with q|⟨z,d,q⟩
  ·refine no (z:=x.pre) (Eq.trans ?_ h) (k.2▸Int.ne_of_lt ht)
   rw[CS.out,q,k.1];exact(bx _).symm
  ·refine no (z:=x.pre++st.toList++z) (d:=d) (Eq.trans ?_ h) ?_
   ·rw[CS.out,q,Df];exact aN ..
   ·exact ho.elim (λe=>absurd (q.symm.trans e) (by rw[Df];exact I3 _ (uO _ _))) λe=>Int.ne_of_lt (EY e d (by rw[q,Df];exact cy _ (.head _)))
theorem adB{X l l':List Int}{t:Int}(ht:0<rk r t)(k:Sn r t l l'):∀x:CS,(l'.foldl (dP r b) x).out=X++[t]->(l.foldl (dP r b) x).out=X:=by
 induction k with
 |b v h=>exact Zm ht h
 |c d l l' h ih=>exact λx=>ih _
theorem aee{l l':List Int}{t:Int}(k:Sn r t l l'):∀X,l'=X++[t]->l=X:=by
 induction k with
 |b v h=>
  intro X e
  cases X with
  |nil=>exact(nV e).2
  |cons x X=>exact absurd (h t ((nV e).2▸cy _ (.head _))) (Aj _)
 |c d l l' h ih=>
  intro X e
  cases X with
  |nil=>cases h<;>exact absurd (nV e).2 (uO _ _)
  |cons x X=>rw[(nV e).1,ih X (nV e).2]
theorem Ym{X:List Int}{t:Int}(ht:0<rk r t)(he:ex (wk w) t=[t])(h:aD r b w (X++[t])=X++[t]):aD r b w X=X:=by
 have k:=abr ht _ (aM (wk w) X) (aQ _)
 rw[aD,n3,show aM (wk w) [t]=[t] from(bx _).trans he] at h
 rw[aD]
 by_cases hz:wz w=J
 ·rw[if_pos hz] at h ⊢
  exact adB ht k _ h
 ·rw[if_neg hz] at h ⊢
  exact aee k _ h
end
end
section
section
variable {r:Int}{b w:Nat}
theorem Lb(hr:eW r)(hb:b<3)(hw:w<4){s c p:Int}(h:tQ b s c=U p):cF r b w p=J/\(jV b).contains p=false:=by
 refine(show ∀q∈dQ b,cF r b w q.2=J/\(jV b).contains q.2=ah from ?_) _ (yg h)
 clear h
 obtain rfl|rfl|rfl:b=0\/b=1\/b=2:=by lia
 all_goals obtain rfl|rfl|rfl|rfl:w=0\/w=1\/w=2\/w=3:=by lia
 all_goals rcases hr with rfl|rfl|rfl<;>decide+kernel
def Kept(b:Nat)(k:Bool)(d:Int):Prop:=ex k d=[d]\/∃s c,tQ b s c=U d
theorem WY{k:Bool}{Y:List Int}(hY:∀d∈Y,ex k d=[d]):∀d∈ju r b Y,Kept b k d:=by
 have:∀(l:List Int) (x:CS),(∀c∈l,ex k c=[c])->(∀c∈x.out,Kept b k c)->∀c∈(l.foldl (dP r b) x).out,Kept b k c:=by
  intro l
  induction l with
  |nil=>exact λx j h=>h
  |cons c l ih=>
   intro x hl hx
   refine ih _ (λc hc=>hl c (.tail _ hc)) (m7 (Q:=λy=>∀d∈y.out,Kept b k d) (λj=>?_) λs p hs q j=>?_)
   ·rw[m8]
    exact zS.2 ⟨hx,λd hd=>cK.1 hd▸.inl (hl c (.head _))⟩
   ·rw[i5 (s:=p) rfl]
    rw[i5 hs] at hx
    have hx:=zS.1 hx
    exact zS.2 ⟨hx.1,eF.2 ⟨.inr ⟨s,c,q⟩,λd hd=>hx.2 d (.tail _ hd)⟩⟩
 exact this Y _ hY λc hc=>dq hc
theorem V7{A:List Int}(hA:∀c∈A,c∈aB):∀d∈aD r b w A,Kept b (wk w) d:=by
 have he:=L5 (r:=r) (k:=wk w) hA
 rw[aD]
 split
 ·exact WY he
 ·exact λd hd=>.inl (he d hd)
theorem aaZ(hr:eW r)(hb:b<3)(hw:w<4){X:List Int}{t:Int}(hm:∀c∈X++[t],c∈aB)(h:aD r b w (X++[t])=X++[t]):aD r b w X=X:=by
 have j5:=ng hr
 have ht:t∈X++[t]:=cy _ (.head _)
 cases hs:cF r b w t with
 |true=>exact(Ar j5 hm hs h).1
 |false=>
  have he:ex (wk w) t=[t]:=(V7 (r:=r) (b:=b) (w:=w) hm t (by rw[h];exact ht)).elim id λk=>k.elim λs k=>k.elim λc k=>jk ((Lb hr hb hw k).1.symm.trans hs)
  by_cases ht:0<rk r t
  ·exact Ym ht he h
  ·have h2:wz w=J/\(jV b).contains t=true:=by
    rw[cF,hd,he,show([t]:List Int).headD 0=t from rfl,decide_eq_false ht] at hs
    cases q1:wz w<;>cases q2:(jV b).contains t<;>rw[q1,q2] at hs
    ·exact jk hs
    ·exact jk hs
    ·exact jk hs
    ·exact⟨rfl,rfl⟩
   rw[aD,n3,MS he,u6 ht,if_pos h2.1,ju,z5] at h
   rw[aD,if_pos h2.1,ju]
   generalize (fh r (aM (wk w) X)).foldl (dP r b) ⟨[],aj,[]⟩=x at h ⊢
   refine m7 (r:=r) (PL:=dQ b) (x:=x) (c:=t) (Q:=λy=>y.out=X++[t]->x.out=X) (λj e=>(AH ((m8 r x t).symm.trans e)).1) (λs p j q ho e=>?_) h
   have ID:x.tl=[]:=ho.elim id λho=>by
    cases hx:x.tl with
    |nil=>rfl
    |cons d l=>exact absurd (qF (tf (c:=d) j5).2 (EY ho d (by rw[hx];exact .head _))) ht
   rw[CS.out,ID,bx] at e
   exact jk (h2.2.symm.trans ((AH e).2▸(Lb hr hb hw q).2))
theorem UD(hr:eW r)(hb:b<3)(hw:w<4):∀(n:Nat) (X Y:List Int),Y.length=n->(∀c∈X++Y,c∈aB)->aD r b w (X++Y)=X++Y->aD r b w X=X:=by
 intro n
 induction n with
 |zero=>
  intro X Y h0 _ h
  obtain rfl:Y=[]:=pg.mp h0
  rwa [bx] at h
 |succ n ih=>
  intro X Y h0 hm h
  rcases Su Y with rfl|⟨Y',t,rfl⟩
  ·simp at h0
  ·rw[Df] at h0 hm h
   rw[<-aN] at hm h
   have h1:=aaZ hr hb hw hm h
   exact ih X Y' (by simpa using h0) (λc hc=>hm c (bp _ hc)) h1
theorem DW:∀B:List Int,B.drop (iu r b w B)=[]\/∃c B',B.drop (iu r b w B)=c::B'/\cF r b w c=J
 |[]=>.inl rfl
 |c::B=>by
  rw[iu]
  split
  ·rename_i h;exact .inr ⟨c,B,rfl,h⟩
  ·rw[List.drop_succ_cons];exact DW B
theorem JT{A:List Int}:∀k,k<=A.length->jI r b w A k=0\/∃c A',A.drop (jI r b w A k)=c::A'/\cF r b w c=J
 |0,_=>.inl rfl
 |k+1,h=>by
  rw[jI]
  split
  ·rename_i hs
   exact .inr ⟨_,_,drop_cons (by lia),hs⟩
  ·exact JT k (by lia)
theorem EJ(hr:0<r){A B:List Int}(hm:∀d∈A++B,d∈aB)(h:B=[]\/∃c B',B=c::B'/\cF r b w c=J):aD r b w (A++B)=aD r b w A++aD r b w B:=by
 rcases h with rfl|⟨c,B',rfl,hs⟩
 ·rw[bx,Eb,bx]
 ·exact AU hr A c B' hm hs
theorem K2(hr:eW r){A B:List Int}(hA:∀c∈A,c∈aB)(hB:∀c∈B,c∈aB)(fA:aD r b w A=A)(fB:∀B1 c B2,B=B1++c::B2->cF r b w c=J->aD r b w (c::B2)=c::B2):jM r b w A B=aD r b w (A++B):=by
 have j5:=ng hr
 have Rb:∀d∈A++B,d∈aB:=λd hd=>(gx.mp hd).elim (hA d) (hB d)
 have fD:∀e,(B.drop e=[]\/∃c B',B.drop e=c::B'/\cF r b w c=J)->aD r b w (B.drop e)=B.drop e:=by
  intro e h
  rcases h with h|⟨c,B',h,hs⟩
  ·rw[h,Eb]
  ·rw[h];exact fB (B.take e) c B' (by rw[<-h,jm]) hs
 rw[jM]
 split
 ·rename_i h0
  have w9:=DW (r:=r) (b:=b) (w:=w) B
  rw[h0,xG] at w9
  have f0:=fD 0 (by rw[xG];exact w9)
  rw[xG] at f0
  rw[EJ j5 Rb w9,fA,f0]
 ·have w9:=DW (r:=r) (b:=b) (w:=w) B
  have d6:=JT (r:=r) (b:=b) (w:=w) (A:=A) A.length (aQ _)
  have f0:=fD _ w9
  generalize iu r b w B=e at*
  generalize jI r b w A A.length=st at*
  have QD:A++B=(A.take st++(A.drop st++B.take e))++B.drop e:=by
   rw[<-aN,jm,aN,jm]
  have hm2:∀d∈A.take st++(A.drop st++B.take e),d∈aB:=by
   intro d hd
   rcases gx.mp hd with hd|hd
   ·exact hA d (xn hd)
   ·rcases gx.mp hd with hd|hd
    ·exact hA d (uH hd)
    ·exact hB d (xn hd)
  have e1:aD r b w (A++B)=aD r b w (A.take st++(A.drop st++B.take e))++B.drop e:=by
   rw[QD,EJ j5 (by rw[<-QD];exact Rb) w9,f0]
  rw[e1]
  congr 1
  rcases d6 with rfl|⟨c,A',h,hs⟩
  ·rw[List.take_zero,gk,gk]
  ·have h2:A.drop st++B.take e=c::(A'++B.take e):=by rw[h];rfl
   have h3:A=A.take st++c::A':=by rw[<-h,jm]
   have h4:aD r b w (A.take st)=A.take st:=(Ar j5 (by rw[<-h3];exact hA) hs (by rw[<-h3];exact fA)).1
   rw[EJ j5 hm2 (.inr ⟨c,_,h2,hs⟩),h4]
theorem VL(hr:eW r)(hb:b<3)(hw:w<4)(T M:List Int)(a:Nat)(hT:∀c∈T,c∈aB)(hM:∀c∈M,c∈aB):Cd r b w (aD r b w T) a M=aD r b w ((aD r b w T).take a++M++(aD r b w T).drop a):=by
 have j5:=ng hr
 have hW:=qR (r:=r) (b:=b) (w:=w) hT
 have fW:=Eh (b:=b) (w:=w) j5 hT
 rw[Cd]
 generalize aD r b w T=W at*
 have hF:=qR (r:=r) (b:=b) (w:=w) hM
 have fF:=Eh (b:=b) (w:=w) j5 hM
 have Rz:∀c∈W.take a,c∈aB:=λc hc=>hW c (xn hc)
 have hda:∀c∈W.drop a,c∈aB:=λc hc=>hW c (uH hc)
 have fta:aD r b w (W.take a)=W.take a:=UD hr hb hw _ (W.take a) (W.drop a) rfl (by rw[jm];exact hW) (by rw[jm];exact fW)
 have j1:jM r b w (W.take a) (aD r b w M)=aD r b w (W.take a++M):=by
  rw[K2 hr Rz hF fta,UA j5 hM]
  intro B1 c B2 e hs
  rw[e] at fF hF
  exact(Ar j5 hF hs fF).2
 have Ip:∀c∈W.take a++M,c∈aB:=λc hc=>(gx.mp hc).elim (Rz c) (hM c)
 rw[j1,K2 hr (qR Ip) hda (Eh j5 Ip),KG j5 Ip]
 intro B1 c B2 e hs
 have e2:W=(W.take a++B1)++c::B2:=by rw[aN,<-e,jm]
 rw[e2] at fW hW
 exact(Ar j5 hW hs fW).2
theorem Z9{T:List Int}{p n:Nat}(h1:p<n)(h2:n<=T.length):sl T p n=T.getD p 0::sl T (p+1) n:=by
 have e:n-p=n-(p+1)+1:=(Dj (JB h1)).symm
 rw[sl,drop_cons (d9 h1 h2),e,List.take_succ_cons];rfl
theorem L8{T:List Int}{p n:Int}(h0:0<=p)(h1:p<n)(h2:n<=T.length):di T p n=T.getD p.toNat 0::di T (p+1) n:=
 (zR h0).elim λa e=>(zR (fy (qF h0 h1))).elim λb e2=>by
  rw[e,e2] at h1
  rw[e2] at h2
  rw[e,e2]
  exact Z9 (hO.mp h1) (pn.mp h2)
theorem J6(hr:0<r){T:List Int}(hT:∀c∈T,c∈aB){n:Int}(hn:n=T.length):∀(l:List Int) (p:Int),0<=p->(p::l).Pairwise (·<·)->(∀x∈p::l,x<n)->(∀x∈l,cF r b w (T.getD x.toNat 0)=J)->(jr (p::(l++[n]))).flatMap (tV r b w T)=aD r b w (di T p n)
 |[],p,h0,_,hx,_=>by
  have:=hx p (.head _)
  show aD r b w (di T p n)++[]=_
  rw[bx]
 |q::l,p,h0,hp,hx,hs=>by
  rw[lg] at hp
  have hpq:=hp.1 q (.head _)
  have Q0:=hx q (.tail _ (.head _))
  have ih:=J6 hr hT hn l q (by lia) hp.2 (λx h=>hx x (.tail _ h)) (λx h=>hs x (.tail _ h))
  have e1:jr (p::(q::l++[n]))=(p,q)::jr (q::(l++[n])):=rfl
  rw[e1,mT,ih,<-Fb (by lia:p<=q) (by lia:q<=n)]
  rw[L8 (p:=q) (by lia) Q0 (by lia)]
  exact(AU hr _ _ _ (by
   intro d hd
   rw[<-L8 (p:=q) (by lia) Q0 (by lia),Fb (by lia:p<=q) (by lia:q<=n)] at hd
   exact hT d (Bn hd)) (hs q (.head _))).symm
theorem Yq(hr:0<r)(T:List Int)(hn:0<T.length)(hT:∀c∈T,c∈aB):(jr (ef r b w T)).flatMap (tV r b w T)=aD r b w T:=by
 obtain⟨l,h1,h2,h3,h4⟩:=JR (r:=r) (b:=b) (w:=w) hn
 rw[h1,J6 hr hT rfl l 0 (gz _) h2 h3]
 ·congr 1
  simp [di,sl]
 ·intro x hx
  rw[h4] at hx
  simp only[jw,i4,xD] at hx
  obtain⟨i,⟨-,hi⟩,rfl⟩:=hx
  exact hi
theorem plain(hr:eW r)(hb:b<3)(hw:w<4):PlainL r b w where
 ap:=λA j=>MV (ng hr) _
 op:=XD hr hb hw
 lf:=λA j=>aaF (ng hr) A
 ne:=Yo (ng hr)
 ch:=X6
 wh:=Yq (ng hr)
 du:=WB hr hb hw
 sp:=AU (ng hr)
 el:=λX hX=>(yb (ng hr) hX).len
 ins:=λT M a hT hM j=>VL hr hb hw T M a (λc hc=>.tail _ (hT c hc)) (λc hc=>.tail _ (hM c hc))
end
theorem ZC{W:Ws PG}{n:Nat}(T0:List Int):∃m',Ca W (n+130) 533 [L T0] [] (.bool J) m':=adM T0 λr b w hr hb hw=>plain hr hb hw
end
set_option Elab.async false
theorem fn_get{K:aS}{w:aE}{a:Nat}{f:bb}(l:List (Nat×bb)):tR K l->ui a l=U f->B8 w K a f:=by
 induction l with
 |nil=>exact λx h=>ay h
 |cons p r ih=>
  intro H h
  have h:(bif ie p.1 a then U p.2 else ui a r)=U f:=h
  cases q:ie p.1 a with
  |true=>
   rw[q] at h
   exact uG q▸aA h▸H.1.elim λn e=>e.elim λj e=>ZK e
  |false=>rw[q] at h;exact ih H.2 h
noncomputable def Fv(K:aS):List (Nat×lL)->Bool
 |[]=>J
 |p::r=>Ov K p.1 p.2&&Fv K r
theorem aaj{K:aS}{a:Nat}{f:lL}(l:List (Nat×lL)):Fv K l=J->ui a l=U f->yI K a f:=by
 induction l with
 |nil=>exact λj h=>ay h
 |cons p r ih=>
  intro H h
  have h:(bif ie p.1 a then U p.2 else ui a r)=U f:=h
  cases q:ie p.1 a with
  |true=>
   rw[q] at h
   exact uG q▸aA h▸adh (bl H)
  |false=>rw[q] at h;exact ih (aU H) h
structure Facts(K:aS):Prop where
 fn:tR K HF
 tp:BF K [189,190,458]
 gl:(Hy K [189,190,458] globT,globT.all (·.2.free),Fv K G9)=(Iv globT,J,J)
 lw:(K.lookup jE,(mF K jE).data,K.lookup dY,codeHdIn K pJ dY,w1 K (n! "law"))=(U (mF K jE),.dict (Hx K) 76,aj,J,U (.ref 533))
theorem tabs_ok{w:aE}{K:aS}(F:Facts K){mg mb:af->Option ae}(hm:∀x,mg x=w1 K x)(hb:∀x:af,x≠n! "__name__"->mb x=uS x):eG w K mg mb PG:=
 j4 F.gl λg1 g=>j4 g λg2 g3=>⟨λj j=>aaj G9 g3,λx v h=>⟨md.mp g2 (x,v) (Bj h),λj X=>(bN.mp (adp globT g1 h)).elim λu q=>⟨u,Zf X F.tp q.2,Zr hm hb q.1⟩⟩⟩
abbrev y8:=RV.row.claim
theorem Yf(ns:List Int)(h:ns.length<=63):y8.post [ofPy (uY (ns.map u9))] (.bool J) [ofPy (uY (ns.map u9))]=true:=by
 wrow_post
theorem VS{P:aE}{h:az}{l:ag}{ns:List Int}{vs:List ae}(hW:Well P.params h (.ref l) (ofPy (uY (ns.map u9))))(hL:h.IsList l vs.toArray):h.get? l=U (bg vs.toArray 0):=by
 generalize hd:ofPy (uY (ns.map u9))=d at hW
 obtain⟨o,e1,e2,n,e3⟩:=hL
 cases hW<;>first|(cases hd;done)|skip
 rename_i bM xs q2 q1
 rw[e1] at q1
 cases q1
 cases e3
 exact e1
theorem ab2{cl:af->Option ag}{yT:ExcName->Option ae}{args:List WData}{s s':aw}(hp:y8.post args (.bool J) args=J)(ho:OldK s.heap s'.heap)(uk:s'.os=s.os)(hb:AllBare s'.gens):
  GoodWG y8 cl yT args s (.ok (.ret (.bool J))) s':=
 ⟨.inl ⟨_,_,[],rfl,λj=>rfl,ReadsW.bool J,hp,λj=>⟨nU,λj hm=>(nomatch hm)⟩⟩,ho,uk,hb⟩
theorem abU{w:aE}{K:aS}{mg mb:af->Option ae}{cl:af->Option ag}{yT:ExcName->Option ae}{p q:Program}{loose:List af}{s:aw}{fa l:ag}{ns:List Int}{vs:List ae}
  (F:Facts K) (hmodel:ar p w=ar ao w) (T:Top q loose yT mg mb s.heap) (hX:K.In s.heap) (hT:s.heap.get? dY=U (mw #[])) (IG:mg (n! "law")=U (.ref fa)) (hg:s.gens=#[]) (hW:Well w.params s.heap (.ref l) (ofPy (uY (ns.map u9))))
  (hL:s.heap.IsList l vs.toArray) (hI:dO vs ns) (hn:¬(63:Int)<(ns.length:Int)):
  ax (ar p w) callerA (call (.ref fa) [.ref l]) (λv s'=>GoodWG y8 cl yT [ofPy (uY (ns.map u9))] s (.ok (.ret v)) s')
   (λe s'=>GoodWG y8 cl yT [ofPy (uY (ns.map u9))] s (.error e) s') s:=
 j4 F.lw λc1 c=>j4 c λc2 c=>j4 c λc3 c=>j4 c λc4 c5=>by
  have hm:=λx=>acP c1 c2 hX T.g x
  have e:fa=533:=uQ (aA (IG.symm.trans ((hm _).trans c5)))
  subst e
  have kY:ns.length<=63:=pn.mp (gA.mp hn)
  rw[hmodel]
  refine(ZC (W:=⟨w,K,mg,mb,tabs_ok F hm T.builtins,λa f=>fn_get HF F.fn⟩) ns).elim λm' hr=>wpAny_call (ka (adn (aaY hX hT c3 c4 T.g T.b T.nolimit T.bmain T.builtins) hT (codeHd_of_K hX c4) hg agI (VS hW hL) hI (bf kY (by decide+kernel)) hr) ?_)
  intro r s' q
  exact q.1▸ab2 (Yf ns kY) q.2.1 q.2.2.1 q.2.2.2
set_option maxHeartbeats 8000000
set_option Elab.async true
namespace X
def tw10036835116633890814:=True
def tw10114335708791192609:=True
def tw10123783031978101358:=True
def tw10155927601396772373:=True
def tw10204268062727599454:=True
def tw10258580439971412042:=True
def tw10280567143314325819:=True
def tw1029739817297215153:=True
def tw10312869860076134833:=True
def tw10319305940143804626:=True
def tw10326209360763371740:=True
def tw10345555102269536434:=True
def tw10415795748560268886:=True
def tw10420134108073318675:=True
def tw10444551433673131920:=True
def tw10548352381665731724:=True
def tw10613319014018288434:=True
def tw10682200609117080831:=True
def tw10688843235290993038:=True
def tw1069791240174439718:=True
def tw1071963554716896705:=True
def tw1075154489448271871:=True
def tw10770107563044856634:=True
def tw10895051324531103044:=True
def tw10896644383336123477:=True
def tw1092090547132220545:=True
def tw10939720022294020308:=True
def tw10951157038551267911:=True
def tw11053081189609013793:=True
def tw11068292170058943176:=True
def tw11078713457497890:=True
def tw11081900806234257951:=True
def tw11085556124396865359:=True
def tw11245056826479153201:=True
def tw11277560555097084528:=True
def tw11285014256754374913:=True
def tw1138422927071406915:=True
def tw11384864271934390807:=True
def tw11391126792852955507:=True
def tw11394681504611454366:=True
def tw11489126724333454038:=True
def tw11521170233155341413:=True
def tw11577048916609138103:=True
def tw11582736388220624060:=True
def tw11584803045767122376:=True
def tw11680421154530659321:=True
def tw11688096258574253689:=True
def tw11747396815788689018:=True
def tw11799797089642339769:=True
def tw11803638307587581878:=True
def tw11810152771132633722:=True
def tw11840949059055747208:=True
def tw11845081499733367454:=True
def tw11879871915297439435:=True
def tw11912572740585316745:=True
def tw11918480656573845016:=True
def tw1191907699900362664:=True
def tw11922460019470735964:=True
def tw11939249034746411160:=True
def tw12023872663686559334:=True
def tw12026919419366128181:=True
def tw12053910374535080941:=True
def tw12083606896499242287:=True
def tw12087541272756257547:=True
def tw1211600541194743961:=True
def tw12136699731937667673:=True
def tw12149143032699341510:=True
def tw12248334682520508036:=True
def tw12258046734553681320:=True
def tw12269427614276095584:=True
def tw12304672530676913460:=True
def tw12377828774149256307:=True
def tw12382787603291471551:=True
def tw12459839608726241310:=True
def tw12481965577439877168:=True
def tw12528771818564387881:=True
def tw12539138535754632470:=True
def tw12540724698932790404:=True
def tw12547574037930385882:=True
def tw12561226315587940558:=True
def tw12677859995214425582:=True
def tw1269235216410558776:=True
def tw12717944930161028195:=True
def tw12777840735555206570:=True
def tw12792853984484045752:=True
def tw12814665370581437005:=True
def tw12826476232801504579:=True
def tw12889657855868438739:=True
def tw12973516674892202108:=True
def tw12978934114671945080:=True
def tw12988292849134238315:=True
def tw13179936131017846627:=True
def tw13261520544414271054:=True
def tw13262914639554229123:=True
def tw13282077072563170686:=True
def tw13288768329473635926:=True
def tw13294508473413696110:=True
def tw13303046447646138980:=True
def tw13380697069787530077:=True
def tw1340108244153412161:=True
def tw13460202996001718119:=True
def tw13585636237734481578:=True
def tw13612334932666515771:=True
def tw13612588423612712328:=True
def tw13718997213608563046:=True
def tw13748753808887311232:=True
def tw138364578794356774:=True
def tw13852530957316755904:=True
def tw13901780492647982691:=True
def tw13919919654957196526:=True
def tw13943615869880837177:=True
def tw13951666168393586854:=True
def tw13953901976097357628:=True
def tw14000012172120771539:=True
def tw1407035589029585384:=True
def tw14079487646753323945:=True
def tw14157558802435677844:=True
def tw14166366834960235117:=True
def tw14168203023808385800:=True
def tw14174367290447187526:=True
def tw14240680326528975323:=True
def tw14248186491344734882:=True
def tw14252512404868546474:=True
def tw14256144272279941918:=True
def tw14287961509523126164:=True
def tw14299714348264122635:=True
def tw14334378489741808590:=True
def tw14360175433882975695:=True
def tw14378133983977066587:=True
def tw14426027794117996326:=True
def tw14452068202931081127:=True
def tw14522059148322537351:=True
def tw14562863409560515788:=True
def tw14612911157623285501:=True
def tw14665197895542761569:=True
def tw14707946973210606853:=True
def tw14714694295323656114:=True
def tw14762610698787631824:=True
def tw14765960505493968436:=True
def tw14767735496408351957:=True
def tw14782440973517319169:=True
def tw14791336998692466733:=True
def tw14797290306700033491:=True
def tw14880334301646452990:=True
def tw14880731513051155959:=True
def tw14928233892095282892:=True
def tw14950378728588857928:=True
def tw14995485612969326906:=True
def tw1499933541685128870:=True
def tw15000919754990616925:=True
def tw15042370459437072102:=True
def tw15048121442911055316:=True
def tw15113685723905088804:=True
def tw15125833977868517129:=True
def tw15158977193206299858:=True
def tw15172817495588067742:=True
def tw15173885558828718902:=True
def tw15177407425550788394:=True
def tw15220581857806823851:=True
def tw15266957208596625622:=True
def tw15304436067887115354:=True
def tw15316672452249726900:=True
def tw15379364564067956436:=True
def tw15415078467784455356:=True
def tw15464824738149238224:=True
def tw15472740739025597472:=True
def tw15532136466169606333:=True
def tw15694032613710904000:=True
def tw15775313699551717555:=True
def tw15777137585188072123:=True
def tw15790196003895842475:=True
def tw15808863445473174209:=True
def tw15833662388229063124:=True
def tw15837058910124630556:=True
def tw15862028290089640623:=True
def tw15887470058813488392:=True
def tw15891821775779568694:=True
def tw15904051057234849783:=True
def tw15947478476425963687:=True
def tw15996898818117813807:=True
def tw16002155981644912277:=True
def tw16162980444515173908:=True
def tw1623850466617085995:=True
def tw16258785955110171955:=True
def tw16275367203278863324:=True
def tw16279869245211293408:=True
def tw16292544333806180465:=True
def tw16295836763674754768:=True
def tw16338683217920539678:=True
def tw16369121577936679605:=True
def tw1637978627436297335:=True
def tw16402387172003745138:=True
def tw16456120723133166172:=True
def tw16473047387919534289:=True
def tw16482760969782681109:=True
def tw16510468589982010944:=True
def tw16568493980376777771:=True
def tw16634584968994723289:=True
def tw16711199105532505286:=True
def tw16766655104471817287:=True
def tw16768104026946613537:=True
def tw16776438932807127073:=True
def tw16792233728284191780:=True
def tw16817941334268058807:=True
def tw16825856713101563103:=True
def tw1683545871344014370:=True
def tw16869460600911504731:=True
def tw169144519841319764:=True
def tw16996420322393037616:=True
def tw17129723879062446014:=True
def tw17154329587869820569:=True
def tw17182143861902942900:=True
def tw17191413219814962486:=True
def tw17210422591670923225:=True
def tw17270967478592844061:=True
def tw17333297186646960167:=True
def tw17342790854791901749:=True
def tw17383170078390997138:=True
def tw17509762829521657564:=True
def tw17549543979812492293:=True
def tw1758503592476345254:=True
def tw17620094333014697164:=True
def tw17647116302258417345:=True
def tw17692682106087902361:=True
def tw17749303205581176487:=True
def tw1776889199175922684:=True
def tw17833324000518864689:=True
def tw17848969128147992950:=True
def tw17872043267224975111:=True
def tw17902138361269780394:=True
def tw17911564349723111254:=True
def tw17941989475516392433:=True
def tw17943684967851089649:=True
def tw17945340312995195149:=True
def tw17959739062220706217:=True
def tw17960118923567568290:=True
def tw179771710619952371:=True
def tw17977299165890495753:=True
def tw18029729216530008442:=True
def tw18045720016571863378:=True
def tw18048063665550785985:=True
def tw18076559451813423049:=True
def tw18116306960810592846:=True
def tw18145544551728140259:=True
def tw18227201486979222766:=True
def tw18311236304604876696:=True
def tw18319142661730630907:=True
def tw18331438838471858351:=True
def tw18339659965147211606:=True
def tw18360402580731273102:=True
def tw18362669630248234093:=True
def tw18376027473926954338:=True
def tw18412030670496779449:=True
def tw1981192048672761331:=True
def tw1983469436899852935:=True
def tw2057257395097442593:=True
def tw2068479324402378455:=True
def tw2127650138926449055:=True
def tw2247505671566072866:=True
def tw2273520880447597569:=True
def tw2277426337339194392:=True
def tw2323150018379818003:=True
def tw2386980436422980316:=True
def tw2434251301962037269:=True
def tw2477183595106328546:=True
def tw2480371841006120665:=True
def tw24810972108032070:=True
def tw2484908793248920012:=True
def tw2532730868734507930:=True
def tw2556536804963385396:=True
def tw260003071713561475:=True
def tw2620450913556966915:=True
def tw2639500797279104738:=True
def tw2646421756852209949:=True
def tw2652154238690813100:=True
def tw2655221754841805504:=True
def tw2674264413499924329:=True
def tw2872819514874648847:=True
def tw2947759428349913477:=True
def tw295308033437723518:=True
def tw2975681507428472854:=True
def tw3034417136253007796:=True
def tw3040925485208438906:=True
def tw3170825111071609024:=True
def tw3235361999861777235:=True
def tw3252166495817136282:=True
def tw3255139000487024898:=True
def tw3305373804614611703:=True
def tw3383251880651505811:=True
def tw3394968581401681124:=True
def tw3443406607819920365:=True
def tw345504385177756202:=True
def tw3460097100617677358:=True
def tw3481027183555201762:=True
def tw3550207525035906223:=True
def tw3603316962845338919:=True
def tw366119300081975972:=True
def tw3688425211345094260:=True
def tw3723018337464228138:=True
def tw3814969282282694007:=True
def tw3865586343334422809:=True
def tw3899126634685473756:=True
def tw3993715603023524407:=True
def tw4037857872952377398:=True
def tw4042957725025001779:=True
def tw4055473535971164239:=True
def tw4087446687408616251:=True
def tw4094450964026223220:=True
def tw4120575608492018986:=True
def tw414545155999194235:=True
def tw4148403300619102129:=True
def tw418300716712910740:=True
def tw4224920875611049606:=True
def tw4239818077389401432:=True
def tw4242944747826377928:=True
def tw4308493021997430729:=True
def tw4340656416676967818:=True
def tw4377982425423402132:=True
def tw4453683606616215088:=True
def tw4468430431523858634:=True
def tw4474860732541833706:=True
def tw4502868568907333073:=True
def tw4552170645806071483:=True
def tw4559024223405011597:=True
def tw4583698726364029850:=True
def tw4587805559098644854:=True
def tw4591610062354082485:=True
def tw4608468840102086789:=True
def tw4628720128880412455:=True
def tw4634465913056614851:=True
def tw4678093237827996004:=True
def tw4680221857198581737:=True
def tw4692594210318249552:=True
def tw4694626039057989541:=True
def tw4697559638372092354:=True
def tw4697638207607887036:=True
def tw4724332359347275066:=True
def tw4825215276058814059:=True
def tw4834626644173023988:=True
def tw4906604828389232171:=True
def tw4960926762391688293:=True
def tw5025588514212322968:=True
def tw5064593617843619931:=True
def tw5191532653762409057:=True
def tw5303366772761776915:=True
def tw5312057666327589740:=True
def tw5334185708483609134:=True
def tw5341320820567248088:=True
def tw5397973660824563912:=True
def tw5484970534995623953:=True
def tw5487202274894796573:=True
def tw5556196730326756696:=True
def tw5559910955664783708:=True
def tw5578799108536217042:=True
def tw5618378628202858537:=True
def tw5669002721762265445:=True
def tw5689137530969981072:=True
def tw569127635208468241:=True
def tw5698975417520101172:=True
def tw5711577722486663019:=True
def tw5730606999876370172:=True
def tw5776883909019753549:=True
def tw5781369822077802059:=True
def tw5797763355442774649:=True
def tw5851192972790342212:=True
def tw5854167670543682271:=True
def tw5858180653993114104:=True
def tw5884338937647298217:=True
def tw5917523712205642820:=True
def tw5918412921540577722:=True
def tw5959340289853745077:=True
def tw6041766615367818901:=True
def tw6226168187065752249:=True
def tw6245178534751879330:=True
def tw6262546934019671301:=True
def tw6280144826466596082:=True
def tw6290306490620547656:=True
def tw640222182443706648:=True
def tw6415821040901812316:=True
def tw6439364609994616488:=True
def tw6453087414237735858:=True
def tw6481343077798772422:=True
def tw6518937853100605131:=True
def tw6519189726035084543:=True
def tw6572913379229588593:=True
def tw6589208355441282164:=True
def tw660760413251080118:=True
def tw6615435675470840988:=True
def tw6633272251527983603:=True
def tw6687999649195064186:=True
def tw6698739193843256856:=True
def tw6700055694453539273:=True
def tw6721363425693953575:=True
def tw6727882848835100957:=True
def tw6728618711941471139:=True
def tw6741772512638594837:=True
def tw6747599763796140115:=True
def tw6784177884940387994:=True
def tw6820569540889811099:=True
def tw6840704059094778312:=True
def tw6850170748588930353:=True
def tw6857848732565947109:=True
def tw6893135173598376037:=True
def tw6944884104518478496:=True
def tw6946073800949487731:=True
def tw703199587578889607:=True
def tw7109136850907758481:=True
def tw7128341243169760269:=True
def tw7162405868117396483:=True
def tw7213202696140400510:=True
def tw7248726743883494513:=True
def tw7263607750715364308:=True
def tw7303952827861889379:=True
def tw7327866730238664240:=True
def tw7390350244458595350:=True
def tw7409930607370472668:=True
def tw7413825256531674017:=True
def tw742045299382550892:=True
def tw7454311253356857338:=True
def tw7460826325245315606:=True
def tw7474858553877390140:=True
def tw7504244196287739939:=True
def tw7524706459749041325:=True
def tw7549399439778431341:=True
def tw7560214171681027474:=True
def tw7575497007772701928:=True
def tw7582176592239493458:=True
def tw7583283443302554409:=True
def tw7661406387862995616:=True
def tw7767696202512598389:=True
def tw777355997204200580:=True
def tw7777198359362108455:=True
def tw77786722795466391:=True
def tw7793310436423210636:=True
def tw78143245359043380:=True
def tw7829241143021081011:=True
def tw7918670122540132632:=True
def tw7937595129108524408:=True
def tw7961226709032919150:=True
def tw7981270727372592689:=True
def tw79949994448532967:=True
def tw7995441697062450348:=True
def tw8006879259124124592:=True
def tw8017149354177244623:=True
def tw8038752573743281296:=True
def tw8138050860641259445:=True
def tw8151320321990978495:=True
def tw8269547140274193485:=True
def tw8286709033192911632:=True
def tw8336594686429967761:=True
def tw8368394019409192741:=True
def tw8369972080843655881:=True
def tw8401123313766526375:=True
def tw8451029917128796143:=True
def tw8553856451695323595:=True
def tw8577189094643261170:=True
def tw861263872712073978:=True
def tw8632108778217967925:=True
def tw8694450216163014336:=True
def tw8708839634909411484:=True
def tw8749872597867988329:=True
def tw8790652648125570219:=True
def tw8796858772906693801:=True
def tw8938521765319962190:=True
def tw8938597289122345546:=True
def tw8952137760668473851:=True
def tw8966540144201769366:=True
def tw8970414813474867568:=True
def tw9008753282406518837:=True
def tw9149485126744263186:=True
def tw9149658703060425448:=True
def tw9161769439386233912:=True
def tw9207364088413154478:=True
def tw9255673423378009137:=True
def tw9351212424655077292:=True
def tw9359485736827405581:=True
def tw9393382763999208503:=True
def tw9423498334998688752:=True
def tw9537638503310327189:=True
def tw9594870266114736110:=True
def tw9705633703180463127:=True
def tw9809940056158787353:=True
def tw9848910408391390029:=True
def tw9858920556869128236:=True
def tw9862517143303228728:=True
def tw9871073500550173427:=True
def tw9902516577932940445:=True
def tw9922990740616892340:=True
def tw9941249548120357741:=True
def tw9953581588330871030:=True
def tw9970815196231006528:=True
def tw9990698239456330790:=True
end X
theorem X:RV.Holds:=by
 w_on;o_law;k_head;(case hw=>w_witness2)
 intro w ahZ d4 mg mb G Y fa o pm cd doc dV kV ho mN HB hD IG hg args vals as hpre hlay hrd hwl hlo
 have T:=G.T
 have hT:d4.heap.get? dY=U (mw #[]):=Y.2 112 (by decide)
 have hX:=Y.1
 clear G Y ho mN HB hD
 wrow_args hpre hlay hrd hwl hlo
 rename_i ns _ _ _ _ _ _ _ l vs _ hL _ hW _ hI _ hn _
 refine abU ⟨?_,⟨by kernel_rfl,by kernel_rfl,by kernel_rfl,trivial⟩,by kernel_rfl,by kernel_rfl⟩ rfl T hX hT IG hg hW hL hI hn
 ·refine cq 2 ⋯ (by(repeat intro _);kernel_rfl) ?_
  refine cq 1 ⋯ (by(repeat intro _);kernel_rfl) ?_
  refine cq 1 ⋯ (by(repeat intro _);kernel_rfl) ?_
  refine cq 1 ⋯ (by(repeat intro _);kernel_rfl) ?_
  refine cq 2 ⋯ (by(repeat intro _);kernel_rfl) ?_
  refine cq 3 ⋯ (by(repeat intro _);kernel_rfl) ?_
  refine cq 3 ⋯ (by(repeat intro _);kernel_rfl) ?_
  refine cq 2 ⋯ (by(repeat intro _);kernel_rfl) ?_
  refine cq 1 ⋯ (by(repeat intro _);kernel_rfl) ?_
  refine o9 2 ⋯ (by(repeat intro _);kernel_rfl) (by(repeat intro _);kernel_rfl) ?_
  refine cq 1 ⋯ (by(repeat intro _);kernel_rfl) ?_
  refine cq 3 ⋯ (by(repeat intro _);kernel_rfl) ?_
  refine cq 2 ⋯ (by(repeat intro _);kernel_rfl) ?_
  refine cq 3 ⋯ (by(repeat intro _);kernel_rfl) ?_
  refine cq 2 ⋯ (by(repeat intro _);kernel_rfl) ?_
  refine o9 2 ⋯ (by(repeat intro _);kernel_rfl) (by(repeat intro _);kernel_rfl) ?_
  refine o9 3 ⋯ (by(repeat intro _);kernel_rfl) (by(repeat intro _);kernel_rfl) ?_
  refine cq 3 ⋯ (by(repeat intro _);kernel_rfl) ?_
  refine o9 3 ⋯ (by(repeat intro _);kernel_rfl) (by(repeat intro _);kernel_rfl) ?_
  refine o9 3 ⋯ (by(repeat intro _);kernel_rfl) (by(repeat intro _);kernel_rfl) ?_
  refine cq 2 ⋯ (by(repeat intro _);kernel_rfl) ?_
  refine o9 3 ⋯ (by(repeat intro _);kernel_rfl) (by(repeat intro _);kernel_rfl) ?_
  refine o9 3 ⋯ (by(repeat intro _);kernel_rfl) (by(repeat intro _);kernel_rfl) ?_
  refine cq 2 ⋯ (by(repeat intro _);kernel_rfl) ?_
  refine cq 1 ⋯ (by(repeat intro _);kernel_rfl) ?_
  refine cq 4 ⋯ (by(repeat intro _);kernel_rfl) ?_
  refine o9 4 ⋯ (by(repeat intro _);kernel_rfl) (by(repeat intro _);kernel_rfl) ?_
  refine cq 5 ⋯ (by(repeat intro _);kernel_rfl) ?_
  refine cq 3 ⋯ (by(repeat intro _);kernel_rfl) ?_
  refine cq 2 ⋯ (by(repeat intro _);kernel_rfl) ?_
  refine cq 2 ⋯ (by(repeat intro _);kernel_rfl) ?_
  refine cq 2 ⋯ (by(repeat intro _);kernel_rfl) ?_
  refine cq 2 ⋯ (by(repeat intro _);kernel_rfl) ?_
  refine o9 2 ⋯ (by(repeat intro _);kernel_rfl) (by(repeat intro _);kernel_rfl) ?_
  refine o9 2 ⋯ (by(repeat intro _);kernel_rfl) (by(repeat intro _);kernel_rfl) ?_
  refine cq 1 ⋯ (by(repeat intro _);kernel_rfl) ?_
  refine cq 2 ⋯ (by(repeat intro _);kernel_rfl) ?_
  refine cq 2 ⋯ (by(repeat intro _);kernel_rfl) ?_
  refine cq 2 ⋯ (by(repeat intro _);kernel_rfl) ?_
  refine cq 4 ⋯ (by(repeat intro _);kernel_rfl) ?_
  refine cq 1 ⋯ (by(repeat intro _);kernel_rfl) ?_
  refine cq 1 ⋯ (by(repeat intro _);kernel_rfl) ?_
  refine cq 0 ⋯ (by(repeat intro _);kernel_rfl) ?_
  refine cq 1 ⋯ (by(repeat intro _);kernel_rfl) ?_
  refine cq 5 ⋯ (by(repeat intro _);kernel_rfl) ?_
  refine cq 3 ⋯ (by(repeat intro _);kernel_rfl) ?_
  refine cq 2 ⋯ (by(repeat intro _);kernel_rfl) ?_
  refine cq 1 ⋯ (by(repeat intro _);kernel_rfl) ?_
  refine cq 2 ⋯ (by(repeat intro _);kernel_rfl) ?_
  refine cq 3 ⋯ (by(repeat intro _);kernel_rfl) ?_
  refine cq 1 ⋯ (by(repeat intro _);kernel_rfl) ?_
  refine cq 3 ⋯ (by(repeat intro _);kernel_rfl) ?_
  refine cq 4 ⋯ (by(repeat intro _);kernel_rfl) ?_
  refine cq 3 ⋯ (by(repeat intro _);kernel_rfl) ?_
  refine cq 2 ⋯ (by(repeat intro _);kernel_rfl) ?_
  refine cq 2 ⋯ (by(repeat intro _);kernel_rfl) ?_
  refine cq 4 ⋯ (by(repeat intro _);kernel_rfl) ?_
  refine cq 4 ⋯ (by(repeat intro _);kernel_rfl) ?_
  refine cq 4 ⋯ (by(repeat intro _);kernel_rfl) ?_
  refine cq 1 ⋯ (by(repeat intro _);kernel_rfl) ?_
  trivial
end Mine
theorem PySem.Challenge.cw_nt0057_01_holds : PySem.Challenge.rw_nt0057_01.Holds :=
 Mine.X
