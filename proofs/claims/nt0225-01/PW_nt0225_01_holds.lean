import PyProof.Rows.All
import Wide.All
import OpenK.AllK
import Wide.FinOn
import KE.KDictOf
import PyProof.AttrMissHeap
import Lean
import PySem.Challenge.RW_nt0225_01
open Array renaming getElem?_toList→xF,getElem?_eq_some_iff→zf,mem_toList_iff→z9,length_toList→acL,find?_toList→acP,toList_eraseIdxIfInBounds→adX,mk→afQ,getElem?_eq_getElem→ahw,toList_append→ais,toList_push→aiO,toList_inj→ajI,any_toList→ajJ
open Bool renaming true→hY,false→np,and_eq_true→qz,false_ne_true→qB,and_eq_true_iff→q8,not_eq_true'→xc,and_true→xn,and_false→zq,or_eq_true→Zi,eq_iff_iff→Zj,noConfusion→Zz,not_eq_false'→ZZ,eq_false_iff→aaD,false_or→abn,and_assoc→acB,or_eq_true_iff→acN,or_false→acO,true_and→ahI,or_eq_false_iff→air
open Classical renaming byCases→zQ,propDecidable→Zd
open Eq renaming trans→aiN
open ForInStep renaming yield→zB
open Int renaming le_refl→xg,le_of_lt→xh,natCast_nonneg→xE,le_trans→xI,ofNat_lt→xV,lt_of_le_of_lt→zl,natCast_pos→zt,toNat_le_toNat→zD,fmod_nonneg_of_pos→Zt,not_lt→ZC,toNat_le→ZV,lt_trans→ZW,fmod_lt_of_pos→Z5,self_le_toNat→abo,le_add_one→acI,le_of_lt_add_one→acK,add_sub_cancel→acU,ofNat_le→aeh,add_comm→aek,toNat_natCast→aeA,max_eq_right→afe,sub_lt_self→agg,min_eq_left→agh,not_le→ahz,eq_ofNat_of_zero_le→ahQ,toNat_lt→ah5,lt_of_lt_of_le→ajE,ofNat→aj6,sub_le_self→alY,add_le_add→amh
open Int.ofNat renaming inj→Zo
open Lean renaming RArray→aaw
open Lean.RArray renaming branch→zY
open List renaming length_append→qs,mem_append_left→qx,mem_singleton→qD,mem_cons→qG,length_map→qI,mem_append_right→qJ,append_nil→qO,append_assoc→qR,all_eq_true→qV,not_mem_nil→qX,mem_append→qY,eq_nil_of_length_eq_zero→wy,contains_iff_mem→xd,getElem?_eq_getElem→xe,mem_map→xf,nodup_cons→xi,map_append→xj,nodup_append→xp,find?_cons_of_neg→xv,getElem?_map→xx,getD_eq_getElem?_getD→xy,lookup_cons→xz,find?_cons_of_pos→xA,mem_filterMap→xD,map_map→xP,cons_ne_nil→xR,mem_of_getElem?→xX,mem_map_of_mem→zg,nil_sublist→zi,sublist_append_left→zm,mem_of_find?_eq_some→zI,range→zL,map_reverse→zP,reverse_cons→z0,sublist_append_right→Za,map_eq_nil_iff→Zc,nodup_nil→Zn,length_range→Zp,perm_append_comm→Zx,filterMap_append→Zy,mem_of_mem_drop→ZD,all_append→ZJ,mem_range→ZY,getElem?_eq_some_iff→Z7,length→aad,cons_eq_cons→aaB,any_eq_false→aaC,take_length→abz,length_drop→abY,mem_filter→acs,find?_cons→act,getElem?_eq_none→acw,dropLast_eq_take→acx,map_id→acA,length_reverse→acM,map_inj_left→adU,mem_reverse→aeV,isEmpty_iff→aeW,append_cons→aeX,length_zip→afh,dropLast_concat_getLast→afk,getElem?_concat_length→ahq,mem_or_eq_of_mem_set→ahD,drop_eq_getElem_cons→ahE,map_cons→ahH,filterMap_cons_some→ahJ,filter_cons_of_pos→ahL,length_filter_le→aia,rec→aif,range'→aig,reverse_append→aiG,map_congr_left→aiI,getElem?_range→aiK,take_add_one→ajz,length_cons→ajT,getElem_map→ajU,drop_length→ajV,cons_append→ajW,of_mem_zip→aka,length_set→akb,length_nil→akc,find?_some→akd,take_left→alW,find?_map→alX,take_nil→amf,drop_nil→amg,map_nil→amv
open List.Sublist renaming refl→xb,append→Zs,trans→ahv
open List.cons renaming inj→afd
open Nat renaming le_trans→qg,lt_of_le_of_lt→qi,le_add_right→qj,le_refl→qm,add_le_add_left→qn,le_add_left→qr,add_le_add_right→qF,le_of_eq→qL,add_le_add→qM,succ_le_succ→qN,zero_le→qP,add_assoc→qT,lt_of_lt_of_le→q9,zero_add→vu,add_comm→xa,le_succ_of_le→xl,le_of_ble_eq_true→xo,lt_irrefl→xr,le_of_lt→xB,le_max_left→xK,le_max_right→xL,le_succ→xO,add_right_comm→xQ,lt_succ_self→xS,lt_succ_of_lt→xW,succ→xZ,mul_le_mul_left→x0,lt_of_succ_lt→zb,max_le→zj,not_succ_le_zero→zr,le_of_succ_le→zs,ne_of_lt→zy,beq→zF,blt→zO,ble→zR,succ_pos→zT,lt_trans→zU,le_of_succ_le_succ→zV,lt_succ_of_le→z8,le_of_not_lt→FB,add_lt_add_left→Zh,succ_add_eq_add_succ→Zk,min_self→Zr,eq_of_beq_eq_true→ZA,mul_add→ZE,mul_le_mul_right→ZG,add_add_add_comm→ZH,le_mul_of_pos_left→acu,one_pos→acH,zero_mul→aed,succ_ne_zero→afa,sub_le→ahy,ne_of_gt→ah2,add_zero→ah4,eq_zero_of_not_pos→ah7,ble_eq_true_of_le→aip,one_mul→aiB,add_lt_add_right→aiE,succ_le_of_lt→ajQ,le_of_lt_succ→ajR,succ_ne_self→aj7
open Nat.Internal.Linear renaming Context→ahP
open Nat.Internal.Linear.ExprCnstr renaming mk→aax,eq_true_of_isValid→ac9
open Nat.succ renaming inj→zH
open Ne renaming symm→aeR
open Option renaming some→dA,none→ft,map_eq_some_iff→qS,map→q0,isNone_iff_eq_none→xm,isSome_iff_exists→xq,bind_eq_some_iff→xH,none→xM,map_eq_none_iff→Zl,some_ne_none→ZF,map_map→ZS,isSome_map→acR
open Option.some renaming inj→qA
open Prod renaming fst→akg,ext→akh
open PyProof.Rows renaming methDef→Z9,tail_any→afx,Subscript_→ah0,subscriptTail→aiy
open PyProof.Rows.litOf? renaming match_1→ajM
open PySem renaming Value→qo,Expr→qu,Shared→qy,wpAny_bind→qE,wpAny→qU,wpAny_pure→qW,model→vl,wpAny_mono→wx,Around→xu,Stmt→xC,starEach→xY,Thread→zd,mainGlobals→zh,DictEntry→zu,wpAny_Call_ofName→zv,wpAny_items_nil→zA,Scope→zE,wpAny_holding→zG,Addr→zM,treeTable→zS,wpAny_field→zW,builtinsNs→zZ,NameKind→Ze,fastBuiltinOwn→Zf,importedModules→Zm,World→Zu,cLine→ZI,backTo→ZK,wpAny_items_cons→ZM,Program→ZO,Fin→ZP,wpAny_standAt→ZR,compEnvC→ZT,wpAny_execs_nil→Z3,letOwnedTupleGo→Z4,swapsWith→aaE,ClassData→aaG,call_meets→aby,codeAny→acn,subscripted→aco,getMethod_builtin→acp,wpAny_callSpecial?_slot→acy,clipAt→acD,intKind→acE,wpAny_call→acF,fastLookup→acG,spliced→adl,CmpOp→aeN,assign→ae6,wpAny_Constant_str→ae7,notedBy→afw,FuncData→afJ,wpAny_truthy_bool→afZ,wpAny_newObj_type→af2,slot_list_getitem→af8,foldedSetIterable→agc,wpAny_call_entry→ahA,strKind→ahB,wpAny_Tuple→ahG,operate→ahM,getItem→ahN,OsState→ahO,Model→ahS,pyNext→ahU,sizeLine→ahV,callEnvC→ahX,cameBackBy→ahZ,wpAny_seqItems→ah1,wpAny_UnaryOp→aiu,mem_of_lookup→aiA,wpAny_getItem_list_slice→aiD,wpAny_isSame_ref_other→aiU,wpAny_storeName_local→ajN,compPost→aj1,excClassObj→aj3,wpAny_setItem_pairs→aki,wpAny_isTrue_BoolOp→akT,KeyKind→ak2,sysModules→al7,wpAny_isSame_plain→amd,wpAny_Constant_int→ame,wpAny_pyIter_list→amq,wpAny_assign_Name→amr,wpAny_Assign_Name→ams,slot_list_setitem→amt,slot_dict_getitem→amu
open PySem.Around renaming in1_units→Zw,under_plainId→ahR
open PySem.AutoSeq1 renaming wpAny_loadPart'→aft
open PySem.Builtin.Range renaming rangeSize→adW
open PySem.Builtin.SmallTypes renaming nextOf→acz
open PySem.Builtin.SmallTypes.calledThroughType renaming match_1→acS
open PySem.Calls renaming Name_function_global→aj9
open PySem.Challenge renaming rw_nt0225_01→xk,pw_nt0225_01→amj
open PySem.F renaming slot_tuple_iterator_next→Zb,slot_list_getattribute→aci,cmp_object→acJ,slot_list_append→aeC,excRaise_ValueError→aeZ,plainAttrs_list→afg,slot_list_pop→ahC,args_tuple_iterator_next_1→ahF,entry_tuple_iterator_next→ahK,slot_tuple_eq_refl→ajG,args_list_append_2→ajH,entry_list_append→ajX,slot_list_extend→ake,entry_list_pop→ami,slot_dict_get→amy
open PySem.Heap renaming get?_push_of_some→qQ,get?_push_size→wt,lt_size→zc,size_push→Bi,get?_update_other→acq,get?_update_self→aie,SameBut→amx
open PySem.Heap.DictOf renaming new→Z6
open PySem.Heap.IsSliceOf renaming new→afp
open PySem.Heap.Ns renaming of_isNs→acd
open PySem.NameKind renaming free→xJ,cell→ZX
open PySem.Obj renaming mapSeq→Z0,mapFields→acQ,data_mapFields→acT,isFreed_of_fields→aik
open PySem.Str renaming ofString→Zq
open PySem.Value renaming ref→Bn,builtin→Zg,type→ZU,none→ace,bool→acg
open PySem.Value.ref renaming inj→acv
open PySem.Value.type renaming inj→aih
open PySem.W renaming SharedT→xw,hideAll_get→zX,callWith_of→Zv,hideAll→ZB,boot_heap→ZL,instObj→acj,hideAll_none→afY,specialIn→ahx,stepOk→ahT,of_hideAll→ahY,alive→aiL,emptyDict→aiM,findIn→aiQ,through→aiS,ownOf→ajO,WRecords→aj2,copiedNames→aj4,namesBound→amc
open PySem.W.Fast renaming sEq_iff→abp,sEq→acC
open PySem.W.WShape renaming has→ZQ,hasItems→aju
open PySem.W.isTupleDisplay renaming match_1→ait
open PySem.makes renaming match_1→ahr
open PySem.swappedStores renaming match_8→ajK,match_5→ajL
open Sum renaming inr→ad0
open _root_ renaming rfl→dq,trivial→oy,Nat→qc,Int→qd,List→qe,congrArg→qh,Option→qk,False→qp,Bool→qw,of_decide_eq_true→qC,absurd→qH,if_pos→qK,beq_self_eq_true→qZ,DecidableEq→xt,of_decide_eq_false→xG,decide_eq_false→xN,True→xT,cond→xU,decide_eq_true_eq→zw,bne_iff_ne→zJ,beq_iff_eq→zK,beq_false_of_ne→zN,decide_eq_decide→ZN,Unit→Z8,String→acr,beq_eq_false_iff_ne→ael,congrFun→ahW
set_option Elab.async false
set_option genSizeOf false
set_option genInjectivity false
set_option genCtorIdx false
set_option bootstrap.genMatcherCode false
set_option linter.all false
set_option tactic.hygienic false
set_option maxRecDepth 100000
set_option autoImplicit true
set_option relaxedAutoImplicit true
noncomputable section
namespace Mine.Internal
section
open PySem PySem.W PySem.Calls PyProof.Rows
theorem Nf:xk.row.wellSaid=hY:=by kernel_rfl
theorem Oo:xk.wellSaid=hY:=by
 unfold OpenLaw.wellSaid;rw[Nf]
 kernel_rfl
noncomputable abbrev vQ:ZO:=xk.prog
abbrev VD:=@PySem.W.Fast.tw8437177126325714943
abbrev Jd:=@PySem.W.Fast.tw11892475500146522536
abbrev VA:=@PySem.W.Fast.tw14364793385576792824
section
variable{α β:Type}
def kL(l:qe α):(qe α->β)->β:=@List.rec α (λa=>(qe α->β)->β) (λk=>k []) (λx a ih k=>ih λl=>k<|x::l) l
theorem OG(l:qe α):∀k:qe α->β,kL l k=k l:=by
 induction l with
 |nil=>exactλa=>dq
 |cons x l ih=>exactλk=>ih _
noncomputable def fN(n:qc)(k:qc->β):β:=@Nat.casesOn (λa=>β) n (k 0) λm=>k<|m+1
theorem IW(n:qc)(k:qc->β):fN n k=k n:=by cases n<;>rfl
def fA(a:Array α)(k:Array α->β):β:=@Array.casesOn α (λb=>β) a λl=>kL l λl=>k ⟨l⟩
theorem IX(a:Array α)(k:Array α->β):fA a k=k a:=a.casesOn λl=>OG l _
def fD(d:Data)(k:Data->β):β:=@Data.casesOn (λe=>β) d (k .plain) (λv=>k (.prim v)) (λxs n=>fA xs λxs=>fN n λn=>k (.seq xs n)) (λes n=>fA es λes=>fN n λn=>k (.dict es n)) (λa b c=>k (.set a b c)) (λa b=>k (.bytearray a b)) (λv=>k (.cell v)) (λf=>k (.func f))
 (λc=>@ClassData.casesOn (λe=>β) c λa b m ns q hd sn sub ab h g=>kL sub λsub=>k<|.cls ⟨a,b,m,ns,q,hd,sn,sub,ab,h,g⟩) (λvs=>fA vs λvs=>k<|.fields vs) (k .freed)
theorem afB(d:Data)(k:Data->β):fD d k=k d:=by
 cases d with
 |dict es n=>exact(IX es λes=>fN n λn=>k<|.dict es n).trans (IW n _)
 |seq es n=>exact(IX es λes=>fN n λn=>k<|.seq es n).trans (IW n _)
 |fields vs=>exact IX vs λvs=>k<|.fields vs
 |cls c=>exact OG c.subclasses λsub=>k<|.cls ⟨c.name,c.bases,c.mro,c.ns,c.qualname,c.hasDict,c.slotNames,sub,c.abstract,c.collection,c.hasDel⟩
 |_=>rfl
def fO(o:Obj)(k:Obj->β):β:=@Obj.casesOn (λe=>β) o λc d b a=>fD b λb=>fA a λa=>k ⟨c,d,b,a⟩
theorem Pj(o:Obj)(k:Obj->β):fO o k=k o:=(afB o.data λb=>fA o.slots λa=>k ⟨o.cls,o.dict,b,a⟩).trans (IX o.slots λa=>k ⟨o.cls,o.dict,o.data,a⟩)
def RM(f:Obj->Obj)(T:BT):qc->(BT->β)->β:=@BT.rec (λa=>qc->(BT->β)->β) (λa k=>k .nil) (λv l r c b i k=>@Bool.rec (λa=>β) (@Bool.rec (λa=>β) (b (i/2-1) λr=>k<|.node v l r) (c (i/2) λl=>k<|.node v l r)<|zF (i%2) 1) (fO (f v) λo=>k<|.node o l r)<|zF i 0) T
theorem RJ(v:Obj)(l r:BT)(i:qc)(f:Obj->Obj):BT.set (.node v l r) i f=@Bool.rec (λa=>BT) (@Bool.rec (λa=>BT) (.node v l (r.set (i/2-1) f)) (.node v (l.set (i/2) f) r) (zF (i%2) 1)) (.node (f v) l r) (zF i 0):=by kernel_rfl
theorem TC(v:Obj)(l r:BT)(i:qc)(o:Obj):BT.ins (.node v l r) i o=@Bool.rec (λa=>BT) (@Bool.rec (λa=>BT) (.node v l (r.ins (i/2-1) o)) (.node v (l.ins (i/2) o) r) (zF (i%2) 1)) (.node o l r) (zF i 0):=by kernel_rfl
theorem RK(f:Obj->Obj)(T:BT):∀(i:qc) (k:BT->β),RM f T i k=k (T.set i f):=by
 induction T with
 |nil=>exactλa a=>dq
 |node v l r c b=>
  intro i k;rw[RJ];show @Bool.rec (λa=>β) (@Bool.rec (λa=>β) (RM f r (i/2-1) λr=>k<|.node v l r) (RM f l (i/2) λl=>k<|.node v l r)<|zF (i%2) 1) (fO (f v) λo=>k<|.node o l r) (zF i 0)=_;cases zF i 0 with
  |true=>exact Pj _ _
  |false=>cases zF (i%2) 1 with
   |true=>exact c _ _
   |false=>exact b _ _
def TG(o:Obj)(T:BT):qc->(BT->β)->β:=@BT.rec (λa=>qc->(BT->β)->β) (λa k=>fO o λo=>k<|.node o .nil .nil) (λv l r c b i k=>@Bool.rec (λa=>β) (@Bool.rec (λa=>β) (b (i/2-1) λr=>k<|.node v l r) (c (i/2) λl=>k<|.node v l r)<|zF (i%2) 1) (fO o λo=>k<|.node o l r)<|zF i 0) T
theorem TF(o:Obj)(T:BT):∀(i:qc) (k:BT->β),TG o T i k=k (T.ins i o):=by
 induction T with
 |nil=>exactλc k=>Pj o λo=>k<|.node o .nil .nil
 |node v l r b a=>
  intro i k;rw[TC];show @Bool.rec (λc=>β) (@Bool.rec (λc=>β) (TG o r (i/2-1) λr=>k<|.node v l r) (TG o l (i/2) λl=>k<|.node v l r)<|zF (i%2) 1) (fO o λo=>k<|.node o l r) (zF i 0)=_;cases zF i 0 with
  |true=>exact Pj _ _
  |false=>cases zF (i%2) 1 with
   |true=>exact b _ _
   |false=>exact a _ _
abbrev Kt1(β:Type):=xw->zd->qk β
def Nx(K:Kt1 β)(x:qk β)(y:qk (xw×zd)):Prop:=∀r,x=dA r->∃s t,y=dA (s,t)/\K s t=dA r
variable{K:Kt1 β}
theorem NP:Nx K (K s t) (dA (s,t)):=λa h=>⟨s,t,dq,h⟩
theorem YX(h:Nx K x y):Nx K (@Bool.rec (λa=>qk β) ft x b) (@Bool.rec (λa=>qk (xw×zd)) ft y b):=by
 cases b with
 |true=>exact h
 |false=>exactλa h=>nomatch h
theorem ad4(h:Nx K x y)(h':Nx K a y'):Nx K (@Bool.rec (λc=>qk β) a x b) (@Bool.rec (λc=>qk (xw×zd)) y' y b):=by
 cases b with
 |true=>exact h
 |false=>exact h'
theorem NO(h:∀o,Nx K (x o) (y o)):Nx K (@Option.rec Obj (λa=>qk β) ft x o) (@Option.rec Obj (λa=>qk (xw×zd)) ft y o):=by
 cases o with
 |some o=>exact h o
 |none=>exactλa h=>nomatch h
variable(p:ZO)(w:Zu)(K)(s:xw)(code:Code)(pos:Pos)(stack:qe PySem.Frame)
def ldK(a:qc)(k:Obj->Sem ZP):qk β:=@Bool.rec (λb=>qk β) ft (@Option.rec Obj (λb=>qk β) ft (λo=>@Option.rec Obj (λb=>qk β) ft (λc=>K s ⟨k c,code,pos,stack⟩)<|aiL o)<|s.tree.get a)<|zO a s.n
def upK(a:qc)(f:Obj->Obj)(k:Z8->Sem ZP):qk β:=@Bool.rec (λb=>qk β) ft (@Option.rec Obj (λb=>qk β) ft (λo=>@Option.rec Obj (λb=>qk β) ft (λb=>RM f s.tree a λT=>K ⟨T,s.n,s.life,s.gens,s.drawn,s.toks,s.os⟩ ⟨k (),code,pos,stack⟩)<|aiL o)<|s.tree.get a)<|zO a s.n
def alK(o:Obj)(k:zM->Sem ZP):qk β:=TG o s.tree s.n λa=>@Bool.rec (λc=>qk β) ft (fN (s.n+1) λb=>K ⟨a,b,s.life,s.gens,s.drawn,s.toks,s.os⟩ ⟨k s.n,code,pos,stack⟩) (a.get s.n).isSome
def laK(a:qc)(k:qk Obj->Sem ZP):qk β:=@Bool.rec (λb=>qk β) (K s ⟨k ft,code,pos,stack⟩) (@Option.rec Obj (λb=>qk β) ft (λo=>K s ⟨k<|aiL o,code,pos,stack⟩)<|s.tree.get a)<|zO a s.n
def otK(t:zd):qk β:=@Step.rec (λa=>qk β) (λs' t'=>fN s'.toks λtoks=>K ⟨s.tree,s.n,s.life,s'.gens,s'.drawn,toks,s'.os⟩ t') (λa a=>ft)<|VD (Jd VA) p w ⟨{},s.gens,s.drawn,s.toks,s.os⟩ t
noncomputable def hpB(c:Sem ZP):qw:=@Sem.casesOn ZP (λa=>qw) c (λa=>np) (λa=>np) (λa=>np) (λa=>np) (λa a=>np) (λa a=>np) (λa a a=>hY) (λa a a a=>hY) (λa a=>hY) (λa a=>hY) (λa a=>np) (λa a=>np) (λa=>np) (λa=>np) (λa a a=>np) (λa a a=>np) (λa a a a a=>np) (λa a=>np) (λa a=>np) (λa a=>np) (λa a a a=>np) (λa a a a=>np) (λa=>np) (λa a=>np) (λa=>np) λa a a a a=>np
def hpK(c:Sem ZP):qk β:=@Sem.casesOn ZP (λb=>qk β) c (λb=>ft) (λb=>ft) (λb=>ft) (λb=>ft) (λb b=>ft) (λb b=>ft) (λa b k=>ldK K s code pos stack a k) (λa b f k=>upK K s code pos stack a f k) (λo k=>alK K s code pos stack o k) (λa k=>laK K s code pos stack a k) (λb b=>ft) (λb b=>ft) (λb=>ft) (λb=>ft) (λb b b=>ft) (λb b b=>ft) (λb b b b b=>ft) (λb b=>ft) (λb b=>ft) (λb b=>ft) (λb b b b=>ft) (λb b b b=>ft) (λb=>ft) (λb b=>ft) (λb=>ft) λb b b b b=>ft
def DF(t:zd):qk β:=@Bool.rec (λa=>qk β) (otK K p w s t) (hpK K s t.code t.pos t.stack t.cur)<|hpB t.cur
theorem ad3(e:y=@Step.rec (λa=>qk (xw×zd)) (λs' t'=>dA (⟨s.tree,s.n,s.life,s'.gens,s'.drawn,s'.toks,s'.os⟩,t')) (λa a=>ft) (step (denote zS) p w ⟨{},s.gens,s.drawn,s.toks,s.os⟩ t)):Nx K (otK K p w s t) y:=by
 rw[e];unfold otK;rw[show VD (Jd VA) p w=step (denote zS) p w by rw[PySem.W.Fast.te8437177126325714943,PySem.W.Fast.te11892475500146522536,PySem.W.Fast.te14364793385576792824]]
 cases step (denote zS) p w ⟨{},s.gens,s.drawn,s.toks,s.os⟩ t with
 |go s' t'=>exactλr h=>⟨_,_,dq,(IW _ _).symm.trans h⟩
 |halt _ _=>exactλa h=>nomatch h
theorem YW(h:hpB t.cur=np)(e:y=@Step.rec (λa=>qk (xw×zd)) (λs' t'=>dA (⟨s.tree,s.n,s.life,s'.gens,s'.drawn,s'.toks,s'.os⟩,t')) (λa a=>ft) (step (denote zS) p w ⟨{},s.gens,s.drawn,s.toks,s.os⟩ t)):Nx K (DF K p w s t) y:=by
 unfold DF;rw[h];exact ad3 K p w s e
theorem Ia(e:y=y')(h:Nx K x y'):Nx K x y:=e▸h
theorem SA(t:zd):Nx K (DF K p w s t) (stepT (denote zS) p w s t):=by
 obtain⟨T,n,life,gens,drawn,toks,os⟩:=s;obtain⟨cur,code,pos,stack⟩:=t;cases cur with
 |load a q k=>exact Ia K (y':=@Bool.rec (λb=>qk<|xw×zd) ft (@Option.rec Obj (λb=>qk<|xw×zd) ft (λo=>@Option.rec Obj (λb=>qk<|xw×zd) ft (λc=>dA (⟨T,n,life,gens,drawn,toks,os⟩,⟨k c,code,pos,stack⟩))<|aiL o)<|T.get a)<|zO a n) (by kernel_rfl)<|YX (NO λo=>NO λc=>NP)
 |update a q f k=>exact Ia K (y':=@Bool.rec (λb=>qk<|xw×zd) ft (@Option.rec Obj (λb=>qk<|xw×zd) ft (λo=>@Option.rec Obj (λb=>qk<|xw×zd) ft (λb=>dA (⟨T.set a f,n,life,gens,drawn,toks,os⟩,⟨k (),code,pos,stack⟩))<|aiL o)<|T.get a)<|zO a n) (by kernel_rfl)<|YX (NO λo=>NO λc=>λr h=>⟨_,_,dq,(RK f T a λT=>K ⟨T,n,life,gens,drawn,toks,os⟩ ⟨k (),code,pos,stack⟩).symm.trans h⟩)
 |alloc o k=>exact Ia K (y':=@Bool.rec (λb=>qk<|xw×zd) ft (dA (⟨T.ins n o,n+1,life,gens,drawn,toks,os⟩,⟨k n,code,pos,stack⟩)) ((T.ins n o).get n).isSome) (by kernel_rfl) λr h=>YX (K:=K) (x:=fN (n+1) λd=>K ⟨T.ins n o,d,life,gens,drawn,toks,os⟩ ⟨k n,code,pos,stack⟩) (λr h=>⟨_,_,dq,(IW (n+1) _).symm.trans h⟩) r<|(TF o T n λe=>@Bool.rec (λb=>qk β) ft (fN (n+1) λd=>K ⟨e,d,life,gens,drawn,toks,os⟩ ⟨k n,code,pos,stack⟩) (e.get n).isSome).symm.trans h
 |loadIfAlive a k=>exact Ia K (y':=@Bool.rec (λb=>qk<|xw×zd) (dA (⟨T,n,life,gens,drawn,toks,os⟩,⟨k ft,code,pos,stack⟩)) (@Option.rec Obj (λb=>qk<|xw×zd) ft (λo=>dA (⟨T,n,life,gens,drawn,toks,os⟩,⟨k<|aiL o,code,pos,stack⟩))<|T.get a)<|zO a n) (by kernel_rfl)<|ad4 (NO λo=>NP) NP
 |_=>exact YW K p w _ dq (by kernel_rfl)
end
def JS(p:ZO)(w:Zu)(b:qc)(N:qc):xw->zd->qk xw:=@Nat.rec (λa=>xw->zd->qk xw) (λa a=>ft) (λa ih s t=>@Bool.rec (λa=>qk xw) (@Bool.rec (λa=>qk xw) ft (DF ih p w s t)<|ahT b ft t) (dA s)<|aiS t) N
theorem JR(N:qc):∀{s:xw} {t:zd},JS p w a N s t=dA s'->topRun zS p w a ft N s.abs t=dA s'.abs:=by
 induction N with
 |zero=>exactλh=>nomatch h
 |succ N ih=>
  intro s t h;have h:@Bool.rec (λb=>qk xw) (@Bool.rec (λb=>qk xw) ft (DF (JS p w a N) p w s t)<|ahT a ft t) (dA s) (aiS t)=dA s':=h;have e:topRun zS p w a ft (N+1) s.abs t=@Bool.rec (λb=>qk qy) (@Bool.rec (λb=>qk qy) ft (@Step.rec (λb=>qk qy) (λs' t'=>topRun zS p w a ft N s' t') (λb b=>ft)<|step (denote zS) p w s.abs t)<|ahT a ft t) (dA s.abs) (aiS t):=by kernel_rfl
  rw[e];cases e1:aiS t with
  |true=>rw[e1]at h;exact qh (q0 SharedT.abs) h
  |false=>
   rw[e1]at h;cases e2:ahT a ft t with
   |false=>rw[e2]at h;cases h
   |true=>
    rw[e2]at h;obtain⟨c,t2,e3,k⟩:=SA _ p w s t _ h;rw[stepT_spec e3];exact ih k
def ofL(l:qe Obj):qc->BT->BT:=@List.rec Obj (λa=>qc->BT->BT) (λa t=>t) (λo a ih n t=>ih (n+1)<|t.ins n o) l
def Jl(w:Zu)(os:ahO):xw:=⟨ofL (ZL w.params).objs.toList 0 .nil,11,(ZL w.params).life,afQ [],boot_drawn,boot_toks,os⟩
theorem K9(w:Zu)(os:ahO):(Jl w os).abs=⟨ZL w.params,afQ [],boot_drawn,boot_toks,os⟩:=by kernel_rfl
end
section
open Nat.Internal.Linear (Expr ExprCnstr Context)
theorem ul(c:ahP)(g t:Expr)(v:(aax np g t).toNormPoly.isValid=hY):g.denote c<=t.denote c:=of_eq_true<|ac9 c ⟨np,g,t⟩ v
theorem k8(c:ahP)(g t l r:Expr)(k:qc)(v:(aax np (g.add (r.mulL k)) (t.add (l.mulL k))).toNormPoly.isValid=hY)(h:l.denote c<=r.denote c):g.denote c<=t.denote c:=
 Nat.le_of_add_le_add_right (qg (ul c _ _ v)<|qn (x0 k h) _)
theorem yya(c:ahP)(l r m s:Expr)(k j:qc)(h:l.denote c<=r.denote c)(i:m.denote c<=s.denote c):((l.mulL k).add (m.mulL j)).denote c<=((r.mulL k).add (s.mulL j)).denote c:=qM (x0 k h)<|x0 j i
theorem vc(c:ahP)(g t l r m s:Expr)(k j:qc)(v:(aax np (g.add (((r.mulL k).add (s.mulL j)).mulL 1)) (t.add (((l.mulL k).add (m.mulL j)).mulL 1))).toNormPoly.isValid=hY)(h:l.denote c<=r.denote c)(i:m.denote c<=s.denote c):g.denote c<=t.denote c:=
 k8 c g t _ _ 1 v (yya c l r m s k j h i)
theorem yy3(c:ahP)(g t l r m s o u:Expr)(k j n:qc)(v:(aax np (g.add (((((r.mulL k).add (s.mulL j)).mulL 1).add (u.mulL n)).mulL 1)) (t.add (((((l.mulL k).add (m.mulL j)).mulL 1).add (o.mulL n)).mulL 1))).toNormPoly.isValid=hY)(h:l.denote c<=r.denote c)(i:m.denote c<=s.denote c)(e:o.denote c<=u.denote c):g.denote c<=t.denote c:=
 k8 c g t _ _ 1 v (yya c _ _ _ _ 1 n (yya c l r m s k j h i) e)
theorem yye(c:ahP)(g t:Expr)(v:(aax hY g t).toNormPoly.isValid=hY):g.denote c=t.denote c:=of_eq_true<|ac9 c ⟨hY,g,t⟩ v
section
open Nat.Internal.Linear.Expr Lean.RArray
noncomputable def k2(a b:qc):aaw qc:=zY 1 (leaf a)<|leaf b
noncomputable def k3(a b c:qc):aaw qc:=zY 1 (leaf a)<|zY 2 (leaf b) (leaf c)
noncomputable def k4(a b c d:qc):aaw qc:=zY 2 (zY 1 (leaf a)<|leaf b)<|zY 3 (leaf c) (leaf d)
noncomputable def k5(a b c d e:qc):aaw qc:=zY 2 (zY 1 (leaf a)<|leaf b)<|zY 3 (leaf c) (zY 4 (leaf d)<|leaf e)
noncomputable def k6(a b c d e f:qc):aaw qc:=zY 3 (zY 1 (leaf a)<|zY 2 (leaf b) (leaf c))<|zY 4 (leaf d) (zY 5 (leaf e)<|leaf f)
noncomputable def k7(a b c d e f g:qc):aaw qc:=zY 3 (zY 1 (leaf a)<|zY 2 (leaf b) (leaf c))<|zY 5 (zY 4 (leaf d)<|leaf e) (zY 6 (leaf f)<|leaf g)
theorem aa1{a b:qc}(h1:a<=63)(h2:b=a):b<=63:=vc (k2 a b) (var 1) (num 63) (var 0) (num 63) (var 1) (var 0) 1 1 dq h1<|qL h2
theorem aa2{a b:qc}(h1:a=0)(h2:b<=a):b=0:=Nat.le_antisymm (vc (k2 a b) (var 1) (num 0) (var 0) (num 0) (var 1) (var 0) 1 1 dq (qL h1) h2)<|ul (k2 a b) (num 0) (var 1) dq
theorem aa3{a b:qc}(h1:a=b+1):0<a:=k8 (k2 a b) (add (num 0)<|num 1) (var 0) (add (var 1)<|num 1) (var 0) 1 dq<|qL h1.symm
theorem aa4{a b:qc}(h1:0<a)(h2:a=0):b+1=0:=qH h2<|ah2 h1
theorem aa5{a:qc}(h1:0<a)(h2:a=0):qp:=zr 0<|vc (leaf a) (num 1) (num 0) (add (num 0)<|num 1) (var 0) (var 0) (num 0) 1 1 dq h1 (qL h2)
theorem aa6{a b c d:qc}{e:qd}{f:qc}(h1:a=b/\c=d)(h2:e<0/\b=f):a=f:=h1.1.trans h2.2
theorem aa7{a b c d e:qc}(h1:a<=b+c)(h2:d<=a+e):d<=b+(c+e):=vc (k5 a b c d e) (var 3) (add (var 1)<|add (var 2) (var 4)) (var 0) (add (var 1)<|var 2) (var 3) (add (var 0)<|var 4) 1 1 dq h1 h2
theorem aa8{a b c d:qc}(h1:a<=b)(h2:c<=d+a):c<=d+b:=vc (k4 a b c d) (var 2) (add (var 3)<|var 1) (var 0) (var 1) (var 2) (add (var 3)<|var 0) 1 1 dq h1 h2
theorem aa9{a b c:qc}(h1:a<=b+c):a<=b+(1+c):=k8 (k3 a b c) (var 0) (add (var 1)<|add (num 1) (var 2)) (var 0) (add (var 1)<|var 2) 1 dq h1
theorem alS{a b c:qc}(h1:a<=b+1+c):a<=b+(1+c):=k8 (k3 a b c) (var 0) (add (var 1)<|add (num 1) (var 2)) (var 0) (add (add (var 1)<|num 1)<|var 2) 1 dq h1
theorem alR{a:qc}:0+a<=a:=ul (leaf a) (add (num 0)<|var 0) (var 0) dq
theorem alQ{a b c d:qc}(h1:a=b-c):a+d<=b+d:=h1▸qF (ahy b c) d
theorem alP{a:qc}:1+(a+0+1)<=2+a:=ul (leaf a) (add (num 1)<|add (add (var 0)<|num 0) (num 1)) (add (num 2)<|var 0) dq
theorem alO{a:qc}:0+(a+0+0)<=0+a:=ul (leaf a) (add (num 0)<|add (add (var 0)<|num 0) (num 0)) (add (num 0)<|var 0) dq
theorem alN{a b c d:qc}(h1:a<=b)(h2:c<=d):max a c<=max b d:=zj.mpr ⟨qg h1<|xK b d,qg h2<|xL b d⟩
theorem alM{a:qc}(h1:1<=a):3+max (max a 0) 1<=3+a:=qn (zj.mpr ⟨zj.mpr ⟨qm a,qP a⟩,h1⟩) 3
theorem agx{a:qc}:1+(a+1)<=2+a:=ul (leaf a) (add (num 1)<|add (var 0) (num 1)) (add (num 2)<|var 0) dq
theorem agw{a b c:qc}:a+(b+c)<=0+(a+b+c):=ul (k3 a b c) (add (var 0)<|add (var 1) (var 2)) (add (num 0)<|add (add (var 0)<|var 1) (var 2)) dq
theorem agv{a:qc}:a+1<=0+1+a:=ul (leaf a) (add (var 0)<|num 1) (add (add (num 0)<|num 1)<|var 0) dq
theorem ab4{a b c:qc}:1+(1+(a+b))<=2+0*c+(b+a):=ul (k3 a b c) (add (num 1)<|add (num 1) (add (var 0)<|var 1)) (add (add (num 2)<|mulL 0 (var 2))<|add (var 1) (var 0)) dq
theorem ab3{a b c:qc}:a+(b+c)<=0+1*b+(c+a):=ul (k3 a b c) (add (var 0)<|add (var 1) (var 2)) (add (add (num 0)<|mulL 1 (var 1))<|add (var 2) (var 0)) dq
theorem agu{a:qc}:1+(1+(1+a))<=2+1+a:=ul (leaf a) (add (num 1)<|add (num 1) (add (num 1)<|var 0)) (add (add (num 2)<|num 1)<|var 0) dq
theorem agt{a:qc}:1+(1+(a+0))<=2+a:=ul (leaf a) (add (num 1)<|add (num 1) (add (var 0)<|num 0)) (add (num 2)<|var 0) dq
theorem ags{a b:qc}(h1:a=b+1)(h2:a<=b):qp:=zr 0<|vc (k2 a b) (num 1) (num 0) (add (var 1)<|num 1) (var 0) (var 0) (var 1) 1 1 dq (qL h1.symm) h2
theorem alL{a:qd}{b c d:qc}(h1:a<0/\b=c)(h2:d=c):¬(d<b\/b<d/\a<0):=λh=>h.elim (λz=>zy z<|h2.trans h1.2.symm) λz=>ah2 z.1<|h2.trans h1.2.symm
theorem alJ{a:qd}{b c:qc}(h1:a<0/\b=c):¬0<=a:=ahz.mpr h1.1
theorem alI{a:qc}:0<1+a:=ul (leaf a) (add (num 0)<|num 1) (add (num 1)<|var 0) dq
theorem alH{a:qd}(h1:a<0):¬0<=a:=ahz.mpr h1
theorem alG{a b c d e:qc}(h1:a=b)(h2:c=a/\d=e):c=b:=h2.1.trans h1
theorem alF{a b:qc}(h1:a+2*(b+1)<=999):a<1000:=k8 (k2 a b) (add (var 0)<|num 1) (num 1000) (add (var 0)<|mulL 2 (add (var 1)<|num 1)) (num 999) 1 dq h1
theorem alE{a b:qc}(h1:a+4*(b+1)<=9500):a+303<9900:=k8 (k2 a b) (add (add (var 0)<|num 303)<|num 1) (num 9900) (add (var 0)<|mulL 4 (add (var 1)<|num 1)) (num 9500) 1 dq h1
theorem alD{a b:qc}(h1:a+2*(b+1)<=999):a+2+2*b<=999:=k8 (k2 a b) (add (add (var 0)<|num 2)<|mulL 2 (var 1)) (num 999) (add (var 0)<|mulL 2 (add (var 1)<|num 1)) (num 999) 1 dq h1
theorem alC{a b:qc}(h1:a+4*(b+1)<=9500):a+4+4*b<=9500:=k8 (k2 a b) (add (add (var 0)<|num 4)<|mulL 4 (var 1)) (num 9500) (add (var 0)<|mulL 4 (add (var 1)<|num 1)) (num 9500) 1 dq h1
theorem alB{a:qd}(h1:0<a)(h2:a<1000000):a.natAbs<1073741824:=xV.mp (by rw[Int.natAbs_of_nonneg (xh h1)];exact ZW h2 (by decide))
theorem alA{a:qc}:a+1+199<a+200+1:=ul (leaf a) (add (add (add (var 0)<|num 1)<|num 199)<|num 1) (add (add (var 0)<|num 200)<|num 1) dq
theorem alz{a b c:qc}(h1:a+b+1<c):a+1+b<c:=k8 (k3 a b c) (add (add (add (var 0)<|num 1)<|var 1)<|num 1) (var 2) (add (add (add (var 0)<|var 1)<|num 1)<|num 1) (var 2) 1 dq h1
theorem aly{a:qd}{b:qc}(h1:0<=a+(b:qd)):-(b:qd)<=a:=by grind-abstractProof
theorem alx{a:qd}{b:qc}(h1:(a+(b:qd)).toNat<b):a<(b:qd):=ajE (Int.lt_of_add_lt_add_right (by rw[Int.zero_add];exact zl (abo _)<|xV.mpr h1):a<0)<|xE b
theorem alw{a:qd}{b:qc}(h1:0<=a+(b:qd))(h2:(a+(b:qd)).toNat<b):0<=a+(b:qd)/\a+(b:qd)<(b:qd):=⟨h1,zl (abo _)<|xV.mpr h2⟩
theorem alv{a:qd}{b:qc}(h1:¬a<0):-(b:qd)<=a:=xI (Int.neg_nonpos_of_nonneg<|xE b)<|ZC.mp h1
theorem alu{a:qd}{b:qc}(h1:a.toNat<b):a<(b:qd):=zl (abo _)<|xV.mpr h1
theorem alt{a:qd}(h1:¬a<0):0<=a:=ZC.mp h1
theorem als{a:qd}{b:qc}(h1:¬a<0)(h2:a.toNat<b):0<=a/\a<(b:qd):=⟨ZC.mp h1,zl (abo _)<|xV.mpr h2⟩
theorem alr{a:qc}{b:qd}(h1:-(a:qd)<=b):-(a:qd)<=b:=h1
theorem alq{a b:qc}(h1:(a:qd)<(b:qd)):a<b:=xV.mp h1
theorem alp{a b c:qc}(h1:a<b)(h2:c=b):(a:qd)<(c:qd):=xV.mpr<|h2▸h1
theorem aln{a:qc}:a<=a-1+1:=Nat.le_add_of_sub_le<|qm _
theorem alm{a b c:qc}(h1:a+b<=c):a+b<=c:=k8 (k3 a b c) (add (var 0)<|var 1) (var 2) (add (var 0)<|var 1) (var 2) 1 dq h1
theorem alk{a b c:qc}(h1:a+b<=c):a<=c:=k8 (k3 a b c) (var 0) (var 2) (add (var 0)<|var 1) (var 2) 1 dq h1
theorem alj{a b c:qc}(h1:a+b<=c):a+b<=c+1:=k8 (k3 a b c) (add (var 0)<|var 1) (add (var 2)<|num 1) (add (var 0)<|var 1) (var 2) 1 dq h1
theorem ali{a b c d:qc}(h1:a<=b+1):c+1+1+a<=c+2*d+b+3:=k8 (k4 a b c d) (add (add (add (var 2)<|num 1)<|num 1)<|var 0) (add (add (add (var 2)<|mulL 2 (var 3))<|var 1)<|num 3) (var 0) (add (var 1)<|num 1) 1 dq h1
theorem alh{a b c:qc}:a+b+1+c=b+c+(a+1):=yye (k3 a b c) (add (add (add (var 0)<|var 1)<|num 1)<|var 2) (add (add (var 1)<|var 2)<|add (var 0) (num 1)) dq
theorem alg{a b c d e f g:qc}(h1:a<=b)(h2:c+(2*b+4)*(d+e+1+f)<=g):c+2*a+d+3+(2*b+4)*(e+f)<=g:=by grind-abstractProof
theorem alf{a:qc}:1+a<=2+a:=ul (leaf a) (add (num 1)<|var 0) (add (num 2)<|var 0) dq
theorem ale{a:qc}:a<=0+a:=ul (leaf a) (var 0) (add (num 0)<|var 0) dq
theorem agr{a b:qc}(h1:3+a+200<=b+4):a+200<=b+1:=k8 (k2 a b) (add (var 0)<|num 200) (add (var 1)<|num 1) (add (add (num 3)<|var 0)<|num 200) (add (var 1)<|num 4) 1 dq h1
theorem agq{a:qc}:a+0<=0+a:=ul (leaf a) (add (var 0)<|num 0) (add (num 0)<|var 0) dq
theorem ald{a b c:qc}:1+(a+(b+c))<=1+(a+b+c):=ul (k3 a b c) (add (num 1)<|add (var 0) (add (var 1)<|var 2)) (add (num 1)<|add (add (var 0)<|var 1) (var 2)) dq
theorem alc{a b c d:qc}(h1:3+max (max a b) c+200<=d+4):a+200<=d+2:=yy3 (k6 a b c d (max (max a b) c)<|max a b) (add (var 0)<|num 200) (add (var 3)<|num 2) (add (add (num 3)<|var 4)<|num 200) (add (var 3)<|num 4) (var 5) (var 4) (var 0) (var 5) 1 1 1 dq h1 (xK (max a b) c)<|xK a b
theorem agp{a b c d e:qc}(h1:a+(b+c+d)<e):a+b<e:=k8 (k5 a b c d e) (add (add (var 0)<|var 1)<|num 1) (var 4) (add (add (var 0)<|add (add (var 1)<|var 2) (var 3))<|num 1) (var 4) 1 dq h1
theorem alb{a b c d:qc}(h1:0+(a+(b+(c+0)))+1<d):a<d:=k8 (k4 a b c d) (add (var 0)<|num 1) (var 3) (add (add (add (num 0)<|add (var 0) (add (var 1)<|add (var 2) (num 0)))<|num 1)<|num 1) (var 3) 1 dq h1
theorem ala{a b c d:qc}(h1:3+max (max a b) c+200<=d+4):c+200<=d+3:=vc (k6 a b c d (max (max a b) c)<|max a b) (add (var 2)<|num 200) (add (var 3)<|num 3) (add (add (num 3)<|var 4)<|num 200) (add (var 3)<|num 4) (var 2) (var 4) 1 1 dq h1<|xL (max a b) c
theorem ak9{a b c d e:qc}(h1:a+(b+c+d)<e):a+d<e:=k8 (k5 a b c d e) (add (add (var 0)<|var 3)<|num 1) (var 4) (add (add (var 0)<|add (add (var 1)<|var 2) (var 3))<|num 1) (var 4) 1 dq h1
theorem ak8{a b c d:qc}(h1:0+(a+(b+(c+0)))+1<d):c<d:=k8 (k4 a b c d) (add (var 2)<|num 1) (var 3) (add (add (add (num 0)<|add (var 0) (add (var 1)<|add (var 2) (num 0)))<|num 1)<|num 1) (var 3) 1 dq h1
theorem ak7{a b c d:qc}(h1:3+max (max a b) c+200<=d+4):b+200<=d+3:=yy3 (k6 a b c d (max (max a b) c)<|max a b) (add (var 1)<|num 200) (add (var 3)<|num 3) (add (add (num 3)<|var 4)<|num 200) (add (var 3)<|num 4) (var 5) (var 4) (var 1) (var 5) 1 1 1 dq h1 (xK (max a b) c)<|xL a b
theorem ak6{a b c d e:qc}(h1:a+(b+c+d)<e):a+c<e:=k8 (k5 a b c d e) (add (add (var 0)<|var 2)<|num 1) (var 4) (add (add (var 0)<|add (add (var 1)<|var 2) (var 3))<|num 1) (var 4) 1 dq h1
theorem ak5{a b c d:qc}(h1:0+(a+(b+(c+0)))+1<d):b<d:=k8 (k4 a b c d) (add (var 1)<|num 1) (var 3) (add (add (add (num 0)<|add (var 0) (add (var 1)<|add (var 2) (num 0)))<|num 1)<|num 1) (var 3) 1 dq h1
theorem ak4{a:qc}:(max 0 (min (-1+((a+1:qc):qd)) ((a+1:qc):qd))).toNat=a:=qh Int.toNat ((qh (max (0:qd))<|agh (xI (Int.le_of_eq<|aek _ _)<|alY _ (by decide))).trans (qh (max (0:qd)) (show-1+((a+1:qc):qd)=(a:qd)from(aek _ _).trans (acU (a:qd) 1))))|>.trans (qh Int.toNat<|afe (xE a))
theorem ak3{a b:qc}:a+b<=0+(a+b):=ul (k2 a b) (add (var 0)<|var 1) (add (num 0)<|add (var 0) (var 1)) dq
theorem ak1{a b c:qc}(h1:3+max a b+200<=c+4):a+200<=c+3:=vc (k4 a b c<|max a b) (add (var 0)<|num 200) (add (var 2)<|num 3) (add (add (num 3)<|var 3)<|num 200) (add (var 2)<|num 4) (var 0) (var 3) 1 1 dq h1<|xK a b
theorem ago{a b c d:qc}(h1:a+(b+c)<d):a+b<d:=k8 (k4 a b c d) (add (add (var 0)<|var 1)<|num 1) (var 3) (add (add (var 0)<|add (var 1) (var 2))<|num 1) (var 3) 1 dq h1
theorem ak0{a b c:qc}(h1:0+(a+(b+0))+1<c):a<c:=k8 (k3 a b c) (add (var 0)<|num 1) (var 2) (add (add (add (num 0)<|add (var 0) (add (var 1)<|num 0))<|num 1)<|num 1) (var 2) 1 dq h1
theorem akZ{a b c:qc}(h1:3+max a b+200<=c+4):b+200<=c+3:=vc (k4 a b c<|max a b) (add (var 1)<|num 200) (add (var 2)<|num 3) (add (add (num 3)<|var 3)<|num 200) (add (var 2)<|num 4) (var 1) (var 3) 1 1 dq h1<|xL a b
theorem agn{a b c d:qc}(h1:a+(b+c)<d):a+c<d:=k8 (k4 a b c d) (add (add (var 0)<|var 2)<|num 1) (var 3) (add (add (var 0)<|add (var 1) (var 2))<|num 1) (var 3) 1 dq h1
theorem akY{a b c:qc}(h1:0+(a+(b+0))+1<c):b<c:=k8 (k3 a b c) (add (var 1)<|num 1) (var 2) (add (add (add (num 0)<|add (var 0) (add (var 1)<|num 0))<|num 1)<|num 1) (var 2) 1 dq h1
theorem akX{a:qc}:1+(a+0)<=1+0+a:=ul (leaf a) (add (num 1)<|add (var 0) (num 0)) (add (add (num 1)<|num 0)<|var 0) dq
theorem akW{a b:qc}(h1:3+0+a+200<=b+4):a+200<=b+1+1:=k8 (k2 a b) (add (var 0)<|num 200) (add (add (var 1)<|num 1)<|num 1) (add (add (add (num 3)<|num 0)<|var 0)<|num 200) (add (var 1)<|num 4) 1 dq h1
theorem akV{a b:qc}(h1:0+a+1<b):a<b:=k8 (k2 a b) (add (var 0)<|num 1) (var 1) (add (add (add (num 0)<|var 0)<|num 1)<|num 1) (var 1) 1 dq h1
theorem akU{a b c d e:qc}(h1:a<=b+c)(h2:b+(c+1+d)<e):a+1<e:=vc (k5 a b c d e) (add (add (var 0)<|num 1)<|num 1) (var 4) (var 0) (add (var 1)<|var 2) (add (add (var 1)<|add (add (var 2)<|num 1) (var 3))<|num 1) (var 4) 1 1 dq h1 h2
theorem akS{a b c d e:qc}(h1:a<=b+c)(h2:b+(c+1+d)<e):a+1+d<e:=vc (k5 a b c d e) (add (add (add (var 0)<|num 1)<|var 3)<|num 1) (var 4) (var 0) (add (var 1)<|var 2) (add (add (var 1)<|add (add (var 2)<|num 1) (var 3))<|num 1) (var 4) 1 1 dq h1 h2
theorem akR{a b c d e f:qc}(h1:a+(b+c+d)<e)(h2:f<=a+b):f+d<e:=vc (k6 a b c d e f) (add (add (var 5)<|var 3)<|num 1) (var 4) (add (add (var 0)<|add (add (var 1)<|var 2) (var 3))<|num 1) (var 4) (var 5) (add (var 0)<|var 1) 1 1 dq h1 h2
theorem akQ{a b c d:qc}(h1:0+(a+(b+0)+1+c)+1<d):b<d:=k8 (k4 a b c d) (add (var 1)<|num 1) (var 3) (add (add (add (num 0)<|add (add (add (var 0)<|add (var 1) (num 0))<|num 1) (var 2))<|num 1)<|num 1) (var 3) 1 dq h1
theorem agm{a b c d:qc}(h1:3+0*a+max b c+200<=d+4):c+200<=d+1+1:=vc (k5 a b c d<|max b c) (add (var 2)<|num 200) (add (add (var 3)<|num 1)<|num 1) (add (add (add (num 3)<|mulL 0 (var 0))<|var 4)<|num 200) (add (var 3)<|num 4) (var 2) (var 4) 1 1 dq h1<|xL b c
theorem akP{a b c d:qc}(h1:0+(a+(b+0)+1+c)+1<d):c<d:=k8 (k4 a b c d) (add (var 2)<|num 1) (var 3) (add (add (add (num 0)<|add (add (add (var 0)<|add (var 1) (num 0))<|num 1) (var 2))<|num 1)<|num 1) (var 3) 1 dq h1
theorem agl{a b c d:qc}(h1:3+0*a+max b c+200<=d+4):b+200<=d+2:=vc (k5 a b c d<|max b c) (add (var 1)<|num 200) (add (var 3)<|num 2) (add (add (add (num 3)<|mulL 0 (var 0))<|var 4)<|num 200) (add (var 3)<|num 4) (var 1) (var 4) 1 1 dq h1<|xK b c
theorem agk{a b:qc}(h1:0+(0+0+1+a)+1<b):a<b:=k8 (k2 a b) (add (var 0)<|num 1) (var 1) (add (add (add (num 0)<|add (add (add (num 0)<|num 0)<|num 1) (var 0))<|num 1)<|num 1) (var 1) 1 dq h1
theorem akO{a b:qc}(h1:3+a+200<=b+4):a+200<=b+1+1:=k8 (k2 a b) (add (var 0)<|num 200) (add (add (var 1)<|num 1)<|num 1) (add (add (num 3)<|var 0)<|num 200) (add (var 1)<|num 4) 1 dq h1
theorem akN{a b c:qc}(h1:0+(0+0+1+a)+1<b)(h2:c<=a):c<b:=vc (k3 a b c) (add (var 2)<|num 1) (var 1) (add (add (add (num 0)<|add (add (add (num 0)<|num 0)<|num 1) (var 0))<|num 1)<|num 1) (var 1) (var 2) (var 0) 1 1 dq h1 h2
theorem akM{a b c:qc}(h1:a=b)(h2:a<c):b<c:=vc (k3 a b c) (add (var 1)<|num 1) (var 2) (var 1) (var 0) (add (var 0)<|num 1) (var 2) 1 1 dq (qL h1.symm) h2
theorem akL{a b:qc}(h1:3+3+a+200<=b+4):a+200<=b+2:=k8 (k2 a b) (add (var 0)<|num 200) (add (var 1)<|num 2) (add (add (add (num 3)<|num 3)<|var 0)<|num 200) (add (var 1)<|num 4) 1 dq h1
theorem akK{a b c d:qc}(h1:0+(1+(a+0)+1+(b+(c+0)+1+0))+1<d):a<d:=k8 (k4 a b c d) (add (var 0)<|num 1) (var 3) (add (add (add (num 0)<|add (add (add (num 1)<|add (var 0) (num 0))<|num 1) (add (add (add (var 1)<|add (var 2) (num 0))<|num 1)<|num 0))<|num 1)<|num 1) (var 3) 1 dq h1
theorem akJ{a b c d:qc}(h1:0+(1+(a+0)+1+(b+(c+0)+1+0))+1<d):c<d:=k8 (k4 a b c d) (add (var 2)<|num 1) (var 3) (add (add (add (num 0)<|add (add (add (num 1)<|add (var 0) (num 0))<|num 1) (add (add (add (var 1)<|add (var 2) (num 0))<|num 1)<|num 0))<|num 1)<|num 1) (var 3) 1 dq h1
theorem akI{a b c d:qc}(h1:a+(b+c+1)<d):a+c<d:=k8 (k4 a b c d) (add (add (var 0)<|var 2)<|num 1) (var 3) (add (add (var 0)<|add (add (var 1)<|var 2) (num 1))<|num 1) (var 3) 1 dq h1
theorem akH{a b c d:qc}(h1:a+(b+c+1)<d):a+1+b<d:=k8 (k4 a b c d) (add (add (add (var 0)<|num 1)<|var 1)<|num 1) (var 3) (add (add (var 0)<|add (add (var 1)<|var 2) (num 1))<|num 1) (var 3) 1 dq h1
theorem akG{a:qc}:a<=0+0+a:=ul (leaf a) (var 0) (add (add (num 0)<|num 0)<|var 0) dq
theorem akF{a b:qc}(h1:3+a+200<=b+4)(h2:1<=a):200<=b:=vc (k2 a b) (num 200) (var 1) (add (add (num 3)<|var 0)<|num 200) (add (var 1)<|num 4) (num 1) (var 0) 1 1 dq h1 h2
theorem akE{a:qc}(h1:200<=a):a=a-4+4:=(Nat.sub_add_cancel<|qg (by decide) h1).symm
theorem akD{a:qc}:a+1<a+4:=ul (leaf a) (add (add (var 0)<|num 1)<|num 1) (add (var 0)<|num 4) dq
theorem akC{a:qc}:a+2<a+4:=ul (leaf a) (add (add (var 0)<|num 2)<|num 1) (add (var 0)<|num 4) dq
theorem ahe{a:qc}:a+3<a+4:=ul (leaf a) (add (add (var 0)<|num 3)<|num 1) (add (var 0)<|num 4) dq
theorem ahd{a b:qc}(h1:a<=1):b+a<=2*(b+1):=k8 (k2 a b) (add (var 1)<|var 0) (mulL 2<|add (var 1) (num 1)) (var 0) (num 1) 1 dq h1
theorem ahc{a b c d:qc}(h1:a<=2*b)(h2:c<=2*(d+1)):c+a<=2*(d+b+1):=vc (k4 a b c d) (add (var 2)<|var 0) (mulL 2<|add (add (var 3)<|var 1) (num 1)) (var 0) (mulL 2<|var 1) (var 2) (mulL 2<|add (var 3) (num 1)) 1 1 dq h1 h2
theorem ahb{a b c d:qc}(h1:a<=2*b)(h2:c<=2*d):a+c<=2*(b+d):=vc (k4 a b c d) (add (var 0)<|var 2) (mulL 2<|add (var 1) (var 3)) (var 0) (mulL 2<|var 1) (var 2) (mulL 2<|var 3) 1 1 dq h1 h2
theorem aha{a b:qc}(h1:a<=100)(h2:b<=2*a):0+b<100000:=vc (k2 a b) (add (add (num 0)<|var 1)<|num 1) (num 100000) (var 0) (num 100) (var 1) (mulL 2<|var 0) 2 1 dq h1 h2
theorem ag9{a:qc}(h1:a<=5000):0+a<=5000:=k8 (leaf a) (add (num 0)<|var 0) (num 5000) (var 0) (num 5000) 1 dq h1
theorem ag8{a:qc}(h1:a<=190):0+a<=190:=k8 (leaf a) (add (num 0)<|var 0) (num 190) (var 0) (num 190) 1 dq h1
theorem ag7{a:qc}(h1:a<=5000):0+a<=10000:=k8 (leaf a) (add (num 0)<|var 0) (num 10000) (var 0) (num 5000) 1 dq h1
theorem ag6{a:qc}:300<=a+319:=ul (leaf a) (num 300) (add (var 0)<|num 319) dq
theorem WT{a b:qc}(h1:a<=190)(h2:b<=0+a):b<=190:=vc (k2 a b) (var 1) (num 190) (var 0) (num 190) (var 1) (add (num 0)<|var 0) 1 1 dq h1 h2
theorem WR{a:qc}:190<=a+318:=ul (leaf a) (num 190) (add (var 0)<|num 318) dq
theorem ag5{a:qc}:190<=a+317:=ul (leaf a) (num 190) (add (var 0)<|num 317) dq
theorem ag4{a b c:qc}(h1:a<=4)(h2:b+5<=c):b+a+1<=c:=vc (k3 a b c) (add (add (var 1)<|var 0)<|num 1) (var 2) (var 0) (num 4) (add (var 1)<|num 5) (var 2) 1 1 dq h1 h2
theorem ag3{a b c d:qc}(h1:a<=4)(h2:b+c+5<=d):b+(c+a+1)<=d:=vc (k4 a b c d) (add (var 1)<|add (add (var 2)<|var 0) (num 1)) (var 3) (var 0) (num 4) (add (add (var 1)<|var 2)<|num 5) (var 3) 1 1 dq h1 h2
theorem ag2{a b c d:qc}(h1:a<=4)(h2:b+c+4<=d):b+(c+a)<=d:=vc (k4 a b c d) (add (var 1)<|add (var 2) (var 0)) (var 3) (var 0) (num 4) (add (add (var 1)<|var 2)<|num 4) (var 3) 1 1 dq h1 h2
theorem ag1{a b c:qc}(h1:a+b+5<=c):a+2+(b+1)<=c:=k8 (k3 a b c) (add (add (var 0)<|num 2)<|add (var 1) (num 1)) (var 2) (add (add (var 0)<|var 1)<|num 5) (var 2) 1 dq h1
theorem ag0{a:qc}(h1:0<a):-(a:qd)<0:=Int.neg_neg_of_pos<|zt.mpr h1
theorem agZ{a b:qc}:(max 0 (min (-(a:qd)+(b:qd)) (b:qd))).toNat=b-a:=by
 rw[aek,←Int.sub_eq_add_neg,agh<|alY _ (xE a),←Int.toNat_sub b a];rcases Int.le_total 0 ((b:qd)-a)with h|h
 ·rw[afe h]
 ·rw[Int.max_eq_left h,Int.toNat_of_nonpos h];rfl
theorem agY{a b:qc}(h1:0<a)(h2:0=b-(b-a))(h3:0<b):qp:=zy (Nat.sub_sub_eq_min b a▸Nat.lt_min.mpr ⟨h3,h1⟩:0<b-(b-a)) h2
theorem agX{a:qd}{b:qc}(h1:a<3)(h2:b=a.toNat):b<=2:=h2▸ZV.mpr (acK h1)
theorem agW{a:qd}{b:qc}(h1:0<=a):0<=(b:qd)+a:=Int.add_nonneg (xE b) h1
theorem agV{a:qc}{b:qd}(h1:a<=2)(h2:b<=2):(a:qd)+b<=4:=amh (aeh.mpr h1) h2
theorem agU{a:qc}{b:qd}(h1:a<=2)(h2:b<=2):((a:qd)+b).toNat<=4:=ZV.mpr<|amh (aeh.mpr h1) h2
theorem WQ{a b c d:qc}(h1:a+b+c<=d):b+a+1+c<=d+1:=k8 (k4 a b c d) (add (add (add (var 1)<|var 0)<|num 1)<|var 2) (add (var 3)<|num 1) (add (add (var 0)<|var 1)<|var 2) (var 3) 1 dq h1
theorem agT{a b:qc}(h1:a+b<=10):b+0<=11:=k8 (k2 a b) (add (var 1)<|num 0) (num 11) (add (var 0)<|var 1) (num 10) 1 dq h1
theorem WP{a b:qc}(h1:a+b<=10):a+b<11:=k8 (k2 a b) (add (add (var 0)<|var 1)<|num 1) (num 11) (add (var 0)<|var 1) (num 10) 1 dq h1
theorem agS{a:qd}(h1:a<3):a.toNat<=2:=ZV.mpr<|acK h1
theorem agR{a:qc}(h1:a<=2):(a:qd)<=4:=aeh.mpr<|qg h1 (by decide)
theorem agQ{a:qd}(h1:a<4):a<=12:=xh<|ZW h1 (by decide)
theorem agP{a:qd}(h1:a<6):a<=12:=xh<|ZW h1 (by decide)
theorem agO{a:qd}(h1:a<8):a<=12:=xh<|ZW h1 (by decide)
theorem agN{a:qd}(h1:0<=a)(h2:a<3):1+a=1\/1+a=2\/1+a=3:=by grind-abstractProof
theorem agM{a:qd}(h1:¬a>11):a<=12:=xI (ZC.mp h1) (by decide)
theorem agL{a:qd}{b c:qc}(h1:0<a-1)(h2:b+10*(a.toNat+1)+0<c):b+10*((a-1).toNat+1)+3<c:=by grind-abstractProof
theorem agK{a:qd}(h1:0<a-1):(a-1-1).toNat+1<=(a-1).toNat:=(Int.toNat_lt_toNat h1).mpr (agg _ (by decide))
theorem WO{a:qd}(h1:a.toNat<=0):¬0<a-1:=λh=>qH (ZV.mp h1)<|ahz.mpr (ZW h<|agg a (by decide))
theorem agJ{a b:qc}:5*(a+1)+b+4=5*a+b+5+4:=yye (k2 a b) (add (add (mulL 5<|add (var 0) (num 1))<|var 1)<|num 4) (add (add (add (mulL 5<|var 0)<|var 1)<|num 5)<|num 4) dq
theorem agI{a:qd}{b:qc}(h1:a.toNat<=b+1):(a-1).toNat<=b:=ZV.mpr<|Int.sub_right_le_of_le_add (ZV.mp h1)
theorem agH{a b:qc}:a+1+b=a+(b+1):=yye (k2 a b) (add (add (var 0)<|num 1)<|var 1) (add (var 0)<|add (var 1) (num 1)) dq
theorem agG{a:qc}(h1:a<=11):8*a+1<=100:=k8 (leaf a) (add (mulL 8<|var 0)<|num 1) (num 100) (var 0) (num 11) 8 dq h1
theorem agF{a b:qc}(h1:a<=1):b+a+1<=3*(b+1):=k8 (k2 a b) (add (add (var 1)<|var 0)<|num 1) (mulL 3<|add (var 1) (num 1)) (var 0) (num 1) 1 dq h1
theorem agE{a b c d:qc}(h1:a<=3*b)(h2:c<=3*(d+1)):c+a<=3*(d+b+1):=vc (k4 a b c d) (add (var 2)<|var 0) (mulL 3<|add (add (var 3)<|var 1) (num 1)) (var 0) (mulL 3<|var 1) (var 2) (mulL 3<|add (var 3) (num 1)) 1 1 dq h1 h2
theorem agD{a b c d:qc}(h1:a<=3*b)(h2:c<=3*d):a+c<=3*(b+d):=vc (k4 a b c d) (add (var 0)<|var 2) (mulL 3<|add (var 1) (var 3)) (var 0) (mulL 3<|var 1) (var 2) (mulL 3<|var 3) 1 1 dq h1 h2
theorem agC{a b c d e:qc}(h1:a+b<=c+d):a+1+(e+b)<=c+1+(e+d):=k8 (k5 a b c d e) (add (add (var 0)<|num 1)<|add (var 4) (var 1)) (add (add (var 2)<|num 1)<|add (var 4) (var 3)) (add (var 0)<|var 1) (add (var 2)<|var 3) 1 dq h1
theorem agB{a b c:qc}:0+(a+(b+0)+1+c)+1=a+b+c+2:=yye (k3 a b c) (add (add (num 0)<|add (add (add (var 0)<|add (var 1) (num 0))<|num 1) (var 2))<|num 1) (add (add (add (var 0)<|var 1)<|var 2)<|num 2) dq
theorem agA{a b c d:qc}(h1:a+b+c+2<=d):b<=d:=k8 (k4 a b c d) (var 1) (var 3) (add (add (add (var 0)<|var 1)<|var 2)<|num 2) (var 3) 1 dq h1
theorem agz{a b c d e f g:qc}(h1:a+b+c+2<=d)(h2:e+f<=a+c)(h3:g<=b):e+g+f+2<=d:=yy3 (k7 a b c d e f g) (add (add (add (var 4)<|var 6)<|var 5)<|num 2) (var 3) (add (add (add (var 0)<|var 1)<|var 2)<|num 2) (var 3) (add (var 4)<|var 5) (add (var 0)<|var 2) (var 6) (var 1) 1 1 1 dq h1 h2 h3
theorem agy{a b c:qc}:0+(a+(b+0))+1<=c+b+(a+0)+2:=ul (k3 a b c) (add (add (num 0)<|add (var 0) (add (var 1)<|num 0))<|num 1) (add (add (add (var 2)<|var 1)<|add (var 0) (num 0))<|num 2) dq
end
end
section
open PySem PySem.W PySem.Calls PyProof.Rows
theorem bA(h:(a&&b)=hY):a=hY:=(q8.mp h).1
theorem bB(h:(a&&b)=hY):b=hY:=(q8.mp h).2
structure Nm where
 i:qc
 deriving xt
noncomputable abbrev Nm.LH:Nm:=⟨2⟩
noncomputable abbrev Nm.s9:Nm:=⟨4⟩
noncomputable abbrev Nm.vV:Nm:=⟨5⟩
noncomputable abbrev Nm.Eg:Nm:=⟨6⟩
noncomputable abbrev Nm.Az:Nm:=⟨7⟩
noncomputable abbrev Nm.lY:Nm:=⟨10⟩
noncomputable abbrev Nm.jJ:Nm:=⟨12⟩
noncomputable abbrev Nm.vp:Nm:=⟨14⟩
noncomputable abbrev Nm.s8:Nm:=⟨16⟩
noncomputable abbrev Nm.vo:Nm:=⟨17⟩
noncomputable abbrev Nm.D:Nm:=⟨20⟩
noncomputable abbrev Nm.kB:Nm:=⟨21⟩
noncomputable abbrev Nm.kF:Nm:=⟨24⟩
noncomputable abbrev Nm.iL:Nm:=⟨25⟩
noncomputable abbrev Nm.rH:Nm:=⟨27⟩
noncomputable abbrev Nm.C:Nm:=⟨28⟩
noncomputable abbrev Nm.o7:Nm:=⟨30⟩
noncomputable abbrev Nm.rG:Nm:=⟨31⟩
noncomputable abbrev Nm.yA:Nm:=⟨34⟩
noncomputable abbrev Nm.M:Nm:=⟨35⟩
noncomputable abbrev Nm.jI:Nm:=⟨36⟩
noncomputable abbrev Nm.G:Nm:=⟨38⟩
noncomputable abbrev Nm.rF:Nm:=⟨39⟩
noncomputable abbrev Nm.vn:Nm:=⟨40⟩
noncomputable abbrev Nm.fX:Nm:=⟨43⟩
noncomputable abbrev Nm.X:Nm:=⟨45⟩
noncomputable abbrev Nm.jt:Nm:=⟨48⟩
noncomputable abbrev Nm.N:Nm:=⟨49⟩
noncomputable abbrev Nm.Q:Nm:=⟨50⟩
noncomputable abbrev Nm.I:Nm:=⟨51⟩
noncomputable abbrev Nm.gX:Nm:=⟨52⟩
noncomputable abbrev Nm.mB:Nm:=⟨54⟩
noncomputable abbrev Nm.nI:Nm:=⟨57⟩
noncomputable abbrev Nm.o:Nm:=⟨58⟩
noncomputable abbrev Nm.W:Nm:=⟨59⟩
noncomputable abbrev Nm.kC:Nm:=⟨60⟩
noncomputable abbrev Nm.iC:Nm:=⟨61⟩
noncomputable abbrev Nm.jr:Nm:=⟨65⟩
noncomputable abbrev Nm.iV:Nm:=⟨66⟩
noncomputable abbrev Nm.p:Nm:=⟨67⟩
noncomputable abbrev Nm.o8:Nm:=⟨69⟩
noncomputable abbrev Nm.w:Nm:=⟨70⟩
noncomputable abbrev Nm.E:Nm:=⟨72⟩
noncomputable abbrev Nm.jO:Nm:=⟨73⟩
noncomputable abbrev Nm.B:Nm:=⟨74⟩
noncomputable abbrev Nm.fj:Nm:=⟨76⟩
noncomputable abbrev Nm.nH:Nm:=⟨77⟩
noncomputable abbrev Nm.f:Nm:=⟨80⟩
noncomputable abbrev Nm.nG:Nm:=⟨83⟩
noncomputable abbrev Nm.eF:Nm:=⟨84⟩
noncomputable abbrev Nm.F:Nm:=⟨86⟩
noncomputable abbrev Nm.R:Nm:=⟨87⟩
noncomputable abbrev Nm.g:Nm:=⟨90⟩
noncomputable abbrev Nm.d5:Nm:=⟨92⟩
noncomputable abbrev Nm.kA:Nm:=⟨93⟩
noncomputable abbrev Nm.gz:Nm:=⟨95⟩
noncomputable abbrev Nm.iU:Nm:=⟨96⟩
noncomputable abbrev Nm.V:Nm:=⟨97⟩
noncomputable abbrev Nm.jZ:Nm:=⟨100⟩
noncomputable abbrev Nm.O:Nm:=⟨102⟩
noncomputable abbrev Nm.lX:Nm:=⟨103⟩
noncomputable abbrev Nm.ju:Nm:=⟨104⟩
noncomputable abbrev Nm.ik:Nm:=⟨105⟩
noncomputable abbrev Nm.S:Nm:=⟨111⟩
noncomputable abbrev Nm.fW:Nm:=⟨114⟩
noncomputable abbrev Nm.A:Nm:=⟨117⟩
noncomputable abbrev Nm.jY:Nm:=⟨118⟩
noncomputable abbrev Nm.fE:Nm:=⟨119⟩
noncomputable abbrev Nm.fc:Nm:=⟨120⟩
noncomputable abbrev Nm.y:Nm:=⟨121⟩
noncomputable abbrev Nm.fV:Nm:=⟨122⟩
noncomputable abbrev Nm.kR:Nm:=⟨123⟩
noncomputable abbrev Nm.x:Nm:=⟨124⟩
noncomputable abbrev Nm.kQ:Nm:=⟨125⟩
noncomputable abbrev Nm.z:Nm:=⟨126⟩
noncomputable abbrev Nm.kP:Nm:=⟨127⟩
noncomputable abbrev Nm.u:Nm:=⟨132⟩
noncomputable abbrev Nm.jq:Nm:=⟨134⟩
noncomputable abbrev Nm.H:Nm:=⟨136⟩
noncomputable abbrev Nm.k:Nm:=⟨137⟩
noncomputable abbrev Nm.cX:Nm:=⟨141⟩
noncomputable abbrev Nm.nF:Nm:=⟨144⟩
noncomputable abbrev Nm.m:Nm:=⟨145⟩
noncomputable abbrev Nm.fB:Nm:=⟨147⟩
noncomputable abbrev Nm.iM:Nm:=⟨150⟩
noncomputable abbrev Nm.jv:Nm:=⟨151⟩
noncomputable abbrev Nm.cC:Nm:=⟨152⟩
noncomputable abbrev Nm.ch:Nm:=⟨155⟩
noncomputable abbrev Nm.dy:Nm:=⟨156⟩
noncomputable abbrev Nm.eO:Nm:=⟨158⟩
noncomputable abbrev Nm.gW:Nm:=⟨159⟩
noncomputable abbrev Nm.js:Nm:=⟨162⟩
noncomputable abbrev Nm.gV:Nm:=⟨164⟩
noncomputable abbrev Nm.gU:Nm:=⟨165⟩
noncomputable abbrev Nm.j:Nm:=⟨167⟩
noncomputable abbrev Nm.J:Nm:=⟨169⟩
noncomputable abbrev Nm.L:Nm:=⟨170⟩
noncomputable abbrev Nm.T:Nm:=⟨174⟩
noncomputable abbrev Nm.eh:Nm:=⟨177⟩
noncomputable abbrev Nm.cB:Nm:=⟨178⟩
noncomputable abbrev Nm.eJ:Nm:=⟨181⟩
noncomputable abbrev Nm.fG:Nm:=⟨184⟩
noncomputable abbrev Nm.bM:Nm:=⟨185⟩
noncomputable abbrev Nm.dC:Nm:=⟨186⟩
noncomputable abbrev Nm.ja:Nm:=⟨198⟩
noncomputable abbrev Nm.gq:Nm:=⟨199⟩
noncomputable abbrev Nm.Z:Nm:=⟨200⟩
noncomputable abbrev Nm.v:Nm:=⟨204⟩
noncomputable abbrev Nm.b9:Nm:=⟨205⟩
noncomputable abbrev Nm.cE:Nm:=⟨206⟩
noncomputable abbrev Nm.r:Nm:=⟨207⟩
noncomputable abbrev Nm.fP:Nm:=⟨208⟩
noncomputable abbrev Nm.dQ:Nm:=⟨209⟩
noncomputable abbrev Nm.K:Nm:=⟨210⟩
noncomputable abbrev Nm.fk:Nm:=⟨213⟩
noncomputable abbrev Nm.U:Nm:=⟨219⟩
noncomputable abbrev Nm.Y:Nm:=⟨220⟩
noncomputable abbrev Nm.fi:Nm:=⟨221⟩
noncomputable abbrev Nm.bO:Nm:=⟨227⟩
noncomputable abbrev Nm.bh:Nm:=⟨230⟩
noncomputable abbrev Nm.bY:Nm:=⟨231⟩
noncomputable abbrev Nm.dI:Nm:=⟨233⟩
noncomputable abbrev Nm.bX:Nm:=⟨234⟩
noncomputable abbrev Nm.a8:Nm:=⟨236⟩
noncomputable abbrev Nm.bf:Nm:=⟨237⟩
noncomputable abbrev Nm.fQ:Nm:=⟨245⟩
noncomputable abbrev Nm.bD:Nm:=⟨252⟩
noncomputable abbrev Nm.eZ:Nm:=⟨255⟩
noncomputable abbrev Nm.aU:Nm:=⟨257⟩
noncomputable abbrev Nm.dJ:Nm:=⟨258⟩
noncomputable abbrev Nm.dR:Nm:=⟨260⟩
noncomputable abbrev Nm.bp:Nm:=⟨265⟩
noncomputable abbrev Nm.c8:Nm:=⟨267⟩
noncomputable abbrev Nm.c7:Nm:=⟨268⟩
noncomputable abbrev Nm.bc:Nm:=⟨269⟩
noncomputable def J2:qe Str:=([".", "k", "s", "IF", "If", "at", "no", "op", "Box", "FIX", "Fix", "SEQ", "Seq", "TOP", "abs", "box", "car", "cdr", "due", "end", "env", "eq?", "fix", "fun", "get", "int", "key", "law", "len", "let", "met", "not", "one", "ops", "ord", "own", "pop", "row", "set", "way", "yes", "zip", "CALL", "Call", "Char", "Node", "PRIM", "Pair", "Prim", "Text", "args", "body", "bool", "call", "cell", "char", "code", "cons", "deck", "deep", "dict", "done", "find", "fold", "free", "gone", "head", "here", "hint", "item", "kind", "last", "left", "lets", "list", "made", "many", "meet", "more", "name", "node", "none", "ones", "pair", "part", "port", "read", "rest", "root", "rows", "self", "size", "sort", "test", "text", "told", "turn", "word", "ATOMS", "CONST", "Const", "EMPTY", "Facts", "LOCAL", "Local", "Names", "QUIET", "_wall", "again", "alive", "arity", "bound", "cells", "codes", "datum", "empty", "error", "facts", "first", "found", "fresh", "inner", "items", "known", "label", "mixed", "names", "nodes", "op_at", "op_of", "other", "pair?", "parts", "place", "plain", "range", "scope", "state", "table", "takes", "thing", "title", "trace", "truth", "tuple", "value", "whole", "words", "DEFINE", "GLOBAL", "Global", "LAMBDA", "Lambda", "Symbol", "Vector", "append", "called", "can_go", "caught", "change", "copied", "counts", "extend", "failed", "is_let", "is_set", "letter", "number", "others", "params", "parent", "places", "script", "string", "symbol", "things", "titles", "turned", "values", "vector", "within", "Copying", "PortRef", "Promise", "Putting", "Special", "binders", "boolean", "by_text", "callees", "content", "dropped", "globals", "is_atom", "is_done", "is_left", "is_pair", "lambdas", "nothing", "numbers", "operand", "promise", "rebuilt", "unbound", "waiting", "Dropping", "SetLocal", "__init__", "_law_let", "_law_one", "_law_run", "_law_use", "alive_in", "count_in", "facts_of", "give_ops", "has_rest", "is_quiet", "let_node", "operands", "operator", "ordinary", "reads_of", "title_of", "PRIM_ROWS", "Procedure", "SET_LOCAL", "SetGlobal", "_law_deck", "_law_deed", "_law_draw", "_law_fail", "_law_leaf", "_law_made", "_law_prim", "_law_same", "_law_seen", "_law_want", "all_nodes", "by_number", "enumerate", "gives_one", "is_unread", "kind_word", "make_text", "note_node", "procedure", "set_title", "SET_GLOBAL", "UNASSIGNED", "ValueError", "_law_acted", "_law_value", "effects_of", "isinstance", "times_read", "unassigned", "with_parts", "SymbolTable", "UNSPECIFIED", "_law_called", "_law_lambda", "dropped_fix", "dropped_let", "is_interned", "set_globals", "unspecified", "_law_is_well", "_law_outcome", "read_globals", "times_called", "_law_operands", "are_same_list", "is_set_global", "is_unassigned", "number_of_name", "text_of_symbol", "without_locals"]:qe acr).map Zq
def Nm.t(n:Nm):Str:=J2[n.i]?.getD ⟨#[n.i]⟩
noncomputable def OB(s:Str):qc:=s.cps.toList.foldl (λacc c=>acc*256+c) 1
def wH:qe qc->qw:=@List.rec qc (λc=>qw) hY λa l ih=>(l.head?.all λb=>zO a b)&&ih
theorem G4(h:wH l=hY):l.Pairwise (· <·):=by
 have key:∀l:qe qc,wH l=hY->l.Pairwise (· <·)/\∀a,(l.head?.all λb=>zO a b)=hY->∀b∈l,a<b:=λl=>by
  induction l with
  |nil=>exactλd=>⟨.nil,λd d d h=>nomatch h⟩
  |cons a l ih=>
   intro h;obtain⟨h1,h2⟩:=q8.mp (show((l.head?.all λb=>zO a b)&&wH l)=hY from h);have k:=(ih h2).2 a h1;refine⟨.cons k (ih h2).1,λc hc b hb=>?_⟩;have ca:c<a:=xo hc;rcases qG.mp hb with e|hb
   ·exact e▸ca
   ·exact zU ca<|k b hb
 exact(key l h).1
theorem SH:wH (J2.map OB)=hY:=by decide+kernel
theorem Y2:(J2.all λs=>s.cps.toList.all λc=>zO c 278)=hY:=by decide+kernel
theorem uK:J2.length=278:=by decide+kernel
theorem Nm.wX{n:Nm}(h:n.i<278):J2[n.i]?=dA n.t:=by
 unfold Nm.t;rw[xe (uK▸h)];rfl
theorem Nm.sJ{n:Nm}(h:¬n.i<278):n.t=⟨#[n.i]⟩:=by
 unfold Nm.t;rw[acw (uK▸FB h)];rfl
theorem Nm.V6{a b:Nm}(ha:a.i<278)(hb:¬b.i<278)(h:a.t=b.t):qp:=by
 have l:=qV.mp Y2 _<|xX (Nm.wX ha);rw[h,Nm.sJ hb]at l;have l:(zO b.i 278&&hY)=hY:=l;rw[xn]at l;exact hb<|xo l
theorem Nm.hV{a b:Nm}:a.t=b.t↔a=b:=by
 refine⟨λh=>?_,λh=>h▸dq⟩;have fin:a.i=b.i->a=b:=λe=>by cases a;cases b;exact qh _ e
 by_cases ha:a.i<278<;>by_cases hb:b.i<278
 ·have P:=List.pairwise_iff_getElem.mp (G4 SH)
  have key:∀{a b:Nm},a.i<278->b.i<278->a.i<b.i->OB a.t<OB b.t:=λ{a b} ha hb d=>by
   have:=P a.i b.i (by rw[qI,uK];exact ha) (by rw[qI,uK];exact hb) d
   rw[ajU,ajU]at this;have e:∀{c:Nm} (hc:c.i<J2.length),J2[c.i]=c.t:=λhc=>qA<|(xe hc).symm.trans (Nm.wX<|uK▸hc);rwa [e,e]at this
  rcases Nat.lt_trichotomy a.i b.i with q|q|q
  ·exact qH (key ha hb q)<|h▸xr _
  ·exact fin q
  ·exact qH (key hb ha q)<|h▸xr _
 ·exact(Nm.V6 ha hb h).elim
 ·exact(Nm.V6 hb ha h.symm).elim
 ·rw[Nm.sJ ha,Nm.sJ hb]at h;exact fin<|qh (λs:Str=>s.cps[0]!) h
section
inductive AV where
 |u|q (b:qw)|j (i:qd)|t (s:Str)|d (a:qc)
noncomputable def AV.ctorIdx(a:AV):qc:=@AV.casesOn (λa=>qc) a 0 (λa=>1) (λa=>2) (λa=>3) (λa=>4)
inductive dZ where
 |F (l:qe AV)|i (l:qe AV)|H (l:qe AV)|d (l:qe (qd×AV))|j (l:qe (Str×AV))|f (c:Nm) (dx:qc) (l:qe (Nm×AV))|y (c m:Nm) (self:qc)
noncomputable def dZ.ctorIdx(a:dZ):qc:=@dZ.casesOn (λa=>qc) a (λa=>0) (λa=>1) (λa=>2) (λa=>3) (λa=>4) (λa a a=>5) (λa a a=>6)
theorem AV.d.inj(h:AV.d a=.d b):a=b:=by cases h;rfl
theorem AV.t.inj(h:AV.t a=.t b):a=b:=by cases h;rfl
theorem dZ.H.inj(h:dZ.H a=.H b):a=b:=by cases h;rfl
abbrev St:=qc->qk dZ
abbrev dz:=Nm->qk AV
noncomputable def St.H(st:St)(a:qc)(c:dZ):St:=λb=>if b=a then dA c else st b
noncomputable def dz.H(l:dz)(x:Nm)(v:AV):dz:=λy=>if y=x then dA v else l y
set_option genInjectivity false
set_option genCtorIdx true
inductive Fy where|g|s|e|c|d|f
inductive Bf where|C|vp|iL|yA|nF|B|kC
inductive Lm where|ch|jI|js|kF
set_option genCtorIdx false
mutual
inductive Ex where
 |u|q (b:qw)|j (i:qd)|t (n:Nm)|s (x:Nm)|B (x:Nm)
 |C (op:Fy) (a b:Ex)|L (a:Ex)|v (a:Ex)|g (op:aeN) (a b:Ex)|I (l:jM)|N (l:jM)|D (c a b:Ex)
 |F (l:jM)|H (l:jM)|w (i:qw) (l:jM)
 |z (elt:Ex) (xs:qe Nm) (it:It)|O (elt:Ex) (xs:qe Nm) (it:It) (c:Ex)
 |d (e:Ex) (x:Nm)|r (e i:Ex)|A (e lo hi:Ex)|R (e:Ex)
 |h (f:Nm) (l:jM)|G (c:Nm) (l:jM)|y (o:Ex) (m:Nm) (l:jM)|P (x:Nm) (l:jM)
 |E (p:Bf) (l:jM)|K (e:Ex) (cs:qe Nm)|M (o:Ex) (m:Lm) (l:jM)
 |J(k:qw)(e:Ex)
inductive jM where
 |t|o (e:Ex) (l:jM)
inductive It where
 |F (e:Ex)|c (e:Ex)|d (a b:Ex)|f (e:Ex)
end
mutual
inductive Sm where
 |g (x:Nm) (e:Ex)|h (o:Ex) (x:Nm) (e:Ex)|n (o i e:Ex)|q (x y:Nm) (e:Ex)|r (x y:Nm) (a b:Ex)
 |l (e:Ex)|v (c:Ex) (a b:iH)|p (c:Ex) (b:iH)|j (xs:qe Nm) (it:It) (b:iH)|f (e:Ex)|m|C (b:iH) (x s d k:Nm)
inductive iH where
 |t|o (s:Sm) (l:iH)
end
set_option genCtorIdx true in
inductive lS where|r (f:Nm)|y (c m:Nm) deriving xt
structure Fn where
 b:qe Nm
 a:iH
abbrev dG:=lS->qe AV->(AV->St->Prop)->(St->Prop)->St->Prop
structure cV where
 d:qc
 a:qc
 b:qc
 n:qc
 J:qc
noncomputable def fm{α:Type}(l:qe (Nm×α))(x:Nm):qk α:=(l.find? (·.1==x)).map (·.2)
theorem ph{α:Type}{l:qe (Nm×α)}{x:Nm}{v:α}(h:fm l x=dA v):(x,v)∈l:=by
 obtain⟨p,a,e⟩:=qS.mp h;have e2:(p.1==x)=hY:=akd (p:=λq:Nm×α=>q.1==x) a;have b:=zI a;rwa [show p=(x,v)from akh (eq_of_beq e2) e]at b
def aew:qe (Nm×qd):=[(.X,-1),(.jZ,0),(.ju,1),(.iM,2),(.cE,3),(.bO,4),(.s9,6),(.cC,7),(.fX,8),(.jJ,9),(.jt,10),(.lY,11)]
def eK(c:Nm):qk qd:=fm aew c
def yP(T:cV)(x:Nm):qk AV:=fm [(⟨99⟩,.j 0),(.lX,.j 1),(⟨149⟩,.j 2),(⟨226⟩,.j 3),(⟨248⟩,.j 4),(⟨148⟩,.j 5),(⟨3⟩,.j 6),(.jv,.j 7),(⟨42⟩,.j 8),(⟨11⟩,.j 9),(⟨46⟩,.j 10),
 (⟨9⟩,.j 11),(⟨13⟩,.j (-1)),(⟨106⟩,.j 0),(⟨101⟩,.d T.d),(⟨259⟩,.d T.a),(⟨249⟩,.d T.b),(⟨98⟩,.d T.n),(⟨224⟩,.d T.J)] x
def iq(c:Nm):qw:=(eK c).isSome
def J9:qe Nm:=[.r]
def Y8:qe Nm:=[.r,.u,.aU]
def N9:qe (Nm×qe Nm):=[(.X,[.u,.aU]),(.jZ,J9),(.ju,J9),(.iM,J9),(.cE,Y8),(.bO,Y8),(.s9,Y8),(.fX,Y8),(.jJ,Y8),(.jt,Y8),(.lY,Y8),
 (.cC,[.r,.u,.aU,.dC,⟨139⟩]),(.bM,J9),(⟨153⟩,J9),(⟨47⟩,J9),(⟨44⟩,J9),(.N,J9),(⟨154⟩,J9),(⟨8⟩,J9),(⟨183⟩,J9),(⟨182⟩,J9),(⟨225⟩,J9),
 (.dJ,[.r,.T,.fc,⟨239⟩,⟨62⟩,⟨264⟩,⟨91⟩]),(.O,[.r,.gU,⟨273⟩,.eZ,⟨270⟩,⟨64⟩,.nH]),(.fG,[.r,.eh]),(.eJ,[.r,⟨157⟩,.eh]),
 (.b9,[.r,⟨242⟩,.eh,⟨262⟩,⟨263⟩]),(.ik,[.r,.fc,.T,⟨275⟩,⟨276⟩,⟨247⟩,⟨223⟩,⟨215⟩,⟨128⟩,⟨63⟩])]
def cA(c:Nm):qe Nm:=(fm N9 c).getD []
def cR(c m:Nm):qk lS:=
 if(cA c).contains m then dA (.y c m)else if iq c&&(cA .X).contains m then dA (.y .X m)else ft
noncomputable def eA{K α:Type} [xt K](l:qe (K×α))(k:K):qk α:=(l.find? λp=>decide<|p.1=k).map (·.2)
def kM{α:Type}(l:qe (Nm×α))(x:Nm)(v:α):qe (Nm×α):=@List.rec (Nm×α) (λa=>qe<|Nm×α) [(x,v)] (λp l ih=>if p.1=x then(x,v)::l else p::ih) l
noncomputable def jm{K α:Type} [xt K](l:qe (K×α))(k:K)(v:α):qe (K×α):=
 if l.any (λp=>decide<|p.1=k)then l.map (λp=>if p.1=k then(p.1,v)else p)else l++[(k,v)]
noncomputable def UX(b:qw):qd:=if b then 1 else 0
noncomputable def aH:qc:=1000000
noncomputable def eU:qc:=200
def Hp{α:Type}(E:α->α->qw->Prop)(l m:qe α)(b:qw):Prop:=∃g:qc->qw,(∀j x y,l[j]?=dA x->m[j]?=dA y->E x y (g j))/\(zL<|min l.length m.length).all g=b
inductive u9(E:AV->AV->qw->Prop)(st:St):AV->AV->qw->Prop
 |u:u9 E st .u .u hY
 |g{a b}:u9 E st (.q a) (.q b) (a==b)
 |c{a b}:u9 E st (.j a) (.j b) (a==b)
 |t{a b}:u9 E st (.q a) (.j b) (UX a==b)
 |v{a b}:u9 E st (.j a) (.q b) (a==UX b)
 |j{a b}:u9 E st (.t a) (.t b) (a==b)
 |N{a}:u9 E st (.d a) (.d a) hY
 |F{a b l m r}(ne:a≠b)(ea:st a=dA (.F l))(eb:st b=dA (.F m))(hl:l.length=m.length)(h:Hp E l m r):u9 E st (.d a) (.d b) r
 |f{a b l m}(ne:a≠b)(ea:st a=dA (.F l))(eb:st b=dA (.F m))(hl:l.length≠m.length):u9 E st (.d a) (.d b) np
 |H{a b l m r}(ne:a≠b)(ea:st a=dA (.H l))(eb:st b=dA (.H m))(h:Hp E l m r):u9 E st (.d a) (.d b) (r&&l.length==m.length)
 |y{a b d l d' l'}(ne:a≠b)(ea:st a=dA (.f .N d l))(eb:st b=dA (.f .N d' l')):u9 E st (.d a) (.d b) np
 |p{a b d l m}(ne:a≠b)(ea:st a=dA (.f .N d l))(eb:st b=dA (.H m)):u9 E st (.d a) (.d b) np
 |k{a b d l m}(ne:a≠b)(ea:st a=dA (.H m))(eb:st b=dA (.f .N d l)):u9 E st (.d a) (.d b) np
 |w{i b m}(eb:st b=dA (.H m)):u9 E st (.j i) (.d b) np
 |q{i a m}(ea:st a=dA (.H m)):u9 E st (.d a) (.j i) np
 |e{i b m}(eb:st b=dA (.H m)):u9 E st (.t i) (.d b) np
 |n{i a m}(ea:st a=dA (.H m)):u9 E st (.d a) (.t i) np
 |o{b m}(eb:st b=dA (.H m)):u9 E st .u (.d b) np
 |s{a m}(ea:st a=dA (.H m)):u9 E st (.d a) .u np
def Qy(st:St)(n:qc):AV->AV->qw->Prop:=@Nat.rec (λa=>AV->AV->qw->Prop) (λa a a=>qp) (λa E=>u9 E st) n
inductive Qx(st:St):AV->AV->qw->Prop
 |A{v w b}(ne:∀a,v=.d a->w≠.d a)(h:Qy st eU v w b):Qx st v w b
 |y{a d l}(e:st a=dA (.f .N d l)):Qx st (.d a) (.d a) hY
 |F{a l r}(e:st a=dA (.F l))(h:Hp (Qy st 199) l l r):Qx st (.d a) (.d a) r
 |H{a l r}(e:st a=dA (.H l))(h:Hp (Qy st 199) l l r):Qx st (.d a) (.d a) r
inductive Qq(st:St):AV->AV->qw->Prop
 |c{a b}:Qq st (.j a) (.j b) (a !=b)
 |j{a b}:Qq st (.t a) (.t b) (a !=b)
 |n{a m s}(e:st a=dA (.H m)):Qq st (.d a) (.t s) hY
 |F{a b l m r}(ea:st a=dA (.F l))(eb:st b=dA (.F m))(hl:l.length=m.length)(h:Hp (Qy st 199) l m r):Qq st (.d a) (.d b) (!r)
 |f{a b l m}(ea:st a=dA (.F l))(eb:st b=dA (.F m))(hl:l.length≠m.length):Qq st (.d a) (.d b) hY
def InL(st:St)(v:AV)(l:qe AV)(b:qw):Prop:=∃g:AV->qw,(∀w∈l,Qy st eU w v<|g w)/\l.any g=b
inductive Ho(st:St)(cs:qe Nm):AV->qw->Prop
 |q{b}:Ho st cs (.q b) (cs.any λk=>k==.gX||k==.iL)
 |j{i}:Ho st cs (.j i) (cs.any λk=>k==.iL)
 |f{a c d l}(e:st a=dA (.f c d l)):Ho st cs (.d a) (cs.any λk=>k==c||(iq c&&k==.X))
 |F{a l}(e:st a=dA (.F l)):Ho st cs (.d a) (cs.any λk=>k==.B)
 |H{a l}(e:st a=dA (.H l)):Ho st cs (.d a) (cs.any λzz=>np)
inductive Fw(st:St):AV->AV->qw->Prop
 |g{a b}:Fw st (.q a) (.q b) (a==b)
 |N{a}:Fw st (.d a) (.d a) hY
 |F{a b l c}(ne:a≠b)(e:st a=dA (.F l))(e':st b=dA c):Fw st (.d a) (.d b) np
 |f{a b k d l c}(ne:a≠b)(e:st a=dA (.f k d l))(e':st b=dA c):Fw st (.d a) (.d b) np
 |m{a}:Fw st (.d a) .u np
 |o:Fw st .u .u hY
 |n{a i}:Fw st (.d a) (.j i) np
 |K{a i}:Fw st (.d a) (.q i) np
 |h{a i}:Fw st (.j i) (.d a) np
 |j{a i}:Fw st (.q i) (.d a) np
inductive Fu(st:St)(v:AV):AV->qw->Prop
 |F{a l b}(e:st a=dA (.F l))(h:InL st v l b):Fu st v (.d a) b
 |H{a l b}(e:st a=dA (.H l))(h:InL st v l b):Fu st v (.d a) b
 |d{a l k}(e:st a=dA (.d l))(h:v=.j k):Fu st v (.d a) (eA l k).isSome
 |j{a l k}(e:st a=dA (.j l))(h:v=.t k):Fu st v (.d a) (eA l k).isSome
inductive v6(st:St):aeN->AV->AV->qw->Prop
 |o{v w b}(h:Qx st v w b):v6 st .Eq v w b
 |c{v w b}(h:Qq st v w b):v6 st .NotEq v w b
 |d{v w b}(h:Fw st v w b):v6 st .Is v w b
 |e{v w b}(h:Fw st v w b):v6 st .IsNot v w (!b)
 |A{v w b}(h:Fu st v w b):v6 st .In v w b
 |f{v w b}(h:Fu st v w b):v6 st .NotIn v w (!b)
 |y{a b}:v6 st .Lt (.j a) (.j b) (decide<|a<b)
 |I{a b}:v6 st .LtE (.j a) (.j b) (decide<|a<=b)
 |g{a b}:v6 st .Gt (.j a) (.j b) (decide<|a>b)
 |i{a b}:v6 st .GtE (.j a) (.j b) (decide<|a>=b)
inductive Lw(n d:qc):AV->qc->Prop
 |u:Lw n d .u d
 |j{i k}(h:acD n i=k):Lw n d (.j i) k
noncomputable def u1{α:Type}(l:qe α)(i:qd):qk α:=if i<0 then(if 0<=i+l.length then l[(i+l.length).toNat]? else ft)else l[i.toNat]?
inductive Qu(st:St):AV->AV->AV->Prop
 |F{a l i v}(e:st a=dA (.F l))(n:l.length<aH)(h:u1 l i=dA v):Qu st (.d a) (.j i) v
 |H{a l i v}(e:st a=dA (.H l))(n:l.length<aH)(h:u1 l i=dA v):Qu st (.d a) (.j i) v
 |d{a l k v}(e:st a=dA (.d l))(h:eA l k=dA v):Qu st (.d a) (.j k) v
 |j{a l k v}(e:st a=dA (.j l))(h:eA l k=dA v):Qu st (.d a) (.t k) v
section
variable(T:cV)(C:dG)
@[irreducible] def dW(c:dZ)(Q:AV->St->Prop)(st:St):Prop:=∀a,st a=ft->Q (.d a) (st.H a c)
def jn(i:qd):Prop:=i.natAbs<2^63
inductive u0:Fy->AV->AV->(AV->St->Prop)->St->Prop
 |g{a b Q st}(q:Q (.j<|a+b) st):u0 .g (.j a) (.j b) Q st
 |s{a b Q st}(q:Q (.j<|a-b) st):u0 .s (.j a) (.j b) Q st
 |e{a b Q st}(h:jn a\/jn b)(q:Q (.j<|a*b) st):u0 .e (.j a) (.j b) Q st
 |c{a b Q st}(h:0<b)(k:b<1000000)(q:Q (.j<|a.fdiv b) st):u0 .c (.j a) (.j b) Q st
 |d{a b Q st}(h:0<b)(q:Q (.j<|a.fmod b) st):u0 .d (.j a) (.j b) Q st
 |f{Q:AV->St->Prop}{st}(q:Q (.j 1000000000000000000) st):u0 .f (.j 10) (.j 18) Q st
 |i{a b l m Q}{st:St}(ea:st a=dA (.F l))(eb:st b=dA (.F m))(n:l.length+m.length<aH)(q:dW (.F<|l++m) Q st):u0 .g (.d a) (.d b) Q st
inductive Y5(v:AV)(Q:AV->St->Prop)(st:St):Prop
 |mk(i:qd)(h:v=.j i)(q:Q (.j (-i)) st):Y5 v Q st
inductive PG(op:aeN)(v w:AV)(Q:AV->St->Prop)(st:St):Prop
 |mk(b:qw)(h:v6 st op v w b)(q:Q (.q b) st):PG op v w Q st
inductive Ty(cs:qe Nm)(v:AV)(Q:AV->St->Prop)(st:St):Prop
 |mk(b:qw)(h:Ho st cs v b)(q:Q (.q b) st):Ty cs v Q st
def jl(v:AV)(Q:qw->Prop):Prop:=match v with
 |.q b=>Q b
 |_=>qp
inductive vJ:AV->Nm->(AV->St->Prop)->St->Prop
 |J{a c d l x v Q}{st:St}(e:st a=dA (.f c d l))(h:fm l x=dA v)(q:Q v st):vJ (.d a) x Q st
 |b{a c d l k Q}{st:St}(e:st a=dA (.f c d l))(h:fm l .w=ft)(hk:eK c=dA k)(q:Q (.j k) st):vJ (.d a) .w Q st
 |y{a c d l x k m Q}{st:St}(e:st a=dA (.f c d l))(h:fm l x=ft)(hm:cR c x=dA (.y k m))(q:dW (.y k m a) Q st):vJ (.d a) x Q st
inductive TH(v i:AV)(Q:AV->St->Prop)(st:St):Prop
 |mk(w:AV)(h:Qu st v i w)(q:Q w st):TH v i Q st
inductive w6:AV->AV->AV->(AV->St->Prop)->St->Prop
 |mk{a l lo hi x y Q}{st:St}(e:st a=dA (.F l)\/st a=dA (.i l))(n:l.length<aH)(h:Lw l.length 0 lo x)(k:Lw l.length l.length hi y)(q:dW (.F<|(l.take y).drop x) Q st):w6 (.d a) lo hi Q st
inductive R9:AV->(AV->St->Prop)->St->Prop
 |mk{a l Q}{st:St}(e:st a=dA (.F l))(n:l.length<aH)(q:dW (.F l.reverse) Q st):R9 (.d a) Q st
def DictOf(st:St)(l:qe AV):qe (qd×AV)->qe (qd×AV)->Prop:=@List.rec AV (λb=>qe (qd×AV)->qe (qd×AV)->Prop) (λacc m=>acc=m) (λv b ih acc m=>∃a k w,v=.d a/\st a=dA (.H [.j k,w])/\ih (jm acc k w) m) l
inductive EZ:qw->qe AV->(AV->St->Prop)->St->Prop
 |i{l:qe (qd×AV)}{Q st}(q:dW (.d<|l.foldl (λacc p=>jm acc p.1 p.2) []) Q st):EZ hY (l.flatMap λp=>[.j p.1,p.2]) Q st
 |s{l:qe (Str×AV)}{Q st}(q:dW (.j<|l.foldl (λacc p=>jm acc p.1 p.2) []) Q st):EZ np (l.flatMap λp=>[.t p.1,p.2]) Q st
inductive Gf:Bf->qe AV->(AV->St->Prop)->St->Prop
 |f{a l Q}{st:St}(e:st a=dA (.F l))(n:l.length<aH)(q:Q (.j l.length) st):Gf .C [.d a] Q st
 |g{a l Q}{st:St}(e:st a=dA (.H l))(n:l.length<aH)(q:Q (.j l.length) st):Gf .C [.d a] Q st
 |k{a l Q}{st:St}(e:st a=dA (.d l))(n:l.length<aH)(q:Q (.j l.length) st):Gf .C [.d a] Q st
 |o{i}{Q:AV->St->Prop}{st}(q:Q (.j i.natAbs) st):Gf .vp [.j i] Q st
 |j{b Q st}(q:Q (.j<|UX b) st):Gf .iL [.q b] Q st
 |p{s:Str}{c:qc}{Q st}(h:s.cps.toList=[c])(q:Q (.j c) st):Gf .yA [.t s] Q st
 |d{a l Q}{st:St}(e:st a=dA (.F l))(n:l.length<aH)(q:dW (.H l) Q st):Gf .nF [.d a] Q st
 |F{a l Q}{st:St}(e:st a=dA (.F l))(n:l.length<aH)(q:dW (.F l) Q st):Gf .B [.d a] Q st
 |r{a l Q}{st:St}(e:st a=dA (.d l))(n:l.length<aH)(q:dW (.d l) Q st):Gf .kC [.d a] Q st
 |t{a l m Q}{st:St}(e:st a=dA (.F l))(n:l.length<aH)(h:DictOf st l [] m)(q:dW (.d m) Q st):Gf .kC [.d a] Q st
inductive PX:Lm->AV->St->Prop
 |F{m a l}{st:St}(e:st a=dA (.F l))(h:m≠.kF):PX m (.d a) st
 |H{a l}{st:St}(e:st a=dA (.d l)):PX .kF (.d a) st
inductive LN:Lm->AV->qe AV->(AV->St->Prop)->St->Prop
 |f{a l w Q}{st:St}(e:st a=dA (.F l))(n:l.length<aH)(q:Q .u (st.H a<|.F (l++[w]))):LN .ch (.d a) [w] Q st
 |D{a l w Q}{st:St}(e:st a=dA (.F l))(n:l.length<aH)(h:l.getLast?=dA w)(q:Q w (st.H a<|.F l.dropLast)):LN .jI (.d a) [] Q st
 |c{a l w Q}{st:St}(e:st a=dA (.F<|w::l))(n:l.length<aH)(q:Q w (st.H a<|.F l)):LN .jI (.d a) [.j 0] Q st
 |g{a b l k Q}{st:St}(ne:a≠b)(e:st a=dA (.F l))(e':st b=dA (.F k))(n:l.length+k.length<aH)(q:Q .u (st.H a<|.F (l++k))):LN .js (.d a) [.d b] Q st
 |H{a l k d Q}{st:St}(e:st a=dA (.d l))(q:Q ((eA l k).getD d) st):LN .kF (.d a) [.j k,d] Q st
@[irreducible] def Gw(c:Nm)(vs:qe AV)(Q:AV->St->Prop)(X:St->Prop)(st:St):Prop:=
 cR c .r=dA (.y c .r)/\∀a dx,st a=ft->C (.y c .r) (.d a::vs) (λv ba=>v=.u/\Q (.d a) ba) X (st.H a<|.f c dx [])
inductive Ie:AV->Nm->St->(lS->qc->Prop)->Prop
 |mk{a c d l m f K}{st:St}(e:st a=dA (.f c d l))(h:fm l m=ft)(hm:cR c m=dA f)(q:K f a):Ie (.d a) m st K
inductive Xk:qk AV->qe AV->(AV->St->Prop)->(St->Prop)->St->Prop
 |mk{a c m self vs Q X}{st:St}(e:st a=dA (.y c m self))(q:C (.y c m) (.d self::vs) Q X st):Xk (dA<|.d a) vs Q X st
def Gm(v:qk AV)(Q:AV->St->Prop)(st:St):Prop:=match v with
 |some v=>Q v st
 |none=>qp
def mr(xs:qe Nm)(vs:qe AV)(ρ:dz)(st:St)(Q:dz->Prop):Prop:=match xs,vs with
 |[x],[v]=>Q<|ρ.H x v
 |[x,y],[v,w]=>Q<|(ρ.H x v).H y w
 |[x,y],[v]=>∃a c d,v=.d a/\st a=dA (.H [c,d])/\Q ((ρ.H x c).H y d)
 |_,_=>qp
abbrev oF:=qe<|qc×dZ
def oF.c(fJ:oF)(st:St):Prop:=∀p∈fJ,st p.1=dA p.2
noncomputable def Bo(fJ:oF)(cy:qe AV->(qk AV->St->Prop)->St->Prop):qe (qe AV)->qe AV->(qe AV->St->Prop)->St->Prop
 |[],acc,Q,st=>fJ.c st/\acc.length<aH/\Q acc st
 |vs::l,acc,Q,st=>fJ.c st/\acc.length<aH/\cy vs (λv st=>Bo fJ cy l (match v with|some v=>acc++[v]|none=>acc) Q st) st
noncomputable def wj(n:qd):qe (qe AV):=(zL n.toNat).map λ(i:qc)=>[AV.j i]
noncomputable def sW(l m:qe AV):qe (qe AV):=(l.zip m).map λp=>[p.1,p.2]
noncomputable def uW(l:qe AV):qe (qe AV):=l.zipIdx.map λp=>[.j p.2,p.1]
noncomputable def sK(s:Str):qe (qe AV):=s.cps.toList.map λc=>[AV.t ⟨#[c]⟩]
inductive pX:AV->(oF->qe (qe AV)->St->Prop)->St->Prop
 |F{a l Q}{st:St}(e:st a=dA (.F l))(q:Q [(a,.F l)] (l.map λv=>[v]) st):pX (.d a) Q st
 |H{a l Q}{st:St}(e:st a=dA (.H l))(q:Q [(a,.H l)] (l.map λv=>[v]) st):pX (.d a) Q st
 |t{s Q st}(q:Q [] (sK s) st):pX (.t s) Q st
inductive F6:AV->(oF->qe (qe AV)->St->Prop)->St->Prop
 |mk{n:qd}{Q st}(h:0<=n)(k:n<aH)(q:Q [] (wj n) st):F6 (.j n) Q st
inductive W8:AV->AV->(oF->qe (qe AV)->St->Prop)->St->Prop
 |mk{a b l m Q}{st:St}(e:st a=dA (.F l))(e':st b=dA (.F m))(q:Q [(a,.F l),(b,.F m)] (sW l m) st):W8 (.d a) (.d b) Q st
inductive Pu:AV->(oF->qe (qe AV)->St->Prop)->St->Prop
 |mk{a l Q}{st:St}(e:st a=dA (.H l))(q:Q [(a,.H l)] (uW l) st):Pu (.d a) Q st
abbrev AQ:=AV->St->Prop
abbrev LQ:=qe AV->St->Prop
def kB2(op:Fy)(v:AV)(Q:AQ):AQ:=λw st=>u0 op v w Q st
def kB1(op:Fy)(wb:AQ->St->Prop)(Q:AQ):AQ:=λv st=>wb (kB2 op v Q) st
def ajm(Q:AQ):AQ:=λv st=>Y5 v Q st
def ajk(Q:AQ):AQ:=λv st=>jl v λb=>Q (.q !b) st
def kC2(op:aeN)(v:AV)(Q:AQ):AQ:=λw st=>PG op v w Q st
def kC1(op:aeN)(wb:AQ->St->Prop)(Q:AQ):AQ:=λv st=>wb (kC2 op v Q) st
def kIf(a b:St->Prop):AQ:=λv st=>jl v λt=>if t then a st else b st
def ajr(a:St->Prop)(Q:AQ):AQ:=λv st=>jl v λt=>if t then a st else Q (.q np) st
def kOr(a:St->Prop)(Q:AQ):AQ:=λv st=>jl v λt=>if t then Q (.q hY) st else a st
def OF(Q:AQ):LQ:=λvs st=>dW (.F vs) Q st
def ajc(Q:AQ):LQ:=λvs st=>dW (.H vs) Q st
def aeF(i:qw)(Q:AQ):LQ:=λvs st=>EZ i vs Q st
def aeH(x:Nm)(Q:AQ):AQ:=λv st=>vJ v x Q st
def kI2(v:AV)(Q:AQ):AQ:=λi st=>TH v i Q st
def kI1(wi:AQ->St->Prop)(Q:AQ):AQ:=λv st=>wi (kI2 v Q) st
def kS3(v lo:AV)(Q:AQ):AQ:=λhi st=>w6 v lo hi Q st
def kS2(v:AV)(wh:AQ->St->Prop)(Q:AQ):AQ:=λlo st=>wh (kS3 v lo Q) st
def kS1(wl wh:AQ->St->Prop)(Q:AQ):AQ:=λv st=>wl (kS2 v wh Q) st
def aje(Q:AQ):AQ:=λv st=>R9 v Q st
def aeG(f:Nm)(Q:AQ)(X:St->Prop):LQ:=λvs st=>C (.r f) vs Q X st
def ajl(c:Nm)(Q:AQ)(X:St->Prop):LQ:=λvs st=>Gw C c vs Q X st
def kM2(f:lS)(a:qc)(Q:AQ)(X:St->Prop):LQ:=λvs st=>C f (.d a::vs) Q X st
def aeB(m:Nm)(wl:LQ->St->Prop)(Q:AQ)(X:St->Prop):AQ:=λv st=>Ie v m st λf a=>wl (kM2 C f a Q X) st
def ajb(v:qk AV)(Q:AQ)(X:St->Prop):LQ:=λvs st=>Xk C v vs Q X st
def kPr(p:Bf)(Q:AQ):LQ:=λvs st=>Gf p vs Q st
def ajn(cs:qe Nm)(Q:AQ):AQ:=λv st=>Ty cs v Q st
def ajp(m:Lm)(v:AV)(Q:AQ):LQ:=λvs st=>LN m v vs Q st
def kBm(m:Lm)(wl:LQ->St->Prop)(Q:AQ):AQ:=λv st=>PX m v st/\wl (ajp m v Q) st
def kE2(v:AV)(Q:LQ):LQ:=λvs st=>Q (v::vs) st
def kE1(wl:LQ->St->Prop)(Q:LQ):AQ:=λv st=>wl (kE2 v Q) st
def Wf(K:qk AV->St->Prop):AQ:=λv st=>K (dA v) st
def aeD(xs:qe Nm)(ρ:dz)(w:dz->AQ->St->Prop)(Q:AQ):oF->qe (qe AV)->St->Prop:=λfJ items st=>Bo fJ (λvs K st=>mr xs vs ρ st λaI=>w aI (Wf K) st) items [] (OF Q) st
def aap(xs:qe Nm)(ρ:dz)(w c:dz->AQ->St->Prop)(Q:AQ):oF->qe (qe AV)->St->Prop:=λfJ items st=>Bo fJ (λvs K st=>mr xs vs ρ st λaI=>c aI (kIf (w aI<|Wf K)<|K ft) st) items [] (OF Q) st
def kIt(Q:oF->qe (qe AV)->St->Prop):AQ:=λv st=>pX v Q st
def aan(Q:oF->qe (qe AV)->St->Prop):AQ:=λv st=>F6 v Q st
def kZ2(v:AV)(Q:oF->qe (qe AV)->St->Prop):AQ:=λw st=>W8 v w Q st
def kZ1(wb:AQ->St->Prop)(Q:oF->qe (qe AV)->St->Prop):AQ:=λv st=>wb (kZ2 v Q) st
def aeE(Q:oF->qe (qe AV)->St->Prop):AQ:=λv st=>Pu v Q st
mutual
noncomputable def wE:Ex->(St->Prop)->dz->AQ->St->Prop
 |.u,_,_,Q,st=>Q .u st
 |.q b,_,_,Q,st=>Q (.q b) st
 |.j i,_,_,Q,st=>Q (.j i) st
 |.t n,_,_,Q,st=>Q (.t n.t) st
 |.s x,_,ρ,Q,st=>Gm (ρ x) Q st
 |.B x,_,_,Q,st=>Gm (yP T x) Q st
 |.C op a b,X,ρ,Q,st=>wE a X ρ (kB1 op (wE b X ρ) Q) st
 |.L a,X,ρ,Q,st=>wE a X ρ (ajm Q) st
 |.v a,X,ρ,Q,st=>wE a X ρ (ajk Q) st
 |.g op a b,X,ρ,Q,st=>wE a X ρ (kC1 op (wE b X ρ) Q) st
 |.I l,X,ρ,Q,st=>Q6 l X ρ Q st
 |.N l,X,ρ,Q,st=>wOr l X ρ Q st
 |.D c a b,X,ρ,Q,st=>wE c X ρ (kIf (wE a X ρ Q)<|wE b X ρ Q) st
 |.F l,X,ρ,Q,st=>LA l X ρ (OF Q) st
 |.H l,X,ρ,Q,st=>LA l X ρ (ajc Q) st
 |.w i l,X,ρ,Q,st=>LA l X ρ (aeF i Q) st
 |.z elt xs it,X,ρ,Q,st=>wIt it X ρ (aeD xs ρ (wE elt X) Q) st
 |.O elt xs it c,X,ρ,Q,st=>wIt it X ρ (aap xs ρ (wE elt X) (wE c X) Q) st
 |.d e x,X,ρ,Q,st=>wE e X ρ (aeH x Q) st
 |.r e i,X,ρ,Q,st=>wE e X ρ (kI1 (wE i X ρ) Q) st
 |.A e lo hi,X,ρ,Q,st=>wE e X ρ (kS1 (wE lo X ρ) (wE hi X ρ) Q) st
 |.R e,X,ρ,Q,st=>wE e X ρ (aje Q) st
 |.h f l,X,ρ,Q,st=>LA l X ρ (aeG C f Q X) st
 |.G c l,X,ρ,Q,st=>LA l X ρ (ajl C c Q X) st
 |.y o m l,X,ρ,Q,st=>wE o X ρ (aeB C m (LA l X ρ) Q X) st
 |.P x l,X,ρ,Q,st=>(ρ x).isSome=hY/\LA l X ρ (ajb C (ρ x) Q X) st
 |.E p l,X,ρ,Q,st=>LA l X ρ (kPr p Q) st
 |.K e cs,X,ρ,Q,st=>wE e X ρ (ajn cs Q) st
 |.M o m l,X,ρ,Q,st=>wE o X ρ (kBm m (LA l X ρ) Q) st
 |.J _ e,X,ρ,Q,st=>wE e X ρ Q st
noncomputable def LA:jM->(St->Prop)->dz->LQ->St->Prop
 |.t,_,_,Q,st=>Q [] st
 |.o e l,X,ρ,Q,st=>wE e X ρ (kE1 (LA l X ρ) Q) st
noncomputable def Q6:jM->(St->Prop)->dz->AQ->St->Prop
 |.t,_,_,Q,st=>Q (.q hY) st
 |.o e l,X,ρ,Q,st=>wE e X ρ (ajr (Q6 l X ρ Q) Q) st
noncomputable def wOr:jM->(St->Prop)->dz->AQ->St->Prop
 |.t,_,_,Q,st=>Q (.q np) st
 |.o e l,X,ρ,Q,st=>wE e X ρ (kOr (wOr l X ρ Q) Q) st
noncomputable def wIt:It->(St->Prop)->dz->(oF->qe (qe AV)->St->Prop)->St->Prop
 |.F e,X,ρ,Q,st=>wE e X ρ (kIt Q) st
 |.c e,X,ρ,Q,st=>wE e X ρ (aan Q) st
 |.d a b,X,ρ,Q,st=>wE a X ρ (kZ1 (wE b X ρ) Q) st
 |.f e,X,ρ,Q,st=>wE e X ρ (aeE Q) st
end
abbrev SQ:=dz->St->Prop
def kLp(b:SQ->SQ)(P Q:SQ)(ρ:dz):AQ:=kIf (b P ρ)<|Q ρ
def ac3(c:dz->AQ->St->Prop)(b:SQ->SQ)(Q:SQ)(ρ:dz)(st:St):Prop:=
 ∀P:SQ,(∀ρ st,c ρ (kLp b P Q ρ) st->P ρ st)->P ρ st
inductive p7(x s d k:Nm)(Q:SQ)(ρ:dz)(st:St):Prop
 |mk{a l v}(h:ρ d=dA (.d a))(e:st a=dA (.j l))(hl:eA l k.t=dA v)(q:dW (.H [.t s.t,v]) (λr st=>Q (ρ.H x r) st) st):p7 x s d k Q ρ st
def Pd(fJ:oF)(cy:qe AV->SQ->SQ)(l:qe (qe AV)):SQ->SQ:=aif (motive:=λa=>SQ->SQ) (λQ ρ st=>fJ.c st/\Q ρ st) (λvs a ih Q ρ st=>fJ.c st/\cy vs (ih Q) ρ st) l
inductive sS:AV->Nm->AV->(St->Prop)->St->Prop
 |mk{a c dx l x v Q}{st:St}(e:st a=dA (.f c dx l))(h:cR c x=ft)(hk:x≠.w)(hs:c≠.bM)(q:Q (st.H a<|.f c dx (kM l x v))):sS (.d a) x v Q st
inductive pS:AV->AV->AV->(St->Prop)->St->Prop
 |F{a l}{i:qc}{v Q}{st:St}(e:st a=dA (.F l))(n:l.length<aH)(h:i<l.length)(q:Q (st.H a<|.F (l.set i v))):pS (.d a) (.j i) v Q st
 |d{a l k v Q}{st:St}(e:st a=dA (.d l))(n:l.length<aH)(q:Q (st.H a<|.d (jm l k v))):pS (.d a) (.j k) v Q st
 |j{a l k v Q}{st:St}(e:st a=dA (.j l))(n:l.length<aH)(q:Q (st.H a<|.j (jm l k v))):pS (.d a) (.t k) v Q st
def ajq(x:Nm)(ρ:dz)(Q:SQ):AQ:=λv st=>Q (ρ.H x v) st
def aji(x:Nm)(v:AV)(Q:St->Prop):AQ:=λo st=>sS o x v Q st
def ajj(x:Nm)(a:AQ->St->Prop)(Q:St->Prop):AQ:=λv st=>a (aji x v Q) st
def ajf(v o:AV)(Q:St->Prop):AQ:=λi st=>pS o i v Q st
def ajg(v:AV)(wi:AQ->St->Prop)(Q:St->Prop):AQ:=λo st=>wi (ajf v o Q) st
def ajh(a wi:AQ->St->Prop)(Q:St->Prop):AQ:=λv st=>a (ajg v wi Q) st
def ajd(xs:qe Nm)(ρ:dz)(Q:SQ):AQ:=λv st=>mr xs [v] ρ st λρ=>Q ρ st
def ajs(x y:Nm)(v:AV)(ρ:dz)(Q:SQ):AQ:=λw st=>Q ((ρ.H x v).H y w) st
def ajt(x y:Nm)(wb:AQ->St->Prop)(ρ:dz)(Q:SQ):AQ:=λv st=>wb (ajs x y v ρ Q) st
def kEx(Q:St->Prop):AQ:=λa st=>Q st
def ajo(xs:qe Nm)(b:SQ->SQ)(ρ:dz)(Q:SQ):oF->qe (qe AV)->St->Prop:=λfJ items st=>Pd fJ (λvs K ρ st=>mr xs vs ρ st λρ=>b K ρ st) items Q ρ st
mutual
noncomputable def wS:Sm->AQ->SQ->SQ->SQ
 |.g x e,_,X,Q,ρ,st=>wE T C e (X ρ) ρ (ajq x ρ Q) st
 |.h o x e,_,X,Q,ρ,st=>wE T C e (X ρ) ρ (ajj x (wE T C o (X ρ) ρ)<|Q ρ) st
 |.n o i e,_,X,Q,ρ,st=>wE T C e (X ρ) ρ (ajh (wE T C o (X ρ) ρ) (wE T C i (X ρ) ρ)<|Q ρ) st
 |.q x y e,_,X,Q,ρ,st=>wE T C e (X ρ) ρ (ajd [x,y] ρ Q) st
 |.r x y a b,_,X,Q,ρ,st=>wE T C a (X ρ) ρ (ajt x y (wE T C b (X ρ) ρ) ρ Q) st
 |.l e,_,X,Q,ρ,st=>wE T C e (X ρ) ρ (kEx<|Q ρ) st
 |.v c a b,R,X,Q,ρ,st=>wE T C c (X ρ) ρ (kIf (FK a R X Q ρ)<|FK b R X Q ρ) st
 |.p c b,R,_,Q,ρ,st=>ac3 (wE T C c λf=>qp) (FK b R λf f=>qp) Q ρ st
 |.j xs it b,R,X,Q,ρ,st=>wIt T C it (X ρ) ρ (ajo xs (FK b R X) ρ Q) st
 |.f e,R,X,_,ρ,st=>wE T C e (X ρ) ρ R st
 |.m,_,X,_,ρ,st=>X ρ st
 |.C b x s d k,R,_,Q,ρ,st=>FK b R (p7 x s d k Q) Q ρ st
noncomputable def FK:iH->AQ->SQ->SQ->SQ
 |.t,_,_,Q,ρ,st=>Q ρ st
 |.o s l,R,X,Q,ρ,st=>wS s R X (FK l R X Q) ρ st
end
end
abbrev Lz(T:cV)(C:dG)(e:Ex)(ρ:dz)(Q:AQ)(X:St->Prop)(st:St):Prop:=wE T C e X ρ Q st
abbrev ac1(T:cV)(C:dG)(e:jM)(ρ:dz)(Q:LQ)(X:St->Prop)(st:St):Prop:=LA T C e X ρ Q st
abbrev Vq(T:cV)(C:dG)(e:jM)(ρ:dz)(Q:AQ)(X:St->Prop)(st:St):Prop:=Q6 T C e X ρ Q st
abbrev acZ(T:cV)(C:dG)(e:jM)(ρ:dz)(Q:AQ)(X:St->Prop)(st:St):Prop:=wOr T C e X ρ Q st
abbrev ac0(T:cV)(C:dG)(e:It)(ρ:dz)(Q:oF->qe (qe AV)->St->Prop)(X:St->Prop)(st:St):Prop:=wIt T C e X ρ Q st
abbrev wpS(T:cV)(C:dG)(s:Sm)(ρ:dz)(Q:SQ)(R:AQ)(X:SQ)(st:St):Prop:=wS T C s R X Q ρ st
abbrev JE(T:cV)(C:dG)(s:iH)(ρ:dz)(Q:SQ)(R:AQ)(X:SQ)(st:St):Prop:=FK T C s R X Q ρ st
noncomputable def rL:qe Nm->qe AV->dz->qk dz
 |[],[],ρ=>dA ρ
 |x::xs,v::vs,ρ=>rL xs vs<|ρ.H x v
 |_,_,_=>ft
def fnW(T:cV)(C:dG)(f:Fn)(vs:qe AV)(Q:AV->St->Prop)(X:St->Prop)(st:St):Prop:=
 match rL f.b vs (λa=>ft)with
 |some ρ=>JE T C f.a ρ (λa=>Q .u) Q (λa=>X) st
 |none=>qp
noncomputable def callW(T:cV)(P:lS->qk Fn):qc->dG
 |0=>λa a a a a=>qp
 |n+1=>λf vs Q X st=>match P f with
  |some fn=>fnW T (callW T P n) fn vs Q X st
  |none=>qp
end
noncomputable def kS(sc:zE)(x:Str):qk Ze:=sc.names.lookup x
def ajw(sc:zE)(x:Str):qw:=kS sc x==dA .local||kS sc x==dA .cell
noncomputable def adZ:Fy->Operator
 |.g=>.Add|.s=>.Sub|.e=>.Mult|.c=>.FloorDiv|.d=>.Mod|.f=>.Pow
def Bf.z:Bf->Nm
 |.C=>.C|.vp=>.vp|.iL=>.iL|.yA=>.yA|.nF=>.nF|.B=>.B|.kC=>.kC
def Lm.z:Lm->Nm
 |.ch=>.ch|.jI=>.jI|.js=>.js|.kF=>.kF
def fnL:qe Nm:=[(⟨272⟩:Nm),⟨202⟩,⟨218⟩,.gV,⟨244⟩,⟨243⟩,⟨193⟩,.fk,.fQ,⟨214⟩,⟨129⟩,⟨253⟩,⟨217⟩,⟨241⟩,⟨274⟩,.ja,⟨277⟩,
 ⟨160⟩,⟨191⟩,⟨228⟩,.bh,.dQ,.a8,.bY,⟨235⟩,.dI,.bX,.dR,.bf,.K,⟨251⟩,.c7,.c8,⟨232⟩,
 .fP,⟨261⟩,⟨271⟩,⟨211⟩,⟨229⟩,.bD,.rH]
def aeO(f:Nm):qw:=fnL.contains f
def E6:qe Nm:=[.X,.jZ,.ju,.iM,.cE,.bO,.s9,.cC,.fX,.jJ,.jt,.lY,.bM,.dJ,.N,.O,.fG,.eJ,.b9,.ik,⟨47⟩,⟨153⟩,⟨44⟩,⟨154⟩,⟨8⟩,⟨183⟩,⟨182⟩,⟨225⟩]
def gd(c:Nm):qw:=E6.contains c
def oZ(c:Nm):qw:=gd c||c==.gX||c==.iL||c==.B
noncomputable def vw(p:qu):qe (qk qu)×qc×zE:=
 let z:zE:=⟨.function,[],np,np,[]⟩
 let d:qe (qk qu)×qc×zE:=([],0,z)
 @PySem.Expr.casesOn (λh=>qe (qk qu)×qc×zE) p (λh vs h=>(vs.map dA,0,z)) (λh h h=>d) (λa h b h=>([dA a,dA b],0,z)) (λh a h=>([dA a],0,z)) (λh h h h=>d) (λa b c h=>([dA a,dA b,dA c],0,z))
  (λks vs h=>((ks.zip vs).flatMap λq=>[q.1,dA q.2],0,z)) (λh h h=>d) (λe gs s h=>(dA e::gs.flatMap λg=>dA g.target::dA g.iter::g.ifs.map dA,0,s)) (λh h h h=>d) (λh h h h h=>d) (λh h h h=>d) (λh h=>d) (λh h=>d) (λh h=>d)
  (λa h bs h=>(dA a::bs.map dA,0,z)) (λf as h h=>(dA f::as.map dA,0,z)) (λh h h h=>d) (λh h=>d) (λh k h=>([],k,z)) (λa h h=>([dA a],0,z)) (λa b h=>([dA a,dA b],0,z)) (λh h=>d) (λh h=>d) (λes h=>(es.map dA,0,z)) (λes k h=>(es.map dA,k,z)) (λa b c h=>([a,b,c],0,z))
noncomputable def OH:qu:=.Name ⟨#[]⟩ ⟨0,0,0,0⟩
def opt(p:qu)(i:qc):qk qu:=(vw p).1[i]?.join
def cG(p:qu)(i:qc):qu:=(opt p i).getD OH
def d7(p:qu)(i:qc):qe qu:=((vw p).1.drop i).map (·.getD OH)
def rT(p:qu):qc:=(vw p).2.1
def HQ(p:qu):zE:=(vw p).2.2
def hd(ps:qe qu):qu:=ps.headD OH
def vE(xs:qe Nm)(p:qu):qu:=match xs with
 |[x]=>.Name x.t p.pos
 |x::y::_=>.Tuple [.Name x.t (cG p 0).pos,.Name y.t (cG p 1).pos] (rT p) p.pos
 |[]=>OH
noncomputable def emN:qe Nm->qe qu->qe qu
 |[],_=>[]
 |c::cs,ps=>.Name c.t (hd ps).pos::emN cs ps.tail
def emC(cs:qe Nm)(p:qu):qu:=match cs with
 |[c]=>.Name c.t p.pos
 |cs=>.Tuple (emN cs<|d7 p 0) (rT p) p.pos
noncomputable def tE:jM->qc
 |.t=>0
 |.o _ l=>tE l+1
mutual
noncomputable def em:Ex->qu->qu
 |.u,p=>.Constant .none (rT p) p.pos
 |.q b,p=>.Constant (.bool b) (rT p) p.pos
 |.j i,p=>.Constant (.int i) (rT p) p.pos
 |.t n,p=>.Constant (.str n.t) (rT p) p.pos
 |.s x,p=>.Name x.t p.pos
 |.B x,p=>.Name x.t p.pos
 |.C op a b,p=>.BinOp (em a<|cG p 0) (adZ op) (em b<|cG p 1) p.pos
 |.L a,p=>.UnaryOp .USub (em a<|cG p 0) p.pos
 |.v a,p=>.UnaryOp .Not (em a<|cG p 0) p.pos
 |.g op a b,p=>.Compare (em a<|cG p 0) [op] [em b (cG p 1)] p.pos
 |.I l,p=>.BoolOp .And (uX l<|d7 p 0) p.pos
 |.N l,p=>.BoolOp .Or (uX l<|d7 p 0) p.pos
 |.D c a b,p=>.IfExp (em c<|cG p 0) (em a<|cG p 1) (em b<|cG p 2) p.pos
 |.F l,p=>.List (uX l<|d7 p 0) p.pos
 |.H l,p=>.Tuple (uX l<|d7 p 0) (rT p) p.pos
 |.w _ l,p=>.Dict (LM l<|d7 p 0).1 (LM l<|d7 p 0).2 p.pos
 |.z e xs it,p=>.ListComp (em e<|cG p 0) [⟨vE xs<|cG p 1,Ud it<|cG p 2,[],0⟩] (HQ p) p.pos
 |.O e xs it c,p=>.ListComp (em e<|cG p 0) [⟨vE xs<|cG p 1,Ud it<|cG p 2,[em c (cG p 3)],0⟩] (HQ p) p.pos
 |.d e x,p=>.Attribute (em e<|cG p 0) x.t p.pos
 |.r e i,p=>.Subscript (em e<|cG p 0) (em i<|cG p 1) p.pos
 |.A e lo hi,p=>.Subscript (em e<|cG p 0) (.Slice ((opt (cG p 1) 0).map (em lo)) ((opt (cG p 1) 1).map (em hi)) ft (cG p 1).pos) p.pos
 |.R e,p=>.Subscript (em e<|cG p 0) (.Slice ft ft (dA<|.UnaryOp .USub (.Constant (.int 1) 0 (cG (cG (cG p 1) 2) 0).pos) (cG (cG p 1) 2).pos) (cG p 1).pos) p.pos
 |.h f l,p=>.Call (.Name f.t (cG p 0).pos) (uX l<|d7 p 1) [] p.pos
 |.G c l,p=>.Call (.Name c.t (cG p 0).pos) (uX l<|d7 p 1) [] p.pos
 |.y o m l,p=>.Call (.Attribute (em o<|cG (cG p 0) 0) m.t (cG p 0).pos) (uX l<|d7 p 1) [] p.pos
 |.P x l,p=>.Call (.Name x.t (cG p 0).pos) (uX l<|d7 p 1) [] p.pos
 |.E f l,p=>.Call (.Name f.z.t (cG p 0).pos) (uX l<|d7 p 1) [] p.pos
 |.K e cs,p=>.Call (.Name (Nm.t ⟨254⟩) (cG p 0).pos) [em e (cG p 1),emC cs<|cG p 2] [] p.pos
 |.M o m l,p=>.Call (.Attribute (em o<|cG (cG p 0) 0) m.z.t (cG p 0).pos) (uX l<|d7 p 1) [] p.pos
 |.J _ e,p=>em e p
noncomputable def uX:jM->qe qu->qe qu
 |.t,_=>[]
 |.o e l,ps=>em e (hd ps)::uX l ps.tail
noncomputable def LM:jM->qe qu->qe (qk qu)×qe qu
 |.o k (.o v l),ps=>(dA (em k<|hd ps)::(LM l ps.tail.tail).1,em v (hd ps.tail)::(LM l ps.tail.tail).2)
 |_,_=>([],[])
noncomputable def Ud:It->qu->qu
 |.F e,p=>em e p
 |.c e,p=>.Call (.Name (Nm.t ⟨135⟩) (cG p 0).pos) [em e (cG p 1)] [] p.pos
 |.d a b,p=>.Call (.Name (Nm.t ⟨41⟩) (cG p 0).pos) [em a (cG p 1),em b<|cG p 2] [] p.pos
 |.f e,p=>.Call (.Name (Nm.t ⟨240⟩) (cG p 0).pos) [em e (cG p 1)] [] p.pos
end
noncomputable def ncE:Ex->qw
 |.s _|.B _|.d ..|.r ..|.G _ (.o ..)=>hY
 |_=>np
noncomputable def nd(x:Str):qw:=!(x==("__debug__" :Str))
def vr(sc:zE)(x:Nm):qw:=ajw sc x.t&&nd x.t
def gl(sc:zE)(x:Nm):qw:=(kS sc x.t==dA .globalImplicit)&&nd x.t
def lc(sc:zE)(x:Nm):qw:=(kS sc x.t==dA .local)&&!(x.t==(".0" :Str))
noncomputable def Au(scope sc:zE):zE:=relabel scope {scope:=sc,locals:=0,globals:=0,cells:=[]}
def yu(xs:qe Nm)(scope sc:zE):qw:=scope.kind==.function&&scope.names.all (λy=>y.2 !=.local||y.1==(".0" :Str)||xs.any λx=>x.t==y.1)&&scope.names.all (λy=>y.2 !=.cell)&&scope.names.all (λy=>y.2 !=.free||kS sc y.1==dA .cell)&&scope.names.all (λy=>y.2 !=.local||scope.names.lookup y.1==dA .local)
def LF(sc:zE)(xs:qe Nm):qw:=match xs with
 |[x]=>lc sc x
 |[x,y]=>lc sc x&&lc sc y&&x !=y
 |_=>np
noncomputable def NM(xs:qe Nm):It->qw
 |.d ..|.f ..=>xs.length==2
 |_=>hY
noncomputable def Iw:Ex->qw
 |.u=>hY
 |_=>np
def mG(x:Nm):qw:=x !=.r&&(Zf "object" x.t).isNone&&!copiedNames.contains x.t&&J2.contains x.t
noncomputable def YL(o:qk qu)(n:qw)(f:qu->qw):qw:=match o with
 |none=>n
 |some x=>f x
mutual
noncomputable def ok(sc:zE):Ex->qu->qw
 |.u,_|.q _,_|.j _,_|.t _,_=>hY
 |.s x,_=>vr sc x
 |.B x,_=>gl sc x
 |.C _ a b,p=>ok sc a (cG p 0)&&ok sc b (cG p 1)
 |.L a,p=>ok sc a<|cG p 0
 |.v a,p=>ok sc a<|cG p 0
 |.g op a b,p=>ok sc a (cG p 0)&&(ok sc b (cG p 1)&&!behindInMarks op (em b<|cG p 1))
 |.I l,p=>JZ sc l (d7 p 0)&&tE l !=0
 |.N l,p=>JZ sc l (d7 p 0)&&tE l !=0
 |.D c a b,p=>ok sc c (cG p 0)&&(ok sc a (cG p 1)&&ok sc b (cG p 2))
 |.F l,p=>JZ sc l (d7 p 0)&&decide (tE l<=100)
 |.H l,p=>JZ sc l (d7 p 0)&&decide (tE l<=100)
 |.w _ l,p=>okD sc l (d7 p 0)&&decide (tE l<=15)
 |.z e xs it,p=>yu xs (HQ p) sc&&(LF (Au (HQ p) sc) xs&&(NM xs it&&(okI sc it (cG p 2)&&ok (Au (HQ p) sc) e (cG p 0))))
 |.O e xs it c,p=>(yu xs (HQ p) sc&&(LF (Au (HQ p) sc) xs&&(NM xs it&&(okI sc it (cG p 2)&&ok (Au (HQ p) sc) e (cG p 0)))))&&ok (Au (HQ p) sc) c (cG p 3)
 |.d e x,p=>mG x&&(ncE e&&ok sc e (cG p 0))
 |.r e i,p=>ok sc e (cG p 0)&&ok sc i (cG p 1)
 |.A e lo hi,p=>ok sc e (cG p 0)&&(YL (opt (cG p 1) 0) (Iw lo) (ok sc lo)&&YL (opt (cG p 1) 1) (Iw hi) (ok sc hi))
 |.R e,p=>ok sc e<|cG p 0
 |.h f l,p=>(aeO f&&gl sc f)&&JZ sc l (d7 p 1)
 |.G c l,p=>(gd c&&gl sc c)&&JZ sc l (d7 p 1)
 |.y o m l,p=>(mG m&&(ncE o&&((cG p 0).pos.endLine==p.pos.line&&decide (tE l<30))))&&(ok sc o (cG (cG p 0) 0)&&JZ sc l (d7 p 1))
 |.P x l,p=>vr sc x&&JZ sc l (d7 p 1)
 |.E f l,p=>gl sc f.z&&JZ sc l (d7 p 1)
 |.K e cs,p=>gl sc ⟨254⟩&&(ok sc e (cG p 1)&&(cs.all (λc=>oZ c&&gl sc c)&&decide (cs.length<=100)))
 |.M o _ l,p=>(ncE o&&((cG p 0).pos.endLine==p.pos.line&&decide (tE l<30)))&&(ok sc o (cG (cG p 0) 0)&&JZ sc l (d7 p 1))
 |.J _ e,p=>ok sc e p
noncomputable def JZ(sc:zE):jM->qe qu->qw
 |.t,_=>hY
 |.o e l,ps=>ok sc e (hd ps)&&JZ sc l ps.tail
noncomputable def okD(sc:zE):jM->qe qu->qw
 |.t,_=>hY
 |.o k (.o v l),ps=>ok sc k (hd ps)&&(ok sc v (hd ps.tail)&&okD sc l ps.tail.tail)
 |_,_=>np
noncomputable def okI(sc:zE):It->qu->qw
 |.F e,p=>ok sc e p
 |.c e,p=>gl sc ⟨135⟩&&ok sc e (cG p 1)
 |.d a b,p=>gl sc ⟨41⟩&&(ok sc a (cG p 1)&&ok sc b (cG p 2))
 |.f e,p=>gl sc ⟨240⟩&&ok sc e (cG p 1)
end
noncomputable def vwS(p:xC):qe qu×qe (qe xC)×Pos:=
 let z:Pos:=⟨0,0,0,0⟩
 let d:qe qu×qe (qe xC)×Pos:=([],[],z)
 @PySem.Stmt.casesOn (λa=>qe qu×qe (qe xC)×Pos) p (λa a a a a a a a a a=>d) (λa a a a a a a a a a=>d) (λa a a a a a a a a a a=>d) (λo a=>(o.toList,[],z)) (λa a=>d) (λts v a=>(v::ts,[],z)) (λa a a a a a a=>d) (λa a a a=>d) (λa a a a a=>d)
  (λt i x y a=>([t,i],[x,y],z)) (λa a a a a=>d) (λt x y a=>([t],[x,y],z)) (λt x y a=>([t],[x,y],z)) (λa a a=>d) (λa a a=>d) (λa a a=>d) (λo a a=>(o.toList,[],z))
  (λb c a a a=>match c with|[.ExceptHandler t _ b2 q]=>(t.toList,[b,b2],q)|_=>d) (λa a a a a=>d) (λa a a=>d) (λa a=>d) (λa a a a=>d) (λa a=>d) (λa a=>d) (λv a=>([v],[],z)) (λa=>d) (λa=>d) (λa=>d)
def sk(p:xC)(i:qc):qu:=(vwS p).1[i]?.getD OH
def sb(p:xC)(i:qc):qe xC:=(vwS p).2.1[i]?.getD []
noncomputable def hdS(ps:qe xC):xC:=ps.headD<|.Pass ⟨0,0,0,0⟩
noncomputable def LI:Ex->qw
 |.z ..|.O ..=>hY
 |.J _ e=>LI e
 |_=>np
noncomputable def Iv:Ex->qw
 |.H _=>hY
 |.J _ e=>Iv e
 |_=>np
noncomputable def DI(q:qu):qw:=ajL (λa=>qw) q (λa a=>hY) λa=>np
structure Top(q:qu)(c t:qw):Prop where
 h:DI q=np
 F:∀env x,agc q env x=pure x
 g:∀{rest env},xY (q::rest) env=(np,eval q env)::xY rest env
 s:∀{o i},aco q np o i=ahM [o,i] (ahN o i)
 f:c=np->∀{t n env},aaE q t n env=pure np
 d:∀{o a p n env},aaE q (dA<|.Attribute o a p) n env=pure np
 r:∀{o a p n env},aaE q (dA<|.Subscript o a p) n env=pure np
 z:c=hY->∃elt gens scope pos,q=.ListComp elt gens scope pos
 e:t=np->∀{a b k p env},swappedStores [.Tuple [a,b] k p] q env=pure ft
structure alU(q:qu):Prop where
 h:DI q=np
 F:∀env x,agc q env x=pure x
 g:∀{rest env},xY (q::rest) env=(np,eval q env)::xY rest env
 s:∀{o i},aco q np o i=ahM [o,i] (ahN o i)
 f:∀{t n env},aaE q t n env=pure np
theorem uz(h:alU q)(k:t=np->∀{a b k p env},swappedStores [.Tuple [a,b] k p] q env=pure ft):Top q np t:=⟨h.h,h.F,h.g,h.s,λc {c c c}=>h.f,h.f,h.f,λh=>qH h qB,k⟩
theorem adk{elt gens scope pos}:Top (.ListComp elt gens scope pos) hY np:=⟨dq,λa a=>dq,dq,dq,λh=>qH h.symm qB,dq,dq,λa=>⟨_,_,_,_,dq⟩,λa {a a a a a}=>dq⟩
theorem aij{es k pos}:Top (.Tuple es k pos) np hY:=uz ⟨dq,λa a=>dq,dq,dq,dq⟩ λh=>qH h.symm qB
theorem FR{f as ks pos}:Top (.Call f as ks pos) np np:=uz ⟨dq,λa a=>dq,dq,dq,dq⟩ λa {a a a a a}=>dq
theorem Rf{v k pos}:Top (.Constant v k pos) np np:=uz ⟨dq,λa a=>dq,dq,dq,dq⟩ λa {a a a a a}=>dq
theorem adj{x pos}:Top (.Name x pos) np np:=uz ⟨dq,λa a=>dq,dq,dq,dq⟩ λa {a a a a a}=>dq
theorem XC{a i pos}:Top (.Subscript a i pos) np np:=uz ⟨dq,λb b=>dq,dq,dq,dq⟩ λb {b b b b b}=>dq
theorem adi{o es pos}:Top (.BoolOp o es pos) np np:=uz ⟨dq,λa a=>dq,dq,dq,dq⟩ λa {a a a a a}=>dq
theorem adh{o a pos}:Top (.UnaryOp o a pos) np np:=uz ⟨dq,λb b=>dq,dq,dq,dq⟩ λb {b b b b b}=>dq
theorem nV(e:Ex):∀p,Top (em e p) (LI e) (Iv e):=
 @Ex.rec (λe=>∀p,Top (em e p) (LI e) (Iv e)) (λa=>xT) (λa=>xT) (λa=>Rf) (λa a=>Rf) (λa a=>Rf) (λa a=>Rf) (λa a=>adj) (λa a=>adj) (λa a a a a a=>uz ⟨dq,λa a=>dq,dq,dq,dq⟩ λa {a a a a a}=>dq) (λa a a=>adh) (λa a a=>adh) (λa a a a a a=>uz ⟨dq,λa a=>dq,dq,dq,dq⟩ λa {a a a a a}=>dq) (λa a a=>adi) (λa a a=>adi) (λa a a a a a a=>uz ⟨dq,λa a=>dq,dq,dq,dq⟩ λa {a a a a a}=>dq) (λa a a=>uz ⟨dq,λa a=>dq,dq,dq,dq⟩ λa {a a a a a}=>dq) (λa a a=>aij) (λa a a a=>uz ⟨dq,λa a=>dq,dq,dq,dq⟩ λa {a a a a a}=>dq)
  (λa a a a a a=>adk) (λa a a a a a a a=>adk) (λa a a a=>uz ⟨dq,λa a=>dq,dq,dq,dq⟩ λa {a a a a a}=>dq) (λa a a a a=>XC) (λa a a a a a a=>XC) (λa a a=>XC) (λa a a a=>FR) (λa a a a=>FR) (λa a a a a a=>FR) (λa a a a=>FR) (λa a a a=>FR) (λa a a a=>FR) (λa a a a a a=>FR) (λa a x=>x) oy (λa a a a=>oy) (λa a=>oy) (λa a=>oy) (λa a a a=>oy) (λa a=>oy) e
def emH(x s d k:Nm)(p:xC):PySem.ExceptHandler:=
 let a:=hdS<|sb p 1
 let v:=sk a 0
 let q:=cG v 1
 .ExceptHandler (dA<|.Name (Nm.t ⟨250⟩) (sk p 0).pos) ft [.Assign [.Name x.t (sk a 1).pos] (.Tuple [.Constant (.str s.t) (rT<|cG v 0) (cG v 0).pos,.Subscript (.Name d.t (cG q 0).pos) (.Constant (.str k.t) (rT<|cG q 1) (cG q 1).pos) q.pos] (rT v) v.pos) a.pos] (vwS p).2.2
mutual
noncomputable def emS:Sm->xC->xC
 |.g x e,p=>.Assign [.Name x.t (sk p 1).pos] (em e<|sk p 0) p.pos
 |.h o x e,p=>.Assign [.Attribute (em o<|cG (sk p 1) 0) x.t (sk p 1).pos] (em e<|sk p 0) p.pos
 |.n o i e,p=>.Assign [.Subscript (em o<|cG (sk p 1) 0) (em i<|cG (sk p 1) 1) (sk p 1).pos] (em e<|sk p 0) p.pos
 |.q x y e,p=>.Assign [vE [x,y] (sk p 1)] (em e<|sk p 0) p.pos
 |.r x y a b,p=>.Assign [vE [x,y] (sk p 1)] (.Tuple [em a (cG (sk p 0) 0),em b<|cG (sk p 0) 1] (rT<|sk p 0) (sk p 0).pos) p.pos
 |.l e,p=>.Expr (em e<|sk p 0) p.pos
 |.v c a b,p=>.If (em c<|sk p 0) (yU a<|sb p 0) (yU b<|sb p 1) p.pos
 |.p c b,p=>.While (em c<|sk p 0) (yU b<|sb p 0) [] p.pos
 |.j xs it b,p=>.For (vE xs<|sk p 0) (Ud it<|sk p 1) (yU b<|sb p 0) [] p.pos
 |.f e,p=>.Return (dA<|em e (sk p 0)) p.pos
 |.m,p=>.Raise (dA<|.Call (.Name (Nm.t ⟨250⟩) (cG (sk p 0) 0).pos) [] [] (sk p 0).pos) ft p.pos
 |.C b x s d k,p=>.Try (yU b<|sb p 0) [emH x s d k p] [] [] p.pos
noncomputable def yU:iH->qe xC->qe xC
 |.t,_=>[]
 |.o s l,ps=>emS s (hdS ps)::yU l ps.tail
end
mutual
noncomputable def okS(sc:zE):Sm->xC->qw
 |.g x e,p=>vr sc x&&ok sc e (sk p 0)
 |.h o x e,p=>mG x&&(ok sc o (cG (sk p 1) 0)&&ok sc e (sk p 0))
 |.n o i e,p=>ok sc o (cG (sk p 1) 0)&&(ok sc i (cG (sk p 1) 1)&&ok sc e (sk p 0))
 |.q x y e,p=>LF sc [x,y]&&((!Iv e&&!LI e)&&ok sc e (sk p 0))
 |.r x y a b,p=>LF sc [x,y]&&(((cG (sk p 1) 0).pos.line==(cG (sk p 1) 1).pos.line&&(!foldedForSure 8 (em a<|cG (sk p 0) 0)&&!constantsAlone 8 (em a<|cG (sk p 0) 0)))&&(ok sc a (cG (sk p 0) 0)&&ok sc b (cG (sk p 0) 1)))
 |.l e,p=>!LI e&&ok sc e (sk p 0)
 |.v c a b,p=>ok sc c (sk p 0)&&(yt sc a (sb p 0)&&yt sc b (sb p 1))
 |.p c b,p=>ok sc c (sk p 0)&&yt sc b (sb p 0)
 |.j xs it b,p=>LF sc xs&&(NM xs it&&(okI sc it (sk p 1)&&yt sc b (sb p 0)))
 |.f e,p=>ok sc e<|sk p 0
 |.m,_=>gl sc ⟨250⟩
 |.C b x _ d _,p=>(gl sc ⟨250⟩&&(lc sc x&&vr sc d))&&yt sc b (sb p 0)
noncomputable def yt(sc:zE):iH->qe xC->qw
 |.t,_=>hY
 |.o s l,ps=>okS sc s (hdS ps)&&yt sc l ps.tail
end
end
section
open PySem PySem.W PySem.Calls PyProof.Rows PySem.SeqAt
noncomputable def kOf(h:Heap):Frag:=(zL h.objs.size).filterMap λa=>(h.get? a).map (a,·)
theorem uQ{h:Heap}(b:qc)(l:qe qc):(l.filterMap λa=>(h.get? a).map λo=>(a,o)).lookup b=if b∈l then h.get? b else ft:=by
 induction l with
 |nil=>rfl
 |cons a l ih=>
  rw[List.filterMap_cons];by_cases q:b=a
  ·subst q;rw[qK (.head _)];cases ha:h.get? b with
   |none=>rw[ha,ite_self]at ih;exact ih
   |some o=>exact(xz ..).trans (by rw[qZ])
  ·have e:(b∈a::l)=(b∈l):=propext ⟨λh=>(qG.mp h).resolve_left q,.tail _⟩;rw[ite_congr e (λc=>dq) λc=>dq,←ih];cases h.get? a with
   |none=>rfl
   |some o=>exact(xz ..).trans (by rw[zN q])
theorem eQ(h:Heap)(a:qc):(kOf h).lookup a=h.get? a:=by
 unfold kOf;rw[uQ];split
 ·rfl
 ·rename_i q;cases e:h.get? a with
  |none=>rfl
  |some o=>exact qH (ZY.mpr<|zc e) q
theorem aao(k:∀b o,h.get? b=dA o->h'.get? b=dA o):(kOf h).In h':=λa o e=>k a o (by rwa [eQ]at e)
theorem Ii{es:Array zu}{m:Str->qk qo}{name:Str}(b:StrKeys es)(a:∀n,nsFind es n=m n):
  (match es.toList.find? (·.key.isStr name)with|some e=>dA (dA e.val)|none=>if es.toList.any (·.refKey)then ft else dA ft)=dA (m name):=by
 rw[←a name,nsFind,findBy,←acP];cases es.toList.find? (λe=>e.key.isStr name)with
 |some e=>rfl
 |none=>
  have:es.toList.any (·.refKey)=np:=by
   rw[List.any_eq_false];intro e c;obtain⟨n,t,h⟩:=b e<|Array.mem_toList_iff.mp c;simp[DictEntry.refKey,h]
  simp[this]
theorem NR(b:h.Ns N m)(name:Str):nsIn (kOf h) N name=dA (m name):=by
 obtain⟨⟨c,d,j,g⟩,es,i,a,hd,f,e⟩:=b;simp only at hd;subst hd;unfold nsIn;rw[eQ,a];exact Ii f e
theorem A8{h:Heap}{N:zM}{m:Str->qk qo}(b:h.Ns N m)(name:Str):∃o,h.get? N=dA o/\lookIn name o=dA (m name):=by
 obtain⟨⟨c,d,j,g⟩,es,i,a,hd,f,e⟩:=b;simp only at hd;subst hd;exact⟨_,a,Ii f e⟩
noncomputable def ab(v:qo):qk AV:=match v with
 |.none=>dA .u
 |.bool b=>dA<|.q b
 |.int i _=>dA<|.j i
 |.str s _=>dA<|.t s
 |.ref a=>dA<|.d a
 |_=>ft
noncomputable def va(t:Tok)(a:AV):qo:=@AV.casesOn (λb=>qo) a .none .bool (.int · t) (.str · t) .ref
theorem i8(h:ab v=dA a):∃t,v=va t a:=by
 cases v<;>first|(cases(show(ft:qk AV)=dA a from h);done)|(obtain rfl:=qA h;first|exact⟨_,rfl⟩|exact⟨default,rfl⟩)
theorem Jw(h:ab v=dA .u):v=.none:=(i8 h).elim λa e=>e
theorem ue(h:ab v=dA (.q b)):v=.bool b:=(i8 h).elim λa e=>e
theorem fI(h:ab v=dA (.j i)):∃t,v=.int i t:=i8 h
theorem Qd(h:ab v=dA (.t i)):∃t,v=.str i t:=i8 h
theorem bT(h:ab v=dA (.d a)):v=.ref a:=(i8 h).elim λb e=>e
def abs(vs:qe qo)(l:qe AV):Prop:=vs.map ab=l.map dA
theorem mw:abs [] []:=dq
theorem gm(h:ab v=dA a)(t:abs vs l):abs (v::vs) (a::l):=by
 unfold abs;rw[List.map_cons,List.map_cons,h,t]
theorem mv(h:abs vs []):vs=[]:=Zc.mp h
theorem jF(h:abs vs (a::l)):∃v sF,vs=v::sF/\ab v=dA a/\abs sF l:=List.map_eq_cons_iff.mp h
theorem ud(h:abs vs l):vs.length=l.length:=by
 have:=congrArg List.length h;simpa using this
theorem n8(h:abs vs l)(k:abs ws m):abs (vs++ws) (l++m):=by
 unfold abs at*;rw[List.map_append,List.map_append,h,k]
theorem Fp(h:abs vs l):abs vs.reverse l.reverse:=by
 unfold abs at*;rw[List.map_reverse,List.map_reverse,h]
theorem Fo(h:abs vs l)(n:qc):abs (vs.take n) (l.take n):=by
 unfold abs at*;rw[List.map_take,List.map_take,h]
theorem Qc(h:abs vs l)(n:qc):abs (vs.drop n) (l.drop n):=by
 unfold abs at*;rw[List.map_drop,List.map_drop,h]
theorem U8(h:abs vs l)(n:qc)(b:ab v=dA a):abs (vs.set n v) (l.set n a):=by
 unfold abs at*;rw[List.map_set,List.map_set,h,b]
theorem sy{vs:qe qo}{l:qe AV}(h:abs vs l){n:qc}{a:AV}(ha:l[n]?=dA a):∃v,vs[n]?=dA v/\ab v=dA a:=by
 have e:(vs.map ab)[n]?=(l.map dA)[n]?:=qh (·[n]?) h;rw[xx,xx,ha]at e;exact qS.mp e
theorem Df(h:abs vs l):abs vs.dropLast l.dropLast:=by
 rw[acx,acx,ud h];exact Fo h _
noncomputable def kf{K α β:Type}(f:α->β)(l:qe (K×α)):qe (K×β):=l.map λp=>(p.1,f p.2)
noncomputable def VG{K α:Type} [xt K](l:qe (K×α))(k:K)(v:α):qe (K×α):=if l.any (λp=>decide<|p.1=k)then l.map (λp=>if p.1=k then(p.1,v)else p)else l++[(k,v)]
theorem We{K:Type} [xt K](f:α->β)(l:qe (K×α))(k:K):((kf f l).find? λp=>decide (p.1=k)).map (·.2)=((l.find? λp=>decide (p.1=k)).map (·.2)).map f:=by
 unfold kf;rw[alX,ZS,ZS];rfl
theorem Oy{K:Type} [xt K](f:α->β)(l:qe (K×α))(k:K)(v:α):kf f (VG l k v)=VG (kf f l) k (f v):=by
 unfold VG;rw[show(kf f l).any (λp=>decide<|p.1=k)=l.any λp=>decide (p.1=k)from List.any_map];cases l.any λp=>decide (p.1=k)with
 |false=>exact xj
 |true=>
  refine(xP).trans ((aiI λp a=>?_).trans xP.symm);show(λp:K×α=>(p.1,f p.2)) (if p.1=k then(p.1,v)else p)=if p.1=k then(p.1,f v)else(p.1,f p.2)
  by_cases z:p.1=k
  ·rw[qK z,qK z]
  ·rw[if_neg z,if_neg z]
def rz{K:Type}(iN:qe (K×qo))(l:qe (K×AV)):Prop:=kf ab iN=kf dA l
section
variable{K:Type} [xt K]{iN:qe (K×qo)}{l:qe (K×AV)}
theorem pF:rz ([]:qe (K×qo)) []:=dq
theorem m7(h:rz iN l):iN.length=l.length:=by have:=qh aad h;rwa [kf,kf,qI,qI]at this
theorem Dg(h:rz iN l)(k:K):(valueAt iN k).map ab=(eA l k).map dA:=(We ab iN k).symm.trans ((qh (λl:qe (K×qk AV)=>(l.find? λp=>decide<|p.1=k).map (·.2)) h).trans (We dA l k))
theorem u5(h:rz iN l)(e:eA l k=dA a):∃v,valueAt iN k=dA v/\ab v=dA a:=by
 have:=Dg h k;rw[e]at this;exact qS.mp this
theorem Lp(h:rz iN l)(e:eA l k=ft):valueAt iN k=ft:=by
 have:=Dg h k;rw[e]at this;exact Zl.mp this
theorem vL(h:rz iN l)(k:K):(valueAt iN k).isSome=(eA l k).isSome:=by
 have:=qh Option.isSome<|Dg h k;rwa [acR,acR]at this
theorem pE(h:rz iN l)(k:K)(b:ab v=dA a):rz (stored iN k v) (jm l k a):=
 (Oy ab iN k v).trans ((congr (qh (VG · k) h) b).trans (Oy dA l k a).symm)
theorem vK(h:rz iN l)(k:rz more m):
  rz (merged iN more) (m.foldl (λacc p=>jm acc p.1 p.2) l):=by
 have key:∀{α:Type} (f:α->qk AV) (c l:qe (K×α)),kf f (c.foldl (λacc p=>VG acc p.1 p.2) l)=(kf f c).foldl (λacc p=>VG acc p.1 p.2) (kf f l):=λf c=>by
  induction c with
  |nil=>exactλd=>dq
  |cons p c ih=>exactλl=>(ih _).trans (qh (λz=>(kf f c).foldl (λacc p=>VG acc p.1 p.2) z)<|Oy f l p.1 p.2)
 exact(key ab more iN).trans ((congr (qh (λ(a b:qe (K×qk AV))=>b.foldl (λacc p=>VG acc p.1 p.2) a) h) k).trans (key dA m l).symm)
end
set_option genInjectivity false in
structure m8 where
 e:Str
 d:Str
 b:Arguments
 a:qe Stmt
 c:zE
set_option genInjectivity false in
structure Wd where
 a:ZO
 w:Zu
 b:qy
 T:cV
 k:Nm->qc
 d:lS->qc
 i:lS->m8
 h:Str->qk qo
 L:Str->qk qo
 e:Nm->Str->qk qo
def attrs(l:qe (Nm×AV))(m:Str->qk qo):Prop:=(∀x:Nm,(m x.t).map ab=(fm l x).map dA)/\Within m J2
def jD(W:Wd)(h:Heap)(a:qc)(c:dZ):Prop:=match c with
 |.F l=>∃vs n,IsL h a vs n/\abs vs.toList l
 |.i l=>∃vs,h.IsList a vs/\abs vs.toList l
 |.H l=>∃vs n,IsT h a vs n/\abs vs.toList l
 |.d l=>∃iN,h.DictOf (acE W.a W.w) a iN/\rz iN l
 |.j l=>∃iN,h.DictOf (strKind W.a W.w) a iN/\rz iN l
 |.f c dx l=>h.get? a=dA (acj (W.k c) dx)/\gd c=hY/\∃m,h.Ns1 dx m/\attrs l m
 |.y c m self=>h.get? a=dA (methodObj (.ref<|W.d (.y c m))<|.ref self)/\(cA c).contains m=hY
noncomputable def v4(c:dZ):qe qc:=match c with
 |.f _ dx _=>[dx]
 |_=>[]
def foot(a:qc)(c:dZ):qe qc:=a::v4 c
theorem jd{a:qc}{c:dZ}:a∈foot a c:=.head _
theorem CK{a:qc}{c:Nm}{dx:qc}{l:qe (Nm×AV)}:dx∈foot a (.f c dx l):=.tail _<|.head _
theorem tO{a b:qc}{c:dZ}(h:b∈foot a c)(n:v4 c=[]):b=a:=by
 unfold foot at h;rw[n]at h;exact qD.mp h
theorem Heap.DictOf.B{prog:ZO}{w:Zu}{K:Type} [xt K]{knd:KeyKind prog w K}{h h':Heap}{a:zM}{iN:qe (K×qo)}(x:h.DictOf knd a iN)
  (k:∀o,h.get? a=dA o->h'.get? a=dA o):h'.DictOf knd a iN:=x.elim λo x=>x.elim λes x=>x.elim λb x=>⟨o,es,b,k o x.1,x.2⟩
theorem p6{W:Wd}{h h':Heap}{a:qc}{c:dZ}(x:jD W h a c)(k:∀b∈foot a c,∀o,h.get? b=dA o->h'.get? b=dA o):jD W h' a c:=by
 have d:=k a jd;cases c with
 |F|H=>exact x.elim λvs x=>x.elim λn x=>⟨vs,n,d _ x.1,x.2⟩
 |i=>exact x.elim λvs x=>x.1.elim λo y=>⟨vs,⟨o,d _ y.1,y.2⟩,x.2⟩
 |d|j=>exact x.elim λiN x=>⟨iN,Heap.DictOf.B x.1 d,x.2⟩
 |f c dx l=>exact⟨d _ x.1,x.2.1,x.2.2.elim λm y=>⟨m,y.1.at (k dx CK),y.2⟩⟩
 |y=>exact⟨d _ x.1,x.2⟩
theorem C2{W:Wd}{h h':Heap}{a:qc}{c:dZ}(x:jD W h a c)(k:∀b o,h.get? b=dA o->h'.get? b=dA o):jD W h' a c:=
 p6 x λb d=>k b
theorem nZ{W:Wd}{h:Heap}{a:qc}{c:dZ}(x:jD W h a c):∃o,h.get? a=dA o:=by
 cases c with
 |F|H=>exact x.elim λvs x=>x.elim λn x=>⟨_,x.1⟩
 |i=>exact x.elim λvs x=>x.1.elim λo y=>⟨_,y.1⟩
 |d|j=>exact x.elim λiN x=>x.1.elim λo x=>x.elim λb x=>x.elim λb x=>⟨_,x.1⟩
 |f|y=>exact⟨_,x.1⟩
theorem Fa{W:Wd}{h:Heap}{a:qc}{c:dZ}(x:jD W h a c){b:qc}(hb:b∈foot a c):∃o,h.get? b=dA o:=by
 rcases qG.mp hb with e|hb
 ·exact e▸nZ x
 ·cases c with
  |f c dx l=>
   rw[qD.mp hb];exact x.2.2.elim λm y=>y.1.elim λo y=>y.elim λd y=>y.elim λd y=>⟨o,y.1⟩
  |_=>cases hb
def b5(st:St)(b:qc):Prop:=∃a c,st a=dA c/\b∈foot a c
theorem yn{st:St}{a b:qc}{c:dZ}(e:st a=dA c)(hb:b∈foot a c):b5 st b:=⟨a,c,e,hb⟩
theorem sX{st:St}{a:qc}{c:dZ}(e:st a=dA c):b5 st a:=⟨a,c,e,jd⟩
def young(W:Wd)(a:qc)(c:dZ):Prop:=match c with
 |.F _|.d _|.j _=>W.b.heap.get? a=ft
 |.f c dx _=>c=.bM\/(W.b.heap.get? a=ft/\W.b.heap.get? dx=ft)
 |_=>xT
structure eM(W:Wd)(st:St)(h:Heap):Prop where
 i:∀b o,W.b.heap.get? b=dA o->h.get? b=dA o
 E:∀a c,st a=dA c->jD W h a c
 f:∀a c,st a=dA c->young W a c
 r:∀x d,st x=dA d->∀y e,st y=dA e->∀b,b∈foot x d->b∈foot y e->x=y
 g:∀a c,st a=dA c->a∉v4 c
section
variable{W:Wd}{st:St}{h h':Heap}
theorem eM.u(I:eM W st h){b:qc}:b5 st b->∃o,h.get? b=dA o:=λ⟨_,_,e,hb⟩=>Fa (I.E _ _ e) hb
theorem aP{h:Heap}{b:qc}(e:h.get? b=ft):¬∃o,h.get? b=dA o:=λ⟨o,x⟩=>by rw[e]at x;cases x
theorem eY{α:Type}{o:qk α}(h:¬∃x,o=dA x):o=ft:=by
 cases o with
 |none=>rfl
 |some x=>exact qH ⟨x,dq⟩ h
theorem eM.s(I:eM W st h){b:qc}(e:h.get? b=ft):¬b5 st b:=λob=>aP e<|I.u ob
theorem eM.t(I:eM W st h){b:qc}(e:h.get? b=ft):st b=ft:=eY λ⟨_,q⟩=>I.s e<|sX q
theorem eM.p(I:eM W st h){b:qc}(e:h.get? b=ft):W.b.heap.get? b=ft:=eY λ⟨o,q⟩=>aP e ⟨o,I.i _ _ q⟩
theorem eM.m(I:eM W st h)(k:∀b o,h.get? b=dA o->h'.get? b=dA o):eM W st h':=
 ⟨λb o e=>k b o<|I.i b o e,λa c e=>C2 (I.E a c e) k,I.f,I.r,I.g⟩
end
noncomputable def dm(l:qe Env):qe qc:=l.filterMap (·.frame)
structure Sf(l:qe Env)(st:St)(h:Heap)(ba:St)(h':Heap):Prop where
 r:∀b o,¬b5 st b->h.get? b=dA o->∃sl,h'.get? b=dA {o with slots:=sl}/\(b∉dm l->sl=o.slots)
 G:∀b,b5 ba b->b5 st b\/h.get? b=ft
 s:∀b,b5 st b->b5 ba b
section
variable{l:qe Env}{st ly VC ba:St}{h jG tH h':Heap}
theorem Sf.m(k:∀b o,h.get? b=dA o->h'.get? b=dA o):Sf l st h st h':=⟨λb o a e=>⟨o.slots,k b o e,λa=>dq⟩,λa q=>.inl q,λa o=>o⟩
theorem Sf.j(st:St)(h:Heap):Sf l st h st h:=.m λa a e=>e
theorem Sf.v(x:Sf l st h ba h'){b:qc}{o:Obj}(n:¬b5 st b)(e:h.get? b=dA o)(q:b5 ba b):qp:=(x.G b q).elim n λq=>aP q ⟨o,e⟩
theorem Sf.t(x:Sf l st h ba h'){b:qc}{o:Obj}(n:¬b5 st b)(e:h.get? b=dA o):∃a,h'.get? b=dA {o with slots:=a}:=
 (x.r b o n e).elim λa y=>⟨a,y.1⟩
theorem Sf.A(x:Sf l st h ba h'){b:qc}{o:Obj}(n:¬b5 st b)(e:h.get? b=dA o)(f:b∉dm l):h'.get? b=dA o:=
 (x.r b o n e).elim λa y=>by rw[y.1,y.2 f]
theorem Ef(d:∀b o,¬b5 st b->h.get? b=dA o->∃a,jG.get? b=dA {o with slots:=a}){b:qc}(q:jG.get? b=ft):b5 st b\/h.get? b=ft:=by
 by_cases ob:b5 st b
 ·exact .inl ob
 ·exact .inr<|eY λ⟨o,e⟩=>(d b o ob e).elim λc g=>aP q ⟨_,g⟩
theorem Sf.i(x:Sf l st h ly jG)(y:Sf l ly jG VC tH):Sf l st h VC tH:=
 ⟨λb o n e=>(x.r b o n e).elim λd g=>(y.r b {o with slots:=d} (x.v n e) g.1).elim λa g'=>⟨a,g'.1,λf=>(g'.2 f).trans (g.2 f)⟩,
  λb q=>(y.G b q).elim (x.G b) (Ef λc c=>x.t),λb o=>y.s b (x.s b o)⟩
end
theorem D6(st:St)(a:qc)(c:dZ):(st.H a c) a=dA c:=qK dq
theorem Ce(st:St){a b:qc}(c:dZ)(h:b≠a):(st.H a c) b=st b:=if_neg h
theorem kK{st:St}{a x:qc}{c d:dZ}(e:(st.H a c) x=dA d):(x=a/\d=c)\/(x≠a/\st x=dA d):=by
 by_cases q:x=a
 ·rw[q,D6]at e;exact .inl ⟨q,(qA e).symm⟩
 ·rw[Ce _ _ q]at e;exact .inr ⟨q,e⟩
section
variable{W:Wd}{st:St}{h h':Heap}{a:qc}{c c':dZ}{D:qe qc}
theorem Cd(I:eM W st h)(k:∀b o,b∉D->h.get? b=dA o->h'.get? b=dA o)(j:∀b∈D,W.b.heap.get? b=ft)(i:∀x d,st x=dA d->x≠a->∀b∈foot x d,b∉D/\b∉foot a c')(p:a∉v4 c')
  (hc:jD W h' a c')(m:young W a c'):eM W (st.H a c') h' where
 i:=λb o e=>k b o (λq=>by rw[j b q]at e;cases e)<|I.i b o e
 E:=λx d e=>by
  rcases kK e with⟨e1,e2⟩|⟨n,e⟩
  ·rw[e1,e2];exact hc
  ·exact p6 (I.E _ _ e) λb hb o=>k b o (i _ _ e n b hb).1
 f:=λx d e=>by
  rcases kK e with⟨e1,e2⟩|⟨n,e⟩
  ·rw[e1,e2];exact m
  ·exact I.f _ _ e
 r:=λx d e y f g b hb c=>by
  rcases kK e with⟨e1,e2⟩|⟨n,e⟩<;>rcases kK g with⟨g1,g2⟩|⟨l,g⟩
  ·rw[e1,g1]
  ·rw[e1,e2]at hb;exact qH hb (i _ _ g l b c).2
  ·rw[g1,g2]at c;exact qH c (i _ _ e n b hb).2
  ·exact I.r _ _ e _ _ g b hb c
 g:=λx d e=>by
  rcases kK e with⟨e1,e2⟩|⟨n,e⟩
  ·rw[e1,e2];exact p
  ·exact I.g _ _ e
theorem HT{l:qe Env}(k:∀b o,¬b5 st b->h.get? b=dA o->h'.get? b=dA o)(f:∀b∈foot a c',b5 st b\/h.get? b=ft)(c:∀d,st a=dA d->∀b∈foot a d,b∈foot a c'):Sf l st h (st.H a c') h' where
 r:=λb o n e=>⟨o.slots,k b o n e,λg=>dq⟩
 G:=λb ⟨x,d,e,hb⟩=>by
  rcases kK e with⟨e1,e2⟩|⟨n,e⟩
  ·rw[e1,e2]at hb;exact f b hb
  ·exact .inl ⟨x,d,e,hb⟩
 s:=λb ⟨x,d,e,hb⟩=>by
  by_cases q:x=a
  ·subst q;exact⟨x,c',D6 _ _ _,c d e b hb⟩
  ·exact⟨x,d,(Ce _ _ q).trans e,hb⟩
theorem Fk{l:qe Env}(I:eM W st h)(k:∀b o,h.get? b=dA o->h'.get? b=dA o)
  (f:∀b∈foot a c,h.get? b=ft)(hc:jD W h' a c)(j:a∉v4 c):st a=ft/\eM W (st.H a c) h'/\Sf l st h (st.H a c) h':=by
 have i:=I.t<|f a jd;refine⟨i,Cd (D:=[]) I (λb o g=>k b o) (λg z=>nomatch z) (λx d e g b hb=>⟨(λz=>nomatch z),λz=>I.s (f b z) ⟨x,d,e,hb⟩⟩) j hc ?_,HT (λb o g=>k b o) (λb hb=>.inr<|f b hb) λd e=>by rw[i]at e;cases e⟩
 cases c with
 |F|d|j=>exact I.p<|f a jd
 |f=>exact .inr ⟨I.p<|f a jd,I.p<|f _ CK⟩
 |_=>trivial
theorem pH{l:qe Env}{x:qc}(I:eM W st h)(e:st a=dA c)(g:x∈foot a c)(i:∀b o,b≠x->h.get? b=dA o->h'.get? b=dA o)
  (hc:jD W h' a c')(hd:v4 c'=v4 c)(m:young W a c')(p:W.b.heap.get? x=ft):eM W (st.H a c') h'/\Sf l st h (st.H a c') h':=by
 have f:foot a c'=foot a c:=qh (a::·) hd;refine⟨Cd (D:=[x]) I (λb o n=>i b o λz=>n<|z▸.head _) (λb z=>qD.mp z▸p) (λy d j n b hb=>⟨λz=>?_,λz=>?_⟩) (hd▸I.g _ _ e) hc m,HT (λb o n=>i b o λz=>n<|z▸⟨a,c,e,g⟩) (λb hb=>.inl ⟨a,c,e,f▸hb⟩) λd k=>by rw[e]at k;cases k;exactλb hb=>f▸hb⟩
 ·rw[qD.mp z]at hb;exact n<|I.r _ _ j _ _ e x hb g
 ·rw[f]at z;exact n<|I.r _ _ j _ _ e b hb z
end
inductive Ah(B:Heap)(l:qe Env)(e:qc)(h:Heap):Prop
 |mk(f1:B.StaysIn h)(f2:B.get? e=ft)(f3:h.FunFrames B l)(a0 fl:qo)(oe:Obj)(vs:Array qo)(T:qc)(oT:Obj)(ts:Array qo)(he:h.get? e=dA oe)(yK:oe.cls=.type "ValueError")(h0:vs[0]?=dA a0)(hd:oe.data=.fields vs)(h1:vs[1]?=dA (.ref T))
   (hnT:B.get? T=ft)(hTe:T≠e)(hT:h.get? T=dA oT)(IH:oT.data=.fields ts)(h3:ts[3]?=dA fl)
theorem Ah.A(f1:B.StaysIn h)(f2:B.get? e=ft)(f:h.FunFrames B l)(x:h.TracedAtW B e (.type "ValueError") a0 fl):Ah B l e h:=by
 obtain⟨b,vs,T,c,ts,d,⟨a,h0⟩,r⟩:=x;exact⟨f1,f2,f,a0,fl,b,vs,T,c,ts,d,a,h0,r.1,r.2.1,r.2.2.1,r.2.2.2.1,r.2.2.2.2.1,r.2.2.2.2.2.1,r.2.2.2.2.2.2⟩
def ahp(B:Heap)(l:qe Env)(e:qc)(h:Heap):Prop:=∃hb,Heap.MadeExc hb h e "ValueError" []/\B.StaysIn hb/\hb.FunFrames B l
def Exn(B:Heap)(l:qe Env)(e:qc)(h:Heap):Prop:=Ah B l e h\/ahp B l e h
section
variable{E:qo->qy->Prop}{s:qy}{B:Heap}{env:Env}{l:qe Env}{L e:qc}
theorem wz(x:Ah B l e s.heap)(c:qo):∃f vs T i ts fl,s.heap.get? e=dA f/\f.data=.fields vs/\vs[1]?=dA (.ref T)/\s.heap.get? T=dA i/\i.data=.fields ts/\ts[3]?=dA fl/\
  Ah B l e (s.heap.update T (acQ (·.setIfInBounds 3 c)))/\s.heap.UpToSlots (s.heap.update T (acQ (·.setIfInBounds 3 c))):=by
 obtain⟨f1,f2,r,a0,fl,f,vs,T,i,ts,n,p,h0,hd,h1,g,h,k,j,h3⟩:=x;have m:3<ts.size:=(zf.mp h3).1;have other:∀b,b≠T->(s.heap.update T (acQ (·.setIfInBounds 3 c))).get? b=s.heap.get? b:=λb hb=>acq _ _<|aeR hb
 have plain:∀b o,s.heap.get? b=dA o->(∀vs,o.data≠.fields vs)->(s.heap.update T (acQ (·.setIfInBounds 3 c))).get? b=dA o:=λb o hb a=>(other b λq=>by
  rw[q,k]at hb;injection hb with hb;subst hb;exact a ts j).trans hb
 exact⟨f,vs,T,i,ts,fl,n,hd,h1,k,j,h3,⟨λb o d=>(other b λq=>by rw[q,g]at d;cases d).trans (f1 b o d),f2,r.of_keeps λb o hb a=>⟨o,plain b o hb a,dq⟩,a0,c,f,vs,T,_,_,
  (other e (aeR h)).trans n,p,h0,hd,h1,g,h,aie _ k (aik (acT j _)),acT j _,(Array.getElem?_setIfInBounds_self_of_lt m)⟩,λb o hb a=>⟨o.slots,plain b o hb a⟩⟩
theorem Nj(T:qc):(Bn T !=ace)=hY:=dq
theorem iO(x:Ah B l e s.heap)(fr:qk zM)(k:∀h',Ah B l e h'->s.heap.UpToSlots h'->Q () {s with heap:=h'}):
  qU M A (setFlight (.ref e) fr) Q E s:=by
 obtain⟨d,vs,T,g,ts,fl,a,hd,h1,b,c,h3,F,u⟩:=wz x<|fr.elim ace λf=>rawInt f;unfold setFlight;refine qE<|zW a hd h1 ?_;rw[qK (Nj T)];exact wpAny_setField b c (zf.mp h3).1<|k _ F u
theorem vS(a:env.frame=fe.frame):noteFrame (.ref e) env=noteFrame (.ref e) fe:=by unfold noteFrame PySem.frameOf;rw[a]
theorem FP{h h' a:Heap}(x:h.UpToSlots h')(y:h'.UpToSlots a):h.UpToSlots a:=x.trans y
theorem KH{M:ahS}{A:xu}{fe:Env}{outer:qe Env}{l:qw}{Q:Z8->qy->Prop}(p:A.frames=dA (fe::outer))(m:fe.frame=dA L)(x:Ah B (fe::outer) e s.heap){T:qc}(k:∀h',Ah B (fe::outer) e h'->s.heap.UpToSlots h'->Q () {s with heap:=h'}):
  qU M A (do let a←frameOf fe;let i←entryPlaceOf L l;let b←EntryCells.newEntry (.ref T) a .none (rawInt L) .none i;setField (.ref e) 1 b) Q E s:=by
 cases x with
 |mk f1 f2 q a0 fl r vs T t ts n c h0 hd h1 j o u v h3=>
  exact wpAny_entryW p q m n f1 f2 hd (zf.mp h1).1 h0 λh' ⟨h,g,f,d⟩=>k h' (.A h f2 g<|c▸f) d
theorem tP{M:ahS}{A:xu}{fe:Env}{outer:qe Env}{Q:Z8->qy->Prop}(g:A.frames=dA (fe::outer))(a:fe.frame=dA L)(c:env.frame=dA L)(x:Exn B (fe::outer) e s.heap)
  (k:∀h',Ah B (fe::outer) e h'->s.heap.UpToSlots h'->Q () {s with heap:=h'}):qU M A (noteFrame (.ref e) env) Q E s:=by
 rw[vS (c.trans a.symm)];rcases x with x|⟨hb,⟨mk,n,t,g1,g2,g3⟩,st,fr⟩
 ·obtain⟨w,vs,T,y,ts,fl,c,hd,h1,f,h,h3,F,u⟩:=wz x .none;unfold noteFrame;simp only[a];refine qE<|zW c hd h1 ?_;rw[qK (Nj T)];refine qE<|zW f h h3 ?_;by_cases q:fl=rawInt L
  ·rw[qK (by rw[q];exact qZ _)]
   exact qW<|k _ x (.refl _)
  ·rw[if_neg (by simpa using q)]
   refine qE<|wpAny_setField f h (zf.mp h3).1 ?_;exact KH g a F λh' r p=>k h' r<|FP u p
 ·have d:B.get? e=ft:=eY λ⟨o,q⟩=>aP n ⟨o,st _ _ q⟩;unfold noteFrame;simp only[a];refine qE (zW g1 dq dq ?_);rw[if_neg (λz=>nomatch z)]
  exact wpAny_entryW (a0:=.ref t) g (fr.of_keeps λb o q v=>⟨o,mk b o q,dq⟩) a g1 (λb o q=>mk b o<|st b o q) d dq (by show 1<6;decide) dq λh' ⟨m,l,j,i⟩=>k h' (.A m d l j) i
theorem KG(j:A.frames=dA (fe::outer))(i:fe.frame=dA L)(x:Exn B (fe::outer) e s.heap)
  (k:∀h',Ah B outer e h'->s.heap.UpToSlots h'->Q () {s with heap:=h'}):qU M A (leaving fe<|.ref e) Q E s:=by
 unfold leaving;refine qE<|tP j i i x λjG d g=>iO (s:={s with heap:=jG}) d ft λtH f h=>?_
 cases f with
 |mk a b c=>exact k tH (.mk a b c.2.2 _ _ _ _ _ _ _ ‹_› ‹_› ‹_› ‹_› ‹_› ‹_› ‹_› ‹_› ‹_› ‹_›)<|g.trans h
theorem CM(x:Ah B l e s.heap)(k:∀h',Ah B l e h'->s.heap.UpToSlots h'->E (.ref e) {s with heap:=h'}):ahZ M A env E (.ref e) s:=by
 obtain⟨b,vs,T,_,_,_,a,hd,h1,_⟩:=wz x .none;unfold cameBackBy;exact qE<|zW a hd h1 (iO x _ k)
theorem GO(x:Ah B l e s.heap)(k:∀h',Ah B l e h'->s.heap.UpToSlots h'->E (.ref e) {s with heap:=h'}):
  qU M A (PySem.passOn a (.ref e) env:Sem α) Q E s:=by
 obtain⟨c,vs,T,_,_,_,b,hd,h1,_⟩:=wz x .none;unfold PySem.passOn;exact qE<|zW b hd h1 (qE<|iO x _ λh' F u=>wpAny_throw<|k h' F u)
end
structure Fr1(W:Wd)(st:St)(h:Heap)(env:Env)(L:qc)(o:Obj):Prop where
 b:env.scope.kind≠.module
 j:env.frame=dA L
 i:W.b.heap.get? L=ft
 p:¬b5 st L
 u:h.get? L=dA o
 t:∀vs,o.data≠.fields vs
def jk(W:Wd)(st:St)(h:Heap)(l:qe Env):Prop:=∀env∈l,∃L o,Fr1 W st h env L o
section
variable{W:Wd}{st ba:St}{h h' B:Heap}{l:qe Env}
theorem jk.u(x:jk W st h l)(no:∀L o,¬b5 st L->h.get? L=dA o->¬b5 ba L)(k:∀L o,L∈dm l->¬b5 st L->h.get? L=dA o->(∀vs,o.data≠.fields vs)->∃a,h'.get? L=dA {o with slots:=a}):jk W ba h' l:=λenv b=>
 (x env b).elim λL y=>y.elim λo f=>(k L o (xD.mpr ⟨env,b,f.j⟩) f.p f.u f.t).elim λa e=>⟨L,_,f.b,f.j,f.i,no L o f.p f.u,e,f.t⟩
theorem jk.A(x:jk W st h l)(ha:a∈dm l):W.b.heap.get? a=ft/\¬b5 st a/\∃o,h.get? a=dA o/\∀vs,o.data≠.fields vs:=by
 obtain⟨b,c,q⟩:=xD.mp ha;obtain⟨L,o,f⟩:=x b c;cases f.j.symm.trans q;exact⟨f.i,f.p,o,f.u,f.t⟩
theorem jk.O(x:jk W st h l)(ha:a∈dm l):∃o,h.get? a=dA o:=(x.A ha).2.2.elim λo y=>⟨o,y.1⟩
theorem jk.d(x:jk W st h l)(y:∀a∈dm l,B.get? a=ft):h.FunFrames B l:=by
 induction l with
 |nil=>trivial
 |cons env l ih=>
  obtain⟨L,o,f⟩:=x env<|.head _;have up:∀a,a∈dm l->a∈dm (env::l):=λa ha=>(xD.mp ha).elim λc z=>xD.mpr ⟨c,.tail _ z.1,z.2⟩;exact⟨f.b,⟨L,o,f.j,y L<|xD.mpr ⟨env,.head _,f.j⟩,f.u,f.t⟩,ih (λenv b=>x env<|.tail _ b) λa ha=>y a<|up a ha⟩
theorem eM.v(I:eM W st h)(z:∀b∈LK,W.b.heap.get? b=ft)(n:∀b∈LK,¬b5 st b):eM W st (ZB h LK):=
 ⟨λb o e=>zX _ (I.i b o e) λq=>(by rw[z b q]at e;cases e),λa a e=>p6 (I.E _ _ e) λb hb a q=>zX _ q λw=>n b w<|yn e hb,I.f,I.r,I.g⟩
theorem jk.v(I:eM W st h)(x:jk W st h l):eM W st (ZB h (dm l))/\(ZB h (dm l)).StaysIn h/\h.FunFrames (ZB h (dm l)) l:=
 ⟨I.v (λa q=>(x.A q).1) λa q=>(x.A q).2.1,λa a e=>ahY _ e,x.d λa ha=>afY _ ha⟩
structure AG(st:St)(h:Heap)(ba:St)(h':Heap):Prop where
 r:∀b o,¬b5 st b->h.get? b=dA o->(∀vs,o.data≠.fields vs)->∃sl,h'.get? b=dA {o with slots:=sl}
 G:∀b,b5 ba b->b5 st b\/h.get? b=ft
theorem AG.u(x:AG st h ba h')(y:h'.UpToSlots tH):AG st h ba tH:=
 ⟨λb o n e q=>(x.r b o n e q).elim λa z=>y b {o with slots:=a} z q,x.G⟩
theorem AG.f(x:h.UpToSlots h'):AG st h st h':=⟨λb o a e q=>x b o e q,λa o=>.inl o⟩
theorem Sf.J(x:Sf l st h ba h'):AG st h ba h':=⟨λa a n e a=>x.t n e,x.G⟩
theorem AG.v(x:AG st h ba h')(n:¬b5 st b)(e:h.get? b=dA o)(q:b5 ba b):qp:=(x.G b q).elim n λq=>aP q ⟨o,e⟩
theorem AG.j(x:Sf l st h ly jG)(y:AG ly jG ba h'):AG st h ba h':=
 ⟨λb o n e q=>(x.t n e).elim λc g=>y.r b {o with slots:=c} (x.v n e) g q,λb q=>(y.G b q).elim (x.G b) (Ef λa a=>x.t)⟩
def Kp(l:qe Env)(st:St)(h:Heap)(ba:St)(B:Heap):Prop:=(∀b o,¬b5 st b->h.get? b=dA o->b∉dm l->B.get? b=dA o)/\∀b,b5 st b->b5 ba b
theorem Kp.r(x:Sf l st h ly jG)(y:Kp l ly jG ba B):Kp l st h ba B:=⟨λb o n e f=>y.1 b o (x.v n e) (x.A n e f) f,λb o=>y.2 b<|x.s b o⟩
theorem jk.J(x:jk W st h l)(y:AG st h ba h'):jk W ba h' l:=x.u (λa a n e=>y.v n e) λL o a=>y.r L o
theorem jk.s(x:jk W st h l)(y:Sf a st h ba h'):jk W ba h' l:=x.J y.J
end
def Sh(W:Wd)(s:qy):Prop:=s.gens=W.b.gens/\s.drawn=W.b.drawn/\s.os=W.b.os
structure fu(W:Wd)(st:St)(s:qy):Prop where
 h:eM W st s.heap
 a:Sh W s
def Rd(m cm:Str->qk qo)(env:Env)(x:Str)(v:AV):Prop:=(env.kindOf x=dA .local->(m x).map ab=dA (dA v))/\(env.kindOf x=dA .cell->(env.cells.lookup x).isSome=hY/\(cm x).map ab=dA (dA v))
structure LRn(env:Env)(h:Heap)(ρ:dz)(m cm:Str->qk qo):Prop where
 A:h.Ns env.locals m
 E:∀n c,env.cells.lookup n=dA c->h.IsCell c (cm n)
 b:∀x v,ρ x=dA v->Rd m cm env x.t v
structure LR(W:Wd)(env:Env)(st:St)(h:Heap)(ρ:dz):Prop where
 A:∃m cm,LRn env h ρ m cm
 r:∀n n' c,env.cells.lookup n=dA c->env.cells.lookup n'=dA c->n=n'
 t:∀n,env.kindOf n=dA .cell->(env.cells.lookup n).isSome=hY
 B:¬b5 st env.locals/\W.b.heap.get? env.locals=ft
 z:∀p∈env.cells,¬b5 st p.2/\W.b.heap.get? p.2=ft/\∃v,h.IsCell p.2 v
theorem VV{h h':Heap}{a:qc}{m:Str->qk qo}(d:h.Ns a m)(k:∀o,h.get? a=dA o->(∀vs,o.data≠.fields vs)->∃b,h'.get? a=dA {o with slots:=b}):h'.Ns a m:=by
 obtain⟨o,es,f,c,hd,r⟩:=d;obtain⟨b,e⟩:=k o c λvs q=>nomatch hd.symm.trans q
 exact⟨_,es,f,e,hd,r⟩
theorem mQ{h:Heap}{a:qc}{m:Str->qk qo}(c:h.Ns a m):∃o,h.get? a=dA o:=c.elim λo x=>x.elim λb x=>x.elim λb x=>⟨o,x.1⟩
theorem Je{h h':Heap}{a:qc}{v:qk qo}(c:h.IsCell a v)(k:∀o,h.get? a=dA o->(∀vs,o.data≠.fields vs)->∃b,h'.get? a=dA {o with slots:=b}):h'.IsCell a v:=by
 obtain⟨o,e,d⟩:=c;obtain⟨b,f⟩:=k o e λvs q=>nomatch d.symm.trans q
 exact⟨_,f,d⟩
theorem si{h:Heap}{a:qc}{v:qk qo}(b:h.IsCell a v):∃o,h.get? a=dA o:=b.elim λo x=>⟨o,x.1⟩
section
variable{W:Wd}{env:Env}{st ba:St}{h h':Heap}{ρ:dz}{l:qe Env}
theorem LR.u(x:LR W env st h ρ)(no:∀b o,b=env.locals\/b∈env.cells.map (·.2)->¬b5 st b->h.get? b=dA o->¬b5 ba b)
  (k:∀b o,b=env.locals\/b∈env.cells.map (·.2)->¬b5 st b->h.get? b=dA o->(∀vs,o.data≠.fields vs)->∃l,h'.get? b=dA {o with slots:=l}):LR W env ba h' ρ:=by
 obtain⟨⟨m,cm,a,b,c⟩,d,e,f,g⟩:=x;have i:∀{p},p∈env.cells->p.2∈env.cells.map (·.2):=zg;refine⟨⟨m,cm,VV a λo e q=>k _ o (.inl dq) f.1 e q,λn c' q=>Je (b n c' q) λo e q'=>k _ o (.inr<|i (aiA q)) (g _<|aiA q).1 e q',c⟩,d,e,⟨(mQ a).elim λo e=>no _ o (.inl dq) f.1 e,f.2⟩,λp j=>?_⟩;obtain⟨g1,g2,v,g3⟩:=g p j;exact⟨(si g3).elim λo e=>no _ o (.inr<|i j) g1 e,g2,v,Je g3 λo e q=>k _ o (.inr<|i j) g1 e q⟩
theorem LR.J(x:LR W env st h ρ)(y:AG st h ba h'):LR W env ba h' ρ:=x.u (λa a a n e=>y.v n e) λb o a=>y.r b o
theorem LR.s(x:LR W env st h ρ)(y:Sf l st h ba h'):LR W env ba h' ρ:=x.J y.J
end
inductive QW(W:Wd)(l:qe Env)(st:St)(h:Heap)(Q:AV->St->Prop)(v:qo)(s':qy):Prop
 |mk(av:AV)(ba:St)(hv:ab v=dA av)(I:fu W ba s')(S:Sf l st h ba s'.heap)(q:Q av ba)
inductive BW(W:Wd)(l:qe Env)(st:St)(h:Heap)(Q:qw->St->Prop)(b:qw)(s':qy):Prop
 |mk(ba:St)(I:fu W ba s')(S:Sf l st h ba s'.heap)(q:Q b ba)
inductive VW(W:Wd)(l:qe Env)(st:St)(h:Heap)(Q:qe AV->St->Prop)(vs:qe qo)(s':qy):Prop
 |mk(k:qe AV)(ba:St)(hv:abs vs k)(I:fu W ba s')(S:Sf l st h ba s'.heap)(q:Q k ba)
inductive EX(W:Wd)(F:Heap->qc->Heap->Prop)(l:qe Env)(st:St)(h:Heap)(X:St->Prop)(e:qo)(s':qy):Prop
 |mk(ea:qc)(B:Heap)(ba:St)(he:e=.ref ea)(sh:Sh W s')(I:eM W ba B)(ex:F B ea s'.heap)(U:AG st h ba s'.heap)(K:Kp l st h ba B)(x:X ba)
abbrev EW(W:Wd)(l:qe Env):=EX W (λB e h=>Exn B l e h) l
abbrev FW(W:Wd)(l:qe Env):=EX W (λB e h=>Ah B l e h) l
section
variable{W:Wd}{l:qe Env}{st:St}{h:Heap}
theorem QW.r(x:Sf l st h ly jG)(y:QW W l ly jG Q v s'):QW W l st h Q v s':=by
 cases y with|mk a b c d e f=>exact⟨a,b,c,d,x.i e,f⟩
theorem BW.r(x:Sf l st h ly jG)(y:BW W l ly jG Q v s'):BW W l st h Q v s':=by
 cases y with|mk b d e f=>exact⟨b,d,x.i e,f⟩
theorem EX.r(x:Sf l st h ly jG)(y:EX W F l ly jG X e s'):EX W F l st h X e s':=by
 cases y with|mk a b c d e f g i k j=>exact⟨a,b,c,d,e,f,g,i.j x,k.r x,j⟩
theorem EX.m(y:FW W l st h X e s'):EW W l st h X e s':=by
 cases y with|mk a b c d e f g i k j=>exact⟨a,b,c,d,e,f,.inl g,i,k,j⟩
theorem cO(h:Heap):h.get? h.objs.size=ft:=eY λ⟨_,q⟩=>xr _<|zc q
theorem iT(e:h.objs.size<=a):h.get? a=ft:=eY λ⟨_,q⟩=>Nat.not_lt.mpr e<|zc q
variable{s:qy}{tk:qc}{Q:AV->St->Prop}
theorem QW.p(I:fu W st s)(a:ab v=dA av)(b:Q av st):QW W l st s.heap Q v {s with toks:=tk}:=⟨av,st,a,⟨I.h,I.a⟩,.j _ _,b⟩
theorem QW.t(I:fu W st s)(k:∀b o,s.heap.get? b=dA o->h'.get? b=dA o)
  (g:s.heap.get? a=ft)(hc:jD W h' a c)(e:v4 c=[])(d:dW c Q st):QW W l st s.heap Q (.ref a) {s with heap:=h',toks:=tk}:=by
 obtain⟨f,j,i⟩:=Fk (l:=l) I.h k (λb hb=>tO hb e▸g) hc (by rw[e];exactλz=>nomatch z)
 unfold dW at d;exact⟨_,_,dq,⟨j,I.a⟩,i,d a f⟩
theorem QW.F(I:fu W st s)(b:abs vs k)(d:dW (.F k) Q st):
  QW W l st s.heap Q (.ref s.heap.objs.size) {s with heap:=s.heap.push {cls:=.type "list",data:=.seq vs.toArray},toks:=tk}:=
 QW.t (c:=.F k) I (λa a e=>qQ _ e) (cO _) ⟨_,0,wt _ dq,b⟩ dq d
theorem QW.H(I:fu W st s)(b:abs vs k)(d:dW (.H k) Q st):
  QW W l st s.heap Q (.ref s.heap.objs.size) {s with heap:=s.heap.push {cls:=.type "tuple",data:=.seq vs.toArray},toks:=tk}:=
 QW.t (c:=.H k) I (λa a e=>qQ _ e) (cO _) ⟨_,0,wt _ dq,b⟩ dq d
end
def abQ:qe (Nm×qo):=[(.C,.builtin "len"),(.vp,.builtin "abs"),(.yA,.builtin "ord"),(⟨254⟩,.builtin "isinstance"),(.iL,.type "int"),(.nF,.type "tuple"),(.B,.type "list"),(.kC,.type "dict"),(⟨135⟩,.type "range"),
 (⟨41⟩,.type "zip"),(⟨240⟩,.type "enumerate"),(.gX,.type "bool"),(⟨250⟩,.type "ValueError")]
def Fd(x:Nm):qk qo:=fm abQ x
def v5(W:Wd)(f:lS):Prop:=∃o b a doc,W.b.heap.get? (W.d f)=dA o/\o.cls=.type "function" /\
 o.data=.func (Z9 (W.i f).e (W.i f).d (W.i f).b (W.i f).a (W.i f).c b a doc)/\W.b.heap.CodeRec a (W.i f).d
def hO(c:Nm):qw:=iq c&&c !=.X
def upW(W:Wd)(c:Nm):qe qo:=(if hO c then[.ref (W.k .X)]else[])++[.type "object"]
def Ei(W:Wd)(c:Nm):qe qo:=.ref (W.k c)::upW W c
noncomputable def HH:qe Str:=["__getattribute__", "__getattr__", "__setattr__", "__class__", "__eq__", "__ne__", "__call__"]
inductive al9(W:Wd)(c:Nm):Prop
 |mk(nm q:Str)(N:qc)(bs:qe qo)(sn:qe Str)(sub:qe qo)(col:qk qw)(dd k0 k1 k2 k3 k5)(e:W.b.heap.get? (W.k c)=dA (aj3 nm q (W.k c) N bs (upW W c) hY sn sub np col dd k0 k1 k2 k3 k5 "object.__new__"))(n:W.b.heap.Ns N (W.e c))
structure JC(W:Wd)(c:Nm):Prop where
 f:al9 W c
 y:∀m,(cA c).contains m=hY->W.e c m.t=dA (.ref<|W.d (.y c m))/\v5 W (.y c m)
 d:∀x:Nm,(cA c).contains x=np->x≠.w->W.e c x.t=ft
 b:(W.e c<|Nm.t .w).map ab=(eK c).map λk=>dA<|.j k
 g:∀n∈HH,W.e c n=ft
structure Wd.g(W:Wd):Prop where
 b:W.b.heap.Ns zh W.h
 d:W.b.heap.Ns zZ W.L
 i:W.b.heap.NoLimit
 e:∃o,W.b.heap.get? al7=dA o
 g:W.b.gens=#[]
 a:∀c,gd c=hY->JC W c/\W.h c.t=dA (.ref<|W.k c)
 inj:∀c c',gd c=hY->gd c'=hY->W.k c=W.k c'->c=c'
 r:∀f,aeO f=hY->W.h f.t=dA (.ref<|W.d (.r f))/\v5 W (.r f)
 h:∀p v,Fd p=dA v->W.h p.t=ft/\W.L p.t=dA v
 m:∀x v,yP W.T x=dA v->∃v',W.h x.t=dA v'/\ab v'=dA v
section
variable{W:Wd}{c:Nm}
inductive ama(W:Wd)(c:Nm):Prop
 |mk(od:qk zM)(cd:aaG)(sl:Array (qk qo))(e:W.b.heap.get? (W.k c)=dA ⟨.type "type",od,.cls cd,sl⟩)(hm:cd.mro=Ei W c)(hd:cd.hasDict=hY)(ha:cd.abstract=np)(hx:cd.hasDel=np)(hn:(sl.toList[4]?).join=dA (.builtin "object.__new__"))(n:W.b.heap.Ns cd.ns (W.e c))
theorem JC.p(x:JC W c):ama W c:=by
 cases x.f with|mk nm q N bs sn sub col dd a k1 k2 k3 k5 e n=>
 exact⟨_,_,_,e,dq,dq,dq,dq,dq,n⟩
abbrev Wd.K(W:Wd):Frag:=kOf W.b.heap
theorem eM.j{st:St}(I:eM W st h):W.K.In h:=aao I.i
variable(O:W.g)(hc:gd c=hY)
include O hc
theorem p5:∃a,clsIn W.K (W.k c)=dA a/\a.mro=Ei W c/\a.hasDict=hY:=by
 cases(O.a c hc).1.p with|mk od a d e b hd=>
 exact⟨a,by unfold clsIn;rw[eQ,e],b,hd⟩
theorem rM:typeIn W.K (.ref (W.k c))=dA (.type "type"):=by
 cases(O.a c hc).1.p with|mk od b a e=>
 show((W.K).lookup _).map (·.cls)=_;rw[eQ,e];rfl
theorem HY(name:Str):ownIn W.K name (.ref (W.k c))=dA (W.e c name):=by
 cases(O.a c hc).1.p with|mk od g a e f hd ha b d n=>
 unfold ownIn;dsimp only;rw[eQ,e];exact NR n name
omit hc O in
theorem pT:gd .X=hY:=by decide+kernel
def mn(W:Wd)(c:Nm)(name:Str):qk qo:=(W.e c name).or (if hO c then W.e .X name else ft)
omit O hc in
theorem su{K:Frag}(h:ownIn K name v=dA o):alongIn K name (v::r)=match(generalizing:=false) o with|some x=>dA (dA x)|none=>alongIn K name r:=by
 cases o<;>(refine aiN (b:=match ownIn K name v with|some (dA v)=>dA (dA v)|some ft=>alongIn K name r|none=>ft) dq ?_;rw[h])
omit O hc in
theorem BK{K:Frag}:alongIn K name [.type "object"]=dA (Zf "object" name):=
 (su (o:=Zf "object" name) dq).trans (by cases Zf "object" name<;>rfl)
theorem lE(name:Str):aiQ W.K (.ref (W.k c)) name=dA ((mn W c name).or (Zf "object" name)):=by
 cases(O.a c hc).1.p with|mk od d b e a=>
 unfold findIn;dsimp only;rw[eQ,e];dsimp only;rw[a];refine(su<|HY O hc name).trans ?_;unfold mn upW;cases W.e c name with
 |some v=>rfl
 |none=>
  cases hO c with
  |false=>exact BK
  |true=>
   refine(su<|HY O pT name).trans ?_;show _=dA ((W.e .X name).or _);cases W.e .X name with
   |some v=>rfl
   |none=>exact BK
theorem G5(a:n∈HH):mn W c n=ft:=by
 unfold mn;rw[(O.a c hc).1.g n a,(O.a .X pT).1.g n a];exact ite_self _
theorem pZ(a:n∈HH)(e:Zf "object" n=r):aiQ W.K (.ref (W.k c)) n=dA r:=by
 rw[lE O hc,G5 O hc a,e];rfl
omit hc in
theorem je(h:(cA c).contains m=hY):gd c=hY/\v5 W (.y c m):=by
 have:gd c=hY:=by
  unfold cA at h;cases q:fm N9 c with
  |none=>rw[q]at h;cases h
  |some l=>exact qV.mp (show N9.all (λp=>gd p.1)=hY by decide+kernel) _<|ph q
 exact⟨this,((O.a c this).1.y m h).2⟩
omit O hc in
theorem El(h:cR c m=dA f):∃d,f=.y d m/\(cA d).contains m=hY/\(d=c\/(d=.X/\iq c=hY/\(cA c).contains m=np)):=by
 unfold cR at h;by_cases q:(cA c).contains m=hY
 ·rw[qK q]at h;exact⟨c,(qA h).symm,q,.inl dq⟩
 ·rw[if_neg q]at h;by_cases a:(iq c&&(cA .X).contains m)=hY
  ·rw[qK a]at h;have b:=q8.mp a;exact⟨_,(qA h).symm,b.2,.inr ⟨dq,b.1,aaD.mpr q⟩⟩
  ·rw[if_neg a]at h;cases h
omit O hc in
theorem Em(h:cR c m=ft):(cA c).contains m=np/\(iq c=hY->(cA .X).contains m=np):=by
 unfold cR at h;cases q:(cA c).contains m with
 |true=>rw[q]at h;cases h
 |false=>
  refine⟨dq,λb=>?_⟩;rw[q,b]at h;cases a:(cA .X).contains m with
  |true=>rw[a]at h;cases h
  |false=>rfl
theorem lG(h:cR c m=dA f):∃d,f=.y d m/\mn W c m.t=dA (.ref (W.d (.y d m)))/\(cA d).contains m=hY:=by
 obtain⟨d,e,q,e2⟩:=El h;refine⟨d,e,?_,q⟩;unfold mn;rcases e2 with e2|⟨e2,g,a⟩
 ·rw[←e2,((O.a d<|e2▸hc).1.y m q).1];rfl
 ·subst e2;have i:m≠.w:=λz=>by rw[z]at q;exact qH q (by decide+kernel)
  have b:hO c=hY:=by
   unfold hO;rw[g,ahI,zJ];exactλz=>by rw[z]at a;exact qB<|a.symm.trans q
  rw[(O.a c hc).1.d m a i,b,qK dq,((O.a .X pT).1.y m q).1];rfl
theorem y4(h:cR c x=ft)(a:x≠.w):mn W c x.t=ft:=by
 obtain⟨q,b⟩:=Em h;unfold mn;rw[(O.a c hc).1.d x q a];cases d:hO c with
 |false=>rfl
 |true=>exact(O.a .X pT).1.d x (b (q8.mp d).1) a
theorem y5(h:eK c=dA k):∃t,mn W c (Nm.t .w)=dA (.int k t):=by
 have:=(O.a c hc).1.b;rw[h]at this;obtain⟨v,q,e⟩:=qS.mp this;obtain⟨t,rfl⟩:=fI e;exact⟨t,by unfold mn;rw[q];rfl⟩
theorem C0(h:eK c=ft):mn W c (Nm.t .w)=ft:=by
 have:=(O.a c hc).1.b;rw[h]at this;unfold mn hO iq;rw[Zl.mp this,h];rfl
end
theorem so(h:mG x=hY):x≠.r/\Zf "object" x.t=ft/\aj4.contains x.t=np/\x.t∈J2:=by
 unfold mG at h;rw[qz,qz,qz,zJ,xm,xc,xd]at h;exact⟨h.1.1.1,h.1.1.2,h.1.2,h.2⟩
theorem t9(h:o=dA x)(k:f x=r):o.bind f=r:=by rw[h];exact k
theorem r5{K:Frag}{C:zM}{od:qk Obj}{name:Str}{b:aaG}{attr get own:qk qo}(h1:clsIn K C=dA b)(h2:aiQ K (.ref C) name=dA attr)(h3:(match(generalizing:=false) attr with|some a=>ahx K a "__get__" |none=>dA ft)=dA get)
  (h4:(match(generalizing:=false) attr,get with|some a,dA _=>takesIn K a|_,_=>dA np)=dA np)(c:ownOf b od name=dA own):findObj K C od name=match(generalizing:=false) own with
   |some v=>dA<|.value v
   |none=>if aj4.contains name&&(b.mro.isEmpty||b.mro.contains (.type "staticmethod")||b.mro.contains (.type "classmethod"))then ft else match(generalizing:=false) attr,get with
    |some a,dA g=>dA<|.bind g a
    |some a,ft=>if handedIn a then dA (.value a)else ft
    |none,_=>dA .missing:=by
 exact t9 h1<|t9 h2 (t9 h3<|t9 h4 (show(ajO b od name).bind _=_ from t9 c dq))
section
variable{W:Wd}{st:St}{h:Heap}{a dx:qc}{c:Nm}{l:qe (Nm×AV)}
inductive IAt(W:Wd)(h:Heap)(a:qc)(c:Nm)(dx:qc)(l:qe (Nm×AV)):Prop
 |mk(od:Obj)(m:Str->qk qo)(I:InstAt h a (acj (W.k c) dx) (W.k c) (dA od))(n:h.Ns1 dx m)(r:attrs l m)(ho:h.get? dx=dA od)(hl:∀n,lookIn n od=dA (m n))(hc:gd c=hY)
theorem instAt_of(I:eM W st h)(e:st a=dA (.f c dx l)):IAt W h a c dx l:=by
 obtain⟨e1,e2,m,n,r⟩:=I.E _ _ e;obtain⟨od,b,_⟩:=A8 n.ns ⟨#[]⟩;exact⟨od,m,⟨e1,dq,dq,b⟩,n,r,b,λx=>(A8 n.ns x).elim λd q=>by rw[qA (b.symm.trans q.1)];exact q.2,e2⟩
theorem He(r:attrs l m)(e:fm l x=dA v):∃v',m x.t=dA v'/\ab v'=dA v:=by
 have:=r.1 x;rw[e]at this;exact qS.mp this
theorem sj(r:attrs l m)(e:fm l x=ft):m x.t=ft:=by
 have:=r.1 x;rw[e]at this;exact Zl.mp this
theorem KA{v:qo}{a:AV}(e:ab v=dA a):handedIn v=hY:=by
 obtain⟨t,rfl⟩:=i8 e;cases a<;>rfl
variable{E:qo->qy->Prop}
theorem O7(O:W.g)(hc:gd c=hY):aiQ W.K (.ref (W.k c)) "__getattribute__" =dA (dA (.builtin "object.__getattribute__")):=pZ O hc (.head _) (by decide+kernel)
theorem aaO(O:W.g)(hc:gd c=hY):aiQ W.K (.ref (W.k c)) "__getattr__" =dA ft:=pZ O hc (.tail _ (.head _)) (by decide+kernel)
theorem pY(F:v5 W f):typeIn W.K (.ref (W.d f))=dA (.type "function"):=by
 obtain⟨o,a,b,doc,e,k,_⟩:=F;show((W.K).lookup _).map (·.cls)=_;rw[eQ,e];exact qh dA k
theorem nT(F:v5 W f)(e:acG "function" n=r):ahx W.K (.ref (W.d f)) n=r:=by
 unfold specialIn;rw[pY F];exact e
theorem EL(F:v5 W f):takesIn W.K (.ref (W.d f))=dA np:=by
 unfold takesIn;rw[nT F (show acG "function" "__set__" =dA ft from by decide+kernel),nT F (show acG "function" "__delete__" =dA ft from by decide+kernel)];rfl
theorem IR(F:v5 W f):ahx W.K (.ref (W.d f)) "__get__" =dA (dA (.builtin "function.__get__")):=nT F (by decide+kernel)
theorem SD(O:W.g)(hc:gd c=hY){x:Nm}:∃get,(match mn W c x.t with|some a=>ahx W.K a "__get__" |none=>dA ft)=dA get/\(match mn W c x.t,get with|some a,dA _=>takesIn W.K a|_,_=>dA np)=dA np:=by
 cases h:cR c x with
 |some f=>
  obtain⟨d,_,e,own⟩:=lG O hc h;have F:=(je O own).2;rw[e];exact⟨_,IR F,EL F⟩
 |none=>
  by_cases g:x=.w
  ·cases b:eK c with
   |some k=>
    obtain⟨t,e⟩:=y5 O hc b;rw[g,e];exact⟨ft,by show acG "int" "__get__" =_;decide+kernel,dq⟩
   |none=>rw[g,C0 O hc b];exact⟨ft,dq,dq⟩
  ·rw[y4 O hc h g];exact⟨ft,dq,dq⟩
theorem Gi{a:aaG}{od:Obj}{n:Str}{r:qk qo}(hd:a.hasDict=hY)(hl:lookIn n od=dA r):ajO a (dA od) n=dA r:=by
 unfold PySem.W.ownOf;rw[hd];exact hl
theorem Sw{α:Type}{a b:qk α}(h:b=ft):a.or b=a:=by rw[h];cases a<;>rfl
theorem O5{A:xu}{s:qy}{expr:qw}(O:W.g)(I:eM W st s.heap)(e:st a=dA (.f c dx l)){x:Nm}{v:AV}(q:fm l x=dA v)(d:mG x=hY){Q:qo->qy->Prop}
  (k:∀v',ab v'=dA v->Q v' {s with toks:=s.toks+1}):qU (vl W.a W.w) A (getAttr (.ref a) x.t expr) Q E s:=by
 cases instAt_of I e with|mk od m g n r i hl hc=>
 obtain⟨v',f,b⟩:=He r q;obtain⟨j,h,_,hd⟩:=p5 O hc;obtain⟨get,g1,g2⟩:=SD O hc (x:=x);exact get_value I.j g (O7 O hc) (r5 h ((lE O hc _).trans (qh dA<|Sw (so d).2.1)) g1 g2<|Gi hd ((hl _).trans (qh dA f))) (KA b)<|k v' b
theorem O4{A:xu}{s:qy}{expr:qw}(O:W.g)(I:eM W st s.heap)(e:st a=dA (.f c dx l))(q:fm l .w=ft){b:qd}(f:eK c=dA b){Q:qo->qy->Prop}
  (k:∀v',ab v'=dA (.j b)->Q v' {s with toks:=s.toks+1}):qU (vl W.a W.w) A (getAttr (.ref a) (Nm.t .w) expr) Q E s:=by
 cases instAt_of I e with|mk od m g n r i hl hc=>
 obtain⟨o,h,j,hd⟩:=p5 O hc;obtain⟨t,d⟩:=y5 O hc f;refine get_value I.j g (O7 O hc) (v:=.int b t) ((r5 (attr:=dA (.int b t)) (get:=ft) h ((lE O hc _).trans (by rw[d];rfl)) (by show acG "int" "__get__" =_;decide+kernel) dq (Gi hd ((hl _).trans (qh dA (sj r q))))).trans ?_) dq (k _ dq)
 dsimp only;rw[show aj4.contains (Nm.t .w)=np from by decide+kernel];rfl
theorem O3{A:xu}{s:qy}{expr:qw}(O:W.g)(I:eM W st s.heap)(e:st a=dA (.f c dx l)){x:Nm}{f:lS}(q:fm l x=ft)(b:cR c x=dA f)(h:mG x=hY){Q:qo->qy->Prop}
  (k:∀d,f=.y d x->(cA d).contains x=hY->Q (.ref s.heap.objs.size) {s with heap:=s.heap.push<|methodObj (.ref<|W.d (.y d x)) (.ref a),toks:=s.toks+1}):qU (vl W.a W.w) A (getAttr (.ref a) x.t expr) Q E s:=by
 cases instAt_of I e with|mk od m j n r p hl hc=>
 obtain⟨u,o,t,hd⟩:=p5 O hc;obtain⟨d,i,e1,own⟩:=lG O hc b;have F:=(je O own).2
 refine get_bind (g:=.builtin "function.__get__") (a:=.ref (W.d (.y d x))) I.j j (O7 O hc) ((r5 (attr:=dA (.ref (W.d (.y d x)))) (get:=dA (.builtin "function.__get__")) o ((lE O hc _).trans (by rw[e1];rfl)) (IR F) (EL F) (Gi hd ((hl _).trans (qh dA (sj r q))))).trans ?_) (aaO O hc)
  (acF<|fn_get (K:=W.K) I.j (pY F) (handed_on dq<|k d i own))
 dsimp only;rw[(so h).2.2.1];rfl
theorem yQ(O:W.g)(I:eM W st s.heap)(e:st a=dA (.f c dx l))(q:fm l x=ft)(b:cR c x=dA f)
  (k:∀d,f=.y d x->(cA d).contains x=hY->Q (.ref<|W.d (.y d x),[.ref a]) s):qU (vl W.a W.w) A (getMethod (.ref a) x.t g) Q E s:=by
 cases instAt_of I e with|mk od m i n r j hl hc=>
 obtain⟨d,h,e1,own⟩:=lG O hc b;exact method_fn I.j i (O7 O hc) (aaO O hc) ((lE O hc _).trans (by rw[e1];rfl)) (pY (je O own).2) (by unfold shadowIn;dsimp only;rw[hl,sj r q];rfl)<|k d h own
end
end
section
open PySem PySem.W PySem.Calls PyProof.Rows
section
abbrev Gt:=qc->qk Obj
section
variable{d:Data}
noncomputable def dcO(d:Data):qk (Array zu):=@Data.casesOn (λa=>qk<|Array zu) d ft (λa=>ft) (λa a=>ft) (λes a=>dA es) (λa a a=>ft) (λa a=>ft) (λa=>ft) (λa=>ft) (λa=>ft) (λa=>ft) ft
theorem abu:dcO d=dA es->∃n,d=.dict es n:=by
 cases d with
 |dict es n=>exactλh=>⟨n,qh (Data.dict · n)<|qA h⟩
 |_=>exactλh=>nomatch h
noncomputable def clO(d:Data):qk aaG:=@Data.casesOn (λa=>qk aaG) d ft (λa=>ft) (λa a=>ft) (λa a=>ft) (λa a a=>ft) (λa a=>ft) (λa=>ft) (λa=>ft) (λc=>dA c) (λa=>ft) ft
theorem abD:clO d=dA c->d=.cls c:=by
 cases d with
 |cls=>exactλh=>qh _<|qA h
 |_=>exactλh=>nomatch h
noncomputable def fuO(d:Data):qk afJ:=@Data.casesOn (λa=>qk afJ) d ft (λa=>ft) (λa a=>ft) (λa a=>ft) (λa a a=>ft) (λa a=>ft) (λa=>ft) (λc=>dA c) (λa=>ft) (λa=>ft) ft
theorem aaT:fuO d=dA c->d=.func c:=by
 cases d with
 |func=>exactλh=>qh _<|qA h
 |_=>exactλh=>nomatch h
noncomputable def flO(d:Data):qk (Array qo):=@Data.casesOn (λa=>qk<|Array qo) d ft (λa=>ft) (λa a=>ft) (λa a=>ft) (λa a a=>ft) (λa a=>ft) (λa=>ft) (λa=>ft) (λa=>ft) (λc=>dA c) ft
theorem aaY:flO d=dA c->d=.fields c:=by
 cases d with
 |fields=>exactλh=>qh _<|qA h
 |_=>exactλh=>nomatch h
noncomputable def sqO(d:Data):qk (Array qo):=@Data.casesOn (λa=>qk<|Array qo) d ft (λa=>ft) (λc a=>dA c) (λa a=>ft) (λa a a=>ft) (λa a=>ft) (λa=>ft) (λa=>ft) (λa=>ft) (λa=>ft) ft
theorem X4:sqO d=dA c->∃n,d=.seq c n:=by
 cases d with
 |seq c n=>exactλh=>⟨n,qh (Data.seq · n)<|qA h⟩
 |_=>exactλh=>nomatch h
noncomputable def plO(d:Data):qk Z8:=@Data.casesOn (λa=>qk Z8) d (dA ()) (λa=>ft) (λa a=>ft) (λa a=>ft) (λa a a=>ft) (λa a=>ft) (λa=>ft) (λa=>ft) (λa=>ft) (λa=>ft) ft
theorem YF:(plO d).isSome=hY->d=.plain:=by
 cases d with
 |plain=>exactλa=>dq
 |_=>exactλh=>nomatch h
end
theorem mH(h:o.any p=hY):∃a,o=dA a/\p a=hY:=by
 cases o with
 |none=>cases h
 |some a=>exact⟨a,dq,h⟩
noncomputable def ajv(v:qo):qw:=match v with
 |.str _ _=>hY
 |_=>np
def Wx(g:Gt)(a:qc):qk (Array zu):=(g a).bind λo=>dcO o.data
theorem Pm(h:Wx g a=dA es):∃o n,g a=dA o/\o.data=.dict es n:=by
 obtain⟨o,b,h⟩:=xH.mp h;obtain⟨n,e⟩:=abu h;exact⟨o,n,b,e⟩
def EA(g:Gt)(a:qc):qw:=(Wx g a).any λes=>es.toList.all λe=>ajv e.key
theorem nO{h:Heap}{a:qc}(x:EA h.get? a=hY):h.isNs a=hY:=by
 obtain⟨es,e,x⟩:=mH x;obtain⟨⟨c,d,b,f⟩,n,e1,e2⟩:=Pm e;unfold Heap.isNs;rw[e1,show b=.dict es n from e2];rw[Array.all_toList]at x;exact x
noncomputable def aiY(e:zu):qk Str:=match e.key with|.str n _=>dA n|_=>ft
def OA(g:Gt)(a:qc):qe Str:=(((Wx g a).map Array.toList).getD []).filterMap aiY
theorem Oz(h:Heap)(a:qc):OA h.get? a=h.nsKeys a:=by
 unfold OA Wx Heap.nsKeys;cases h.get? a with
 |none=>rfl
 |some o=>
  obtain⟨c,d,b,e⟩:=o;cases b<;>rfl
noncomputable def rfV(v:qo):qk qc:=match v with
 |.ref a=>dA a
 |_=>ft
theorem Nh:rfV v=dA a->v=.ref a:=by
 cases v with
 |ref b=>exactλh=>qh _<|qA h
 |_=>exactλh=>qH h (ZF _).symm
def Ni(v:qk qo):qk qc:=v.bind rfV
theorem Yx(h:Ni v=dA a):v=dA (.ref a):=by
 obtain⟨u,e,h⟩:=xH.mp h;rw[e,Nh h]
open PySem.W.Fast (sEq sEq_iff) in
def aal(x:Str)(e:zu):qw:=match e.key with|.str k _=>sEq k x|_=>np
def fnd(x:Str)(l:qe zu):qk qo:=aif (motive:=λa=>qk qo) ft (λe a ih=>@Bool.rec (λa=>qk qo) ih (dA e.val)<|aal x e) l
theorem Ts(x:Str)(e:zu):aal x e=e.key.isStr x:=by
 obtain⟨a,k,v⟩:=e;cases k with
 |str k t=>exact Zj.mpr<|abp.trans zK.symm
 |_=>rfl
theorem aaX(x:Str)(l:qe zu):(l.find? (λe=>e.key.isStr x)).map (·.val)=fnd x l:=by
 induction l with
 |nil=>rfl
 |cons e l ih=>
  show _=@Bool.rec (λa=>qk qo) (fnd x l) (dA e.val) (aal x e);rw[act,Ts,←ih];cases e.key.isStr x<;>rfl
def LG(g:Gt)(a:qc)(x:Str):qk qo:=(Wx g a).bind λes=>fnd x es.toList
theorem yv(h:Heap)(a:qc)(x:Str):h.nsMap a x=LG h.get? a x:=by
 unfold Heap.nsMap LG Wx;cases h.get? a with
 |none=>rfl
 |some o=>
  obtain⟨c,d,b,e⟩:=o;cases b with
  |dict es n=>exact(qh (q0 _) (acP ..).symm).trans (aaX x es.toList)
  |_=>rfl
def OS(g:Gt)(x:Nm):qk qo:=LG g zh x.t
def KZ(g:Gt)(c:Nm):qc:=(Ni<|OS g c).getD 0
def nsA(g:Gt)(C:qc):qc:=(((g C).bind λo=>clO o.data).map (·.ns)).getD 0
def cmA(g:Gt)(c:Nm)(x:Str):qk qo:=LG g (nsA g<|KZ g c) x
def Ua(g:Gt)(f:lS):qc:=@lS.casesOn (λa=>qc) f (λf=>(Ni<|OS g f).getD 0) λc m=>(Ni<|cmA g c m.t).getD 0
noncomputable def XN(b:FuncBody):qk (qe Stmt):=@FuncBody.casesOn (λa=>qk<|qe Stmt) b (λb=>dA b) λa=>ft
theorem Rx:XN b=dA l->b=.stmts l:=by
 cases b with
 |stmts=>exactλh=>qh _<|qA h
 |expr=>exactλh=>nomatch h
def Us(fd:afJ):m8:=⟨fd.name,fd.qualname,fd.params,(XN fd.body).getD [],fd.scope⟩
def yW(o:qk Obj):m8:=((o.bind λo=>fuO o.data).map Us).getD ⟨"", "",⟨[],[],ft,[],[],ft,[]⟩,[],⟨.function,[],np,np,[]⟩⟩
noncomputable def VH(l:qe (qk qo)):qw:=zF l.length 6&&decide (l[4]?=dA (dA (.builtin "object.__new__")))
def af6(g:Gt)(c:Nm):qe qo:=(if hO c then[.ref (KZ g .X)]else[])++[.type "object"]
def afO(bm:qe qo)(C:qc)(x:qk Obj):qw:=x.any λo=>decide (o.cls=.type "type")&&((clO o.data).any (λa=>decide (a.mro=.ref C::bm)&&(a.hasDict&&(!a.abstract&&!a.hasDel)))&&VH o.slots.toList)
theorem p4(h:l.length=n+1):∃a m,l=a::m/\m.length=n:=by
 cases l with
 |nil=>cases h
 |cons a m=>exact⟨a,m,dq,zH h⟩
theorem FY(h:VH l=hY):∃i k1 k2 k3 k5,l=[i,k1,k2,k3,dA (.builtin "object.__new__"),k5]:=by
 have e:=qC<|bB h;obtain⟨a0,p,j,n0⟩:=p4<|ZA (bA h);obtain⟨f,l1,e1,n1⟩:=p4 n0;obtain⟨d,l2,e2,n2⟩:=p4 n1;obtain⟨c,o,e3,n3⟩:=p4 n2;obtain⟨k,n,e4,n4⟩:=p4 n3;obtain⟨b,m,e5,g⟩:=p4 n4;have a:l=[a0,f,d,c,k,b]:=by rw[j,e1,e2,e3,e4,e5,wy g]
 rw[a]at e;exact⟨a0,f,d,c,b,by rw[a,qA e]⟩
theorem abC{k2 k3 k5:qk qo}(h1:o.cls=.type "type")(h2:o.data=.cls a)(h3:a.mro=.ref C::b)(h4:a.hasDict=hY)(d:a.abstract=np)(f:a.hasDel=np)(e:o.slots=⟨[c,k1,k2,k3,dA (.builtin "object.__new__"),k5]⟩):
  o=aj3 a.name a.qualname C a.ns a.bases b hY a.slotNames a.subclasses np a.collection o.dict c k1 k2 k3 k5 "object.__new__" :=by
 show(⟨o.cls,o.dict,o.data,o.slots⟩:Obj)=⟨.type "type",o.dict,.cls ⟨a.name,a.bases,.ref C::b,a.ns,a.qualname,hY,a.slotNames,a.subclasses,np,a.collection,np⟩,⟨[c,k1,k2,k3,dA (.builtin "object.__new__"),k5]⟩⟩;rw[h1,h2,e,←h3,←h4,←d];exact qh (λx=>Obj.mk (.type "type") o.dict (.cls ⟨a.name,a.bases,a.mro,a.ns,a.qualname,a.hasDict,a.slotNames,a.subclasses,a.abstract,a.collection,x⟩) _) (f.trans d.symm)
theorem KX(h:afO bm C x=hY):∃nm q N bs sn sub col dd a k1 k2 k3 k5,x=dA (aj3 nm q C N bs bm hY sn sub np col dd a k1 k2 k3 k5 "object.__new__"):=by
 obtain⟨o,e,h⟩:=mH h;obtain⟨b,e2,h2⟩:=mH<|bA (bB h);obtain⟨a,k1,k2,k3,k5,e3⟩:=FY<|bB (bB h);exact⟨_,_,_,_,_,_,_,_,a,k1,k2,k3,k5,e.trans<|qh dA (abC (qC<|bA h) (abD e2) (qC<|bA h2) (bA<|bB h2) ((xc _).mp (bA<|bB (bB h2))) ((xc _).mp (bB<|bB (bB h2)))<|qh afQ e3)⟩
noncomputable def MF(v:qo):qk Str:=match v with
 |.str q _=>dA q
 |_=>ft
theorem BZ:MF v=dA q->∃t,v=.str q t:=by
 cases v with
 |str a t=>exactλh=>⟨t,qh (Value.str · _)<|qA h⟩
 |_=>exactλh=>qH h (ZF _).symm
def WF(g:Gt)(q:Str)(v:qo):qw:=(rfV v).any λc=>(((g c).bind λo=>flO o.data).bind λvs=>(vs[1]?).bind MF).any λq'=>acC q' q
theorem GX{h:Heap}{q:Str}{v:qo}(k:WF h.get? q v=hY):h.CodeRec v q:=by
 obtain⟨c,e1,k⟩:=mH k;obtain⟨q',e2,k⟩:=mH k;obtain⟨vs,e3,e4⟩:=xH.mp e2;obtain⟨o,e5,e6⟩:=xH.mp e3;obtain⟨u,d,b⟩:=xH.mp e4;obtain⟨t,a⟩:=BZ b;exact⟨c,o,vs,t,Nh e1,e5,aaY e6,d.trans (by rw[a,abp.mp k])⟩
def fdB(g:Gt)(fd:afJ):qw:=decide (fd.globals=zh)&&(fd.closure.isEmpty&&(decide (fd.defaults=.none)&&(decide (fd.kwdefaults=.none)&&(decide (fd.annotations=ft)&&(decide (fd.closureTuple=.none)&&(decide (fd.builtins=zZ)&&((XN fd.body).isSome&&WF g fd.qualname fd.code)))))))
def fnB(g:Gt)(x:qk Obj):qw:=x.any λo=>decide (o.cls=.type "function")&&(fuO o.data).any (fdB g)
theorem afy(h1:fd.globals=zh)(h2:fd.closure=[])(h3:fd.defaults=.none)(h4:fd.kwdefaults=.none)(f:fd.annotations=ft)(d:fd.closureTuple=.none)(c:fd.builtins=zZ)(a:fd.body=.stmts b):Data.func fd=.func (Z9 (Us fd).e (Us fd).d (Us fd).b (Us fd).a (Us fd).c fd.pyModule fd.code fd.doc):=by
 have e:Data.func fd=.func ⟨fd.name,fd.qualname,fd.params,fd.body,fd.scope,fd.globals,fd.closure,fd.defaults,fd.kwdefaults,fd.doc,fd.pyModule,fd.annotations,fd.code,fd.closureTuple,fd.builtins⟩:=dq;simp only[h1,h2,h3,h4,f,d,c,a]at e;refine e.trans ?_;unfold Us;rw[a];rfl
theorem Pf{h:Heap}{x:qk Obj}(y:fnB h.get? x=hY):∃o j i doc,x=dA o/\o.cls=.type "function" /\
  o.data=.func (Z9 (yW x).e (yW x).d (yW x).b (yW x).a (yW x).c j i doc)/\h.CodeRec i (yW x).d:=by
 obtain⟨o,e,y⟩:=mH y;obtain⟨fd,e2,h2⟩:=mH<|bB y
 have k:yW x=Us fd:=by
  unfold yW;rw[e];show((fuO o.data).map Us).getD ⟨"", "",⟨[],[],ft,[],[],ft,[]⟩,[],⟨.function,[],np,np,[]⟩⟩=_;rw[e2];rfl
 rw[k];have h3:=bB h2;have h4:=bB h3;have g:=bB h4;have f:=bB g;have d:=bB f;have c:=bB d;have a:=bB c;obtain⟨b,hb⟩:=xq.mp<|bA a;exact⟨o,fd.pyModule,fd.code,fd.doc,e,qC<|bA y,(aaT e2).trans (afy (qC<|bA h2) (aeW.mp<|bA h3) (qC<|bA h4) (qC<|bA g) (qC<|bA f) (qC<|bA d) (qC<|bA c)<|Rx hb),GX<|bB a⟩
def abL(l:qe qo):qk (qe AV):=@List.rec qo (λb=>qk<|qe AV) (dA []) (λv b ih=>(ab v).bind λa=>ih.map λm=>a::m) l
theorem Va(l:qe qo):∀{m:qe AV},abL l=dA m->abs l m:=by
 induction l with
 |nil=>exactλh=>qA h▸mw
 |cons v l ih=>
  intro m h;obtain⟨a,e1,h⟩:=xH.mp h;obtain⟨n,e2,h⟩:=qS.mp h;exact h▸gm e1 (ih e2)
def BU(o:qk Obj):qk (qe AV):=o.bind λo=>xU (decide (o.cls=.type "tuple")&&(o.dict.isNone&&o.slots.toList.isEmpty)) ((sqO o.data).bind λvs=>abL vs.toList) ft
theorem XB{o:Obj}{vs:Array qo}{n:qc}(h1:o.cls=.type "tuple")(h2:o.dict=ft)(h3:o.slots.toList=[])(h4:o.data=.seq vs n):o={cls:=.type "tuple",dict:=ft,data:=.seq vs n,slots:=#[]}:=by
 obtain⟨k,dd,b,⟨a⟩⟩:=o;cases h1;cases h2;cases h3;cases h4;rfl
theorem uw{h:Heap}{a:qc}{l:qe AV}(x:BU (h.get? a)=dA l):∃vs n,IsT h a vs n/\abs vs.toList l:=by
 obtain⟨o,e,x⟩:=xH.mp x;cases c:decide (o.cls=.type "tuple")&&(o.dict.isNone&&o.slots.toList.isEmpty)with
 |false=>rw[c]at x;cases x
 |true=>
  rw[c]at x;obtain⟨vs,e1,e2⟩:=xH.mp x;obtain⟨n,e3⟩:=X4 e1;exact⟨vs,n,e.trans<|qh dA (XB (qC<|bA c) (xm.mp<|bA (bB c)) (aeW.mp<|bB (bB c)) e3),Va _ e2⟩
def XF(e:zu):qk Str:=xU ((MF e.key).any λk=>acC k Nm.cX.t) (MF e.val) ft
theorem Rk(x:XF e=dA s):∃t1 t2,e=⟨e.hash,.str Nm.cX.t t1,.str s t2⟩:=by
 unfold XF at x;cases c:(MF e.key).any λk=>acC k Nm.cX.t with
 |false=>rw[c]at x;cases x
 |true=>
  rw[c]at x;obtain⟨k,e1,c⟩:=mH c;obtain⟨t1,e2⟩:=BZ e1;obtain⟨t2,e3⟩:=BZ x;rw[abp.mp c]at e2;obtain⟨d,b,a⟩:=e;cases e2;cases e3;exact⟨t1,t2,dq⟩
def XE(g:Gt)(dx:qc):qk Str:=(Wx g dx).bind λes=>@List.casesOn zu (λa=>qk Str) es.toList ft λe l=>@List.casesOn zu (λa=>qk Str) l (XF e) λa a=>ft
theorem Rj(x:XE g dx=dA s):∃a t1 t2,Wx g dx=dA ⟨[⟨a,.str Nm.cX.t t1,.str s t2⟩]⟩:=by
 obtain⟨⟨l⟩,e,x⟩:=xH.mp x;rw[e];cases l with
 |nil=>cases x
 |cons e l=>cases l with
  |nil=>obtain⟨t1,t2,k⟩:=Rk x;exact⟨_,t1,t2,by rw[←k]⟩
  |cons=>cases x
theorem Pg(h:e.key=.str k t)(a:e.val=v):nsFind ⟨[e]⟩ name=if k=name then dA v else ft:=by
 unfold nsFind findBy;rw[←acP,act,h,a.symm];show q0 _ (match(k==name)with|true=>_|false=>_)=_
 by_cases q:k=name
 ·rw[qK q,zK.mpr q];rfl
 ·rw[if_neg q,ael.mpr q];rfl
theorem JH{h:Heap}{dx:qc}{s:Str}(x:XE h.get? dx=dA s):∃m,h.Ns1 dx m/\attrs [(.cX,.t s)] m:=by
 obtain⟨f,t1,t2,e⟩:=Rj x;obtain⟨o,d,c,hd⟩:=Pm e;refine⟨λname=>if Nm.cX.t=name then dA (.str s t2)else ft,⟨o,_,d,c,hd,λe a=>?_,List.pairwise_singleton _ _,λname=>Pg dq dq⟩,λx=>?_,λy b=>?_⟩
 ·rw[←z9]at a;rw[qD.mp a];exact⟨_,_,dq⟩
 ·by_cases q:x=.cX
  ·rw[q];rfl
  ·show q0 ab (if Nm.cX.t=x.t then _ else _)=_
   rw[if_neg λe=>q (Nm.hV.mp e).symm];unfold fm;rw[xv (p:=λp:Nm×AV=>p.1==x) λe=>q (eq_of_beq e).symm];rfl
 ·by_cases q:Nm.cX.t=y
  ·rw[←q];exact xX<|Nm.wX (n:=.cX) (by decide)
  ·exact qH (if_neg q) b
def MM(g:Gt)(a:qc)(s:Str):qw:=(g a).any λo=>o.dict.any λdx=>decide (o.cls=.ref (KZ g .bM))&&(o.slots.toList.isEmpty&&((plO o.data).isSome&&decide (XE g dx=dA s)))
noncomputable def Bu(g:Gt)(a:qc):qc:=((g a).bind (·.dict)).getD 0
theorem aat(h1:o.cls=.ref C)(h2:o.dict=dA dx)(h3:o.slots.toList=[])(h4:o.data=.plain):o=acj C dx:=by
 obtain⟨k,dd,b,⟨a⟩⟩:=o;cases h1;cases h2;cases h3;cases h4;rfl
theorem rO{h:Heap}{a:qc}{s:Str}(x:MM h.get? a s=hY):h.get? a=dA (acj (KZ h.get? .bM) (Bu h.get? a))/\∃m,h.Ns1 (Bu h.get? a) m/\attrs [(.cX,.t s)] m:=by
 obtain⟨o,e,x⟩:=mH x;obtain⟨dx,e2,x⟩:=mH x
 have b:Bu h.get? a=dx:=by
  unfold Bu;rw[e];show o.dict.getD 0=dx;rw[e2];rfl
 rw[b];exact⟨e.trans<|qh dA (aat (qC<|bA x) e2 (aeW.mp<|bA (bB x))<|YF (bA<|bB (bB x))),JH<|qC (bB<|bB (bB x))⟩
end
section
def afl:qe Nm:=[⟨99⟩,.lX,⟨149⟩,⟨226⟩,⟨248⟩,⟨148⟩,⟨3⟩,.jv,⟨42⟩,⟨11⟩,⟨46⟩,⟨9⟩,⟨13⟩,⟨106⟩,⟨101⟩,⟨259⟩,⟨249⟩,⟨98⟩,⟨224⟩]
noncomputable def Ja:qe Str:=["__module__", "__firstlineno__", "__static_attributes__", "__dict__", "__weakref__", "__doc__"]
open PySem.W.Fast (sEq sEq_iff)
def Tt(c:Nm)(k:Str):qw:=(cA c).any (λm=>sEq m.t k)||sEq k Nm.w.t||Ja.any (λd=>sEq d k)
def avQ(a b:AV):qw:=@AV.casesOn (λc=>qw) a np (λc=>np) (λi=>@AV.casesOn (λc=>qw) b np (λc=>np) (λj=>decide (i=j)) (λc=>np) λc=>np) (λs=>@AV.casesOn (λc=>qw) b np (λc=>np) (λc=>np) (λt=>sEq s t) λc=>np)
 λx=>@AV.casesOn (λc=>qw) b np (λc=>np) (λc=>np) (λc=>np) λy=>zF x y
theorem P8(h:avQ a b=hY):a=b:=by
 induction a with
 |j i=>induction b with
  |j j=>exact qh _<|qC h
  |_=>cases h
 |t s=>induction b with
  |t t=>exact qh _<|sEq_iff.mp h
  |_=>cases h
 |d x=>induction b with
  |d y=>exact qh _<|ZA h
  |_=>cases h
 |_=>cases h
def vIs(v:qk qo)(w:AV):qw:=(v.bind ab).any λu=>avQ u w
theorem L9(h:vIs v w=hY):∃v',v=dA v'/\ab v'=dA w:=by
 cases v with
 |none=>cases h
 |some v=>
  have h:(ab v).any (λu=>avQ u w)=hY:=h;cases e:ab v with
  |none=>rw[e]at h;cases h
  |some u=>rw[e]at h;exact⟨v,dq,e.trans<|qh dA (P8 h)⟩
def Ox(c:Nm)(v:qk qo):qw:=@Option.casesOn qd (λa=>qw) (eK c) v.isNone λk=>vIs v<|.j k
theorem Ow(h:Ox c v=hY):v.map ab=(eK c).map λk=>dA (.j k):=by
 unfold Ox at h;cases e:eK c with
 |none=>rw[e]at h;rw[xm.mp h];rfl
 |some k=>rw[e]at h;obtain⟨v',e1,e2⟩:=L9 h;rw[e1];exact qh dA e2
def isR(v:qk qo)(a:qc):qw:=match Ni v with|some b=>zF a b|none=>np
theorem GD(h:isR v a=hY):v=dA (.ref a):=by
 unfold isR at h;cases e:Ni v with
 |none=>rw[e]at h;cases h
 |some b=>rw[e]at h;obtain rfl:=ZA h;exact Yx e
def sY(g:Gt)(c:Nm):qw:=
 isR (OS g c) (KZ g c)&&afO (af6 g c) (KZ g c) (g<|KZ g c)&&EA g (nsA g<|KZ g c)&&(OA g<|nsA g (KZ g c)).all (Tt c)&&Ox c (cmA g c Nm.w.t)&&
 (cA c).all λm=>isR (cmA g c m.t) (Ua g<|.y c m)&&fnB g (g<|Ua g (.y c m))
def NK(g:Gt)(f:Nm):qw:=isR (OS g f) (Ua g<|.r f)&&fnB g (g<|Ua g (.r f))
def gR(g:Gt):cV:=⟨(Ni<|OS g ⟨101⟩).getD 0,(Ni<|OS g ⟨259⟩).getD 0,(Ni<|OS g ⟨249⟩).getD 0,(Ni<|OS g ⟨98⟩).getD 0,(Ni<|OS g ⟨224⟩).getD 0⟩
def adc(g:Gt)(x:Nm):qw:=@Option.casesOn AV (λa=>qw) (yP (gR g) x) hY λv=>vIs (OS g x) v
noncomputable def yz:qe qc->qw
 |[]=>hY
 |a::l=>!l.contains a&&yz l
theorem o5:∀{l:qe qc},yz l=hY->l.Nodup
 |[],_=>Zn
 |a::l,h=>by
  have h:(!l.contains a&&yz l)=hY:=h;rw[qz,xc]at h;exact xi.mpr ⟨λx=>Zz<|(xd.mpr x).symm.trans h.1,o5 h.2⟩
def Vr(g:Gt):qw:=
 EA g zh&&EA g zZ&&(EA g cStatics&&(LG g cStatics "sys.recursionlimit").isNone)&&(g al7).isSome&&E6.all (sY g)&&yz (E6.map (KZ g))&&fnL.all (NK g)&&
 abQ.all (λp=>(OS g p.1).isNone&&decide (LG g zZ p.1.t=dA p.2))&&afl.all (adc g)
def Lq(prog:ZO)(w:Zu)(h:Heap)(s:qy):Wd:=
 {a:=prog,w,b:=s,T:=gR h.get?,k:=KZ h.get?,d:=Ua h.get?,i:=λf=>yW<|h.get? (Ua h.get? f),h:=LG h.get? zh,L:=LG h.get? zZ,e:=cmA h.get?}
theorem NX:((J2.all λx=>!Ja.any λd=>sEq d x)&&Ja.all λd=>d.cps.toList.all λc=>zO c 278)=hY:=by decide+kernel
theorem SG(x:Nm):(Ja.any λd=>sEq d x.t)=np:=by
 obtain⟨h1,h2⟩:=q8.mp NX;by_cases k:x.i<278
 ·exact(xc _).mp (qV.mp h1 _<|xX (Nm.wX k))
 ·refine aaC.mpr λd hd e=>?_;have l:=qV.mp h2 d hd;rw[sEq_iff.mp e,Nm.sJ k]at l;have l:(zO x.i 278&&hY)=hY:=l;rw[xn]at l;exact k<|xo l
theorem SF:(E6.all λc=>HH.all λn=>!Tt c n)=hY:=by decide+kernel
theorem kW:∀{l:qe α},(l.map f).Nodup->∀{a b:α},a∈l->b∈l->f a=f b->a=b
 |x::l,h,a,b,ha,hb,e=>by
  rw[ahH,xi]at h;rcases qG.mp ha with ha|ha<;>rcases qG.mp hb with hb|hb
  ·rw[ha,hb]
  ·exact qH (xf.mpr ⟨b,hb,by rw[←e,ha]⟩) h.1
  ·exact qH (xf.mpr ⟨a,ha,by rw[e,hb]⟩) h.1
  ·exact kW h.2 ha hb e
section
variable{prog:ZO}{w:Zu}{h:Heap}{s:qy}(k:∀b o,h.get? b=dA o->s.heap.get? b=dA o)
include k
theorem IS(x:fnB h.get? (h.get? (Ua h.get? f))=hY):v5 (Lq prog w h s) f:=by
 obtain⟨o,a,g,doc,h1,h2,h3,c,oc,vs,t,h4,e,d,b⟩:=Pf x;exact⟨o,a,g,doc,k _ _ h1,h2,h3,c,oc,vs,t,h4,k _ _ e,d,b⟩
theorem abA(x:sY h.get? c=hY)(hc:c∈E6):JC (Lq prog w h s) c:=by
 unfold sY at x;rw[qz,qz,qz,qz,qz]at x;obtain⟨⟨⟨⟨⟨v,p⟩,o⟩,l⟩,j⟩,i⟩:=x;obtain⟨nm,q,N,bs,sn,sub,col,dd,r,k1,k2,k3,k5,e⟩:=KX p;have u:nsA h.get? (KZ h.get? c)=N:=by unfold nsA;rw[e];rfl
 have f:cmA h.get? c=h.nsMap (nsA h.get?<|KZ h.get? c):=funext λx=>(yv h _ x).symm;have a:h.Ns N (cmA h.get? c):=f▸u▸acd (nO o);have b:∀n:Str,Tt c n=np->cmA h.get? c n=ft:=λn d=>(yv h _ n).symm.trans<|Heap.nsMap_none λz=>by rw[qV.mp l n (Oz h _▸z)]at d;cases d
 refine⟨⟨nm,q,N,bs,sn,sub,col,dd,r,k1,k2,k3,k5,k _ _ e,a.keeps k⟩,λm a=>?_,λx g t=>b _ ?_,Ow j,λn d=>b n ?_⟩
 ·have y:=qV.mp i m<|xd.mp a;rw[qz]at y;exact⟨GD y.1,IS k y.2⟩
 ·have e2:(cA c).any (λm=>sEq m.t x.t)=np:=aaC.mpr λm a e=>by
   rw[sEq_iff,Nm.hV]at e;rw[e]at a;rw[xd.mpr a]at g;cases g
  have e3:sEq x.t Nm.w.t=np:=by
   cases e:sEq x.t Nm.w.t with
   |false=>rfl
   |true=>exact qH (Nm.hV.mp<|sEq_iff.mp e) t
  unfold Tt;rw[e2,e3,abn,abn];exact SG x
 ·exact(xc _).mp (qV.mp (qV.mp SF c hc) n d)
theorem ac4(x:Vr h.get?=hY)(C:s.gens=#[]):(Lq prog w h s).g:=by
 unfold Vr at x;rw[qz,qz,qz,qz,qz,qz,qz,qz,qz]at x;obtain⟨⟨⟨⟨⟨⟨⟨⟨u,t⟩,r,a⟩,q⟩,n⟩,l⟩,j⟩,i⟩,g⟩:=x;have E:LG h.get? zh=h.nsMap zh:=funext λx=>(yv h _ x).symm;have e1:LG h.get? zZ=h.nsMap zZ:=funext λx=>(yv h _ x).symm;have mem:∀c,gd c=hY->c∈E6:=λc hc=>xd.mp hc;have cM:∀c,gd c=hY->sY h.get? c=hY:=λc hc=>qV.mp n c<|mem c hc;refine⟨(show s.heap.Ns zh (LG h.get? zh)from E▸(acd<|nO u).keeps k),(show s.heap.Ns zZ (LG h.get? zZ)from e1▸(acd<|nO t).keeps k),⟨_,(acd<|nO r).keeps k,(yv h _ _).trans (xm.mp a)⟩,?_,C,λc hc=>⟨abA k (cM c hc)<|mem c hc,?_⟩,λc c' hc b e=>?_,λf D=>?_,λp v A=>?_,λy v d=>?_⟩
 ·obtain⟨o,B⟩:=xq.mp q;exact⟨o,k _ _ B⟩
 ·have y:=cM c hc;unfold sY at y;rw[qz,qz,qz,qz,qz]at y;exact GD y.1.1.1.1.1
 ·exact kW (o5 l) (mem c hc) (mem c' b) e
 ·have y:=qV.mp j f<|xd.mp D;unfold NK at y;rw[qz]at y;exact⟨GD y.1,IS k y.2⟩
 ·have y:=qV.mp i (p,v)<|ph A;rw[qz]at y;exact⟨xm.mp y.1,qC y.2⟩
 ·have m:y∈afl:=zg (f:=λp:Nm×AV=>p.1)<|ph d;have z:=qV.mp g y m;unfold adc at z;rw[show yP (gR h.get?) y=dA v from d]at z;exact L9 z
end
def Al(g:Gt)(a:qc):qk Str:=if a=(gR g).d then dA (⟨115⟩:Nm).t else if a=(gR g).a then dA (⟨266⟩:Nm).t else if a=(gR g).b then dA (⟨256⟩:Nm).t else ft
def mL(g:Gt):St:=λa=>match Al g a with
 |some s=>dA<|.f .bM (Bu g a) [(.cX,.t s)]
 |none=>(BU<|g a).map .H
def B4(g:Gt):qe qc:=[(gR g).d,(gR g).a,(gR g).b]
def RA(g:Gt):qw:=(B4 g).all (λa=>match Al g a with|some s=>MM g a s|none=>np)&&yz ((B4 g).map (Bu g))&&(B4 g).all (λa=>!(B4 g).contains (Bu g a))
end
end
section
open PySem
def kU:Fn:=⟨[.g],(.o (.f (.F .t))
  .t)⟩
def gJ:Fn:=⟨[.g,.u],(.o (.f (.s .g))
  .t)⟩
def tj:Fn:=⟨[.g,.m],(.o (.h (.s .g) .m (.s .m))
  .t)⟩
def tf:Fn:=⟨[.g,.j],(.o (.h (.s .g) .j (.s .j))
  .t)⟩
def rX:Fn:=⟨[.g,.T],(.o (.h (.s .g) .T (.s .T))
  .t)⟩
def pb:Fn:=⟨[.g,.j,.m],(.o (.h (.s .g) .j (.s .j))
  (.o (.h (.s .g) .m (.s .m))
  .t))⟩
def mR:Fn:=⟨[.g],(.o (.f (.F (.o (.d (.s .g) .m) .t)))
  .t)⟩
def jK:Fn:=⟨[.g,.u],(.o (.f (.G .cE (.o (.d (.s .g) .j) (.o (.r (.s .u) (.j 0)) .t))))
  .t)⟩
def oI:Fn:=⟨[.g,.T,.m],(.o (.h (.s .g) .T (.s .T))
  (.o (.h (.s .g) .m (.s .m))
  .t))⟩
def l6:Fn:=⟨[.g],(.o (.f (.F (.o (.d (.s .g) .m) .t)))
  .t)⟩
def jx:Fn:=⟨[.g,.u],(.o (.f (.G .bO (.o (.d (.s .g) .T) (.o (.r (.s .u) (.j 0)) .t))))
  .t)⟩
def yC:Fn:=⟨[.g,.kA,.vn,.Eg],(.o (.h (.s .g) .kA (.s .kA))
  (.o (.h (.s .g) .vn (.s .vn))
  (.o (.h (.s .g) .Eg (.s .Eg))
  .t)))⟩
def yD:Fn:=⟨[.g],(.o (.f (.F (.o (.d (.s .g) .kA) (.o (.d (.s .g) .vn) (.o (.d (.s .g) .Eg) .t)))))
  .t)⟩
def om:Fn:=⟨[.g,.u],(.o (.f (.G .s9 (.o (.r (.s .u) (.j 0)) (.o (.r (.s .u) (.j 1)) (.o (.r (.s .u) (.j 2)) .t)))))
  .t)⟩
def rW:Fn:=⟨[.g,.x,.J,.R,.I],(.o (.h (.s .g) .x (.s .x))
  (.o (.h (.s .g) .J (.s .J))
  (.o (.h (.s .g) .R (.s .R))
  (.o (.h (.s .g) .I (.s .I))
  .t))))⟩
def pd:Fn:=⟨[.g],(.o (.f (.F (.o (.d (.s .g) .I) .t)))
  .t)⟩
def kG:Fn:=⟨[.g,.u],(.o (.f (.G .cC (.o (.d (.s .g) .x) (.o (.d (.s .g) .J) (.o (.d (.s .g) .R) (.o (.r (.s .u) (.j 0)) .t))))))
  .t)⟩
def mT:Fn:=⟨[.g],(.o (.f (.D (.g .GtE (.d (.s .g) .R) (.j 0)) (.C .g (.d (.s .g) .J) (.F (.o (.d (.s .g) .R) .t))) (.E .B (.o (.d (.s .g) .J) .t))))
  .t)⟩
def yB:Fn:=⟨[.g,.fj],(.o (.f (.N (.o (.g .Eq (.s .fj) (.E .C (.o (.d (.s .g) .J) .t))) (.o (.I (.o (.g .Gt (.s .fj) (.E .C (.o (.d (.s .g) .J) .t))) (.o (.g .GtE (.d (.s .g) .R) (.j 0)) .t))) .t))))
  .t)⟩
def uP:Fn:=⟨[.g,.Y,.U],(.o (.h (.s .g) .Y (.s .Y))
  (.o (.h (.s .g) .U (.s .U))
  .t))⟩
def tu:Fn:=⟨[.g],(.o (.f (.C .g (.F (.o (.d (.s .g) .Y) .t)) (.d (.s .g) .U)))
  .t)⟩
def l9:Fn:=⟨[.g,.u],(.o (.f (.G .fX (.o (.r (.s .u) (.j 0)) (.o (.A (.s .u) (.j 1) .u) .t))))
  .t)⟩
def vW:Fn:=⟨[.g,.fV],(.o (.h (.s .g) .fV (.s .fV))
  .t)⟩
def vq:Fn:=⟨[.g],(.o (.f (.E .B (.o (.d (.s .g) .fV) .t)))
  .t)⟩
def mS:Fn:=⟨[.g,.u],(.o (.f (.G .jJ (.o (.s .u) .t)))
  .t)⟩
def uN:Fn:=⟨[.g,.Az,.U],(.o (.h (.s .g) .Az (.s .Az))
  (.o (.h (.s .g) .U (.s .U))
  .t))⟩
def te:Fn:=⟨[.g],(.o (.f (.E .B (.o (.d (.s .g) .U) .t)))
  .t)⟩
def l7:Fn:=⟨[.g,.u],(.o (.f (.G .jt (.o (.d (.s .g) .Az) (.o (.s .u) .t))))
  .t)⟩
def vX:Fn:=⟨[.g,.gq,⟨197⟩,.I],(.o (.h (.s .g) .gq (.s .gq))
  (.o (.h (.s .g) ⟨197⟩ (.s ⟨197⟩))
  (.o (.h (.s .g) .I (.s .I))
  .t)))⟩
def Ep:Fn:=⟨[.g],(.o (.f (.C .g (.d (.s .g) ⟨197⟩) (.F (.o (.d (.s .g) .I) .t))))
  .t)⟩
def uO:Fn:=⟨[.g,.u],(.o (.f (.G .lY (.o (.d (.s .g) .gq) (.o (.A (.s .u) .u (.L (.j 1))) (.o (.r (.s .u) (.L (.j 1))) .t)))))
  .t)⟩
def ou:Fn:=⟨[⟨82⟩,⟨168⟩],(.o (.v (.g .NotEq (.E .C (.o (.s ⟨82⟩) .t)) (.E .C (.o (.s ⟨168⟩) .t))) (.o (.f (.q np))
  .t) .t)
  (.o (.j [.vV] (.c (.E .C (.o (.s ⟨82⟩) .t))) (.o (.v (.g .IsNot (.r (.s ⟨82⟩) (.s .vV)) (.r (.s ⟨168⟩) (.s .vV))) (.o (.f (.q np))
  .t) .t)
  .t))
  (.o (.f (.q hY))
  .t)))⟩
def p0:Fn:=⟨[.f,.gW],(.o (.g .iC (.J hY (.F .t)))
  (.o (.g .v (.J hY (.F (.o (.H (.o (.s .f) (.o (.q np) .t))) .t))))
  (.o (.p (.g .Gt (.E .C (.o (.s .v) .t)) (.j 0)) (.o (.q .p ⟨195⟩ (.M (.s .v) .jI .t))
  (.o (.g .u (.y (.s .p) .u .t))
  (.o (.v (.I (.o (.v (.s ⟨195⟩)) (.o (.g .Gt (.E .C (.o (.s .u) .t)) (.j 0)) .t))) (.o (.l (.M (.s .v) .ch (.o (.H (.o (.s .p) (.o (.q hY) .t))) .t)))
  (.o (.j [.eF] (.F (.R (.s .u))) (.o (.l (.M (.s .v) .ch (.o (.H (.o (.s .eF) (.o (.q np) .t))) .t)))
  .t))
  .t)) (.o (.g .jY (.C .s (.E .C (.o (.s .iC) .t)) (.E .C (.o (.s .u) .t))))
  (.o (.g .fc (.A (.s .iC) (.s .jY) .u))
  (.o (.g .iC (.J hY (.A (.s .iC) .u (.s .jY))))
  (.o (.v (.v (.h ⟨272⟩ (.o (.s .u) (.o (.s .fc) .t)))) (.o (.g .p (.y (.s .p) .aU (.o (.s .fc) .t)))
  .t) .t)
  (.o (.l (.M (.s .iC) .ch (.o (.P .gW (.o (.s .p) .t)) .t)))
  .t))))))
  .t))))
  (.o (.f (.r (.s .iC) (.j 0)))
  .t))))⟩
def yR:Fn:=⟨[.x,.gq,.cB,.I],(.o (.f (.G .fX (.o (.G .cC (.o (.s .x) (.o (.s .gq) (.o (.L (.j 1)) (.o (.s .I) .t))))) (.o (.s .cB) .t))))
  .t)⟩
def EO:Fn:=⟨[.f],(.o (.v (.N (.o (.g .NotEq (.d (.s .f) .w) (.B ⟨42⟩)) (.o (.g .NotEq (.d (.d (.s .f) .Y) .w) (.B .jv)) .t))) (.o (.f (.q np))
  .t) .t)
  (.o (.f (.I (.o (.g .Lt (.d (.d (.s .f) .Y) .R) (.j 0)) (.o (.g .Eq (.E .C (.o (.d (.d (.s .f) .Y) .J) .t)) (.E .C (.o (.d (.s .f) .U) .t))) .t))))
  .t))⟩
def fH:Fn:=⟨[.g],(.o (.h (.s .g) ⟨89⟩ (.F .t))
  (.o (.h (.s .g) ⟨188⟩ (.w hY .t))
  .t))⟩
def uM:Fn:=⟨[.g,⟨113⟩],(.o (.h (.s .g) ⟨113⟩ (.s ⟨113⟩))
  .t)⟩
def pw:Fn:=⟨[.gz],(.o (.f (.J hY (.G .N (.o (.z (.E .yA (.o (.s ⟨166⟩) .t)) [⟨166⟩] (.F (.s .gz))) .t))))
  .t)⟩
def vD:Fn:=⟨[.fW],(.o (.v (.K (.s .fW) [.gX]) (.o (.f (.t ⟨187⟩))
  .t) .t)
  (.o (.v (.K (.s .fW) [⟨47⟩]) (.o (.f (.t .nG))
  .t) .t)
  (.o (.v (.K (.s .fW) [⟨153⟩]) (.o (.f (.t .T))
  .t) .t)
  (.o (.v (.K (.s .fW) [.bM]) (.o (.f (.d (.s .fW) .cX))
  .t) .t)
  (.o (.v (.K (.s .fW) [⟨44⟩]) (.o (.f (.t ⟨55⟩))
  .t) .t)
  (.o (.v (.K (.s .fW) [.N]) (.o (.f (.t ⟨173⟩))
  .t) .t)
  (.o (.v (.K (.s .fW) [⟨154⟩]) (.o (.f (.t ⟨179⟩))
  .t) .t)
  (.o (.v (.K (.s .fW) [⟨225⟩]) (.o (.f (.t ⟨246⟩))
  .t) .t)
  (.o (.v (.K (.s .fW) [⟨183⟩]) (.o (.f (.t ⟨201⟩))
  .t) .t)
  (.o (.v (.K (.s .fW) [⟨8⟩]) (.o (.f (.t ⟨15⟩))
  .t) .t)
  (.o (.f (.D (.K (.s .fW) [⟨182⟩]) (.t ⟨85⟩) (.t .j)))
  .t)))))))))))⟩
def Bq:Fn:=⟨[.fW],(.o (.f (.g .In (.h ⟨243⟩ (.o (.s .fW) .t)) (.B ⟨98⟩)))
  .t)⟩
def l8:Fn:=⟨[.g],(.o (.h (.s .g) .F (.J hY (.w hY .t)))
  (.o (.h (.s .g) .G (.J hY (.w hY .t)))
  (.o (.h (.s .g) .dy (.J hY (.w hY .t)))
  (.o (.h (.s .g) .S (.J hY (.w hY .t)))
  (.o (.h (.s .g) .eO (.J hY (.w hY .t)))
  (.o (.h (.s .g) .L (.J hY (.w hY .t)))
  (.o (.h (.s .g) .jO (.J hY (.w hY .t)))
  (.o (.h (.s .g) .y (.J hY (.w hY .t)))
  (.o (.h (.s .g) .bc (.J hY (.w hY .t)))
  (.o (.h (.s .g) .bp (.J hY (.w hY .t)))
  .t))))))))))⟩
def pe:Fn:=⟨[.g,.j],(.o (.f (.g .Gt (.M (.d (.s .g) .G) .kF (.o (.s .j) (.o (.j 0) .t))) (.j 0)))
  .t)⟩
def lB:Fn:=⟨[.g,.j],(.o (.f (.M (.d (.s .g) .F) .kF (.o (.s .j) (.o (.j 0) .t))))
  .t)⟩
def ti:Fn:=⟨[.g,.j,.x],(.o (.g .vV (.s .x))
  (.o (.p (.g .NotEq (.s .vV) (.r (.d (.s .g) .S) (.s .j))) (.o (.n (.r (.d (.s .g) .y) (.s .vV)) (.s .j) (.q hY))
  (.o (.v (.g .NotIn (.s .vV) (.d (.s .g) .jO)) (.o (.n (.d (.s .g) .eO) (.s .j) (.q hY))
  .t) .t)
  (.o (.g .vV (.r (.d (.s .g) .L) (.s .vV)))
  .t))))
  .t))⟩
noncomputable def yS:Fn:=⟨[⟨161⟩,⟨26⟩],(.o (.n (.s ⟨161⟩) (.s ⟨26⟩) (.C .g (.M (.s ⟨161⟩) .kF (.o (.s ⟨26⟩) (.o (.j 0) .t))) (.j 1)))
  .t)⟩
def bI:Fn:=⟨[.A,.f,.x],(.o (.v (.g .Eq (.d (.s .f) .w) (.B .lX)) (.o (.l (.h .fk (.o (.d (.s .A) .F) (.o (.d (.s .f) .j) .t))))
  (.o (.l (.y (.s .A) .nH (.o (.d (.s .f) .j) (.o (.s .x) .t))))
  .t)) (.o (.v (.g .Eq (.d (.s .f) .w) (.B ⟨226⟩)) (.o (.l (.h .fk (.o (.d (.s .A) .G) (.o (.d (.s .f) .j) .t))))
  (.o (.l (.y (.s .A) .nH (.o (.d (.s .f) .j) (.o (.s .x) .t))))
  .t)) (.o (.v (.g .Eq (.d (.s .f) .w) (.B ⟨149⟩)) (.o (.l (.h .fk (.o (.d (.s .A) .bc) (.o (.d (.s .f) .T) .t))))
  .t) (.o (.v (.g .In (.d (.s .f) .w) (.H (.o (.B ⟨248⟩) (.o (.B ⟨148⟩) .t)))) (.o (.l (.h .fk (.o (.d (.s .A) .bp) (.o (.d (.s .f) .T) .t))))
  .t) (.o (.v (.g .Eq (.d (.s .f) .w) (.B ⟨9⟩)) (.o (.j [.j] (.F (.d (.s .f) .gq)) (.o (.n (.d (.s .A) .S) (.s .j) (.s .x))
  .t))
  .t) (.o (.v (.g .Eq (.d (.s .f) .w) (.B .jv)) (.o (.n (.d (.s .A) .L) (.d (.s .f) .x) (.s .x))
  (.o (.n (.d (.s .A) .y) (.d (.s .f) .x) (.J hY (.w hY .t)))
  (.o (.j [.j] (.F (.y (.s .f) .dC .t)) (.o (.n (.d (.s .A) .S) (.s .j) (.d (.s .f) .x))
  .t))
  .t))) (.o (.v (.g .Eq (.d (.s .f) .w) (.B ⟨42⟩)) (.o (.v (.g .Eq (.d (.d (.s .f) .Y) .w) (.B .lX)) (.o (.l (.h .fk (.o (.d (.s .A) .dy) (.o (.d (.d (.s .f) .Y) .j) .t))))
  .t) .t)
  (.o (.v (.h .gV (.o (.s .f) .t)) (.o (.n (.d (.s .A) .jO) (.d (.d (.s .f) .Y) .x) (.q hY))
  .t) .t)
  .t)) .t)
  .t))
  .t))
  .t))
  .t))
  .t))
  .t))
  .t)⟩
def r6:Fn:=⟨[.kP],(.o (.g .A (.G .O .t))
  (.o (.j [.f] (.F (.s .kP)) (.o (.g .v (.J hY (.F (.o (.H (.o (.s .f) (.o (.B ⟨13⟩) .t))) .t))))
  (.o (.p (.g .Gt (.E .C (.o (.s .v) .t)) (.j 0)) (.o (.q .p .x (.M (.s .v) .jI .t))
  (.o (.l (.h .fQ (.o (.s .A) (.o (.s .p) (.o (.s .x) .t)))))
  (.o (.g ⟨180⟩ (.D (.g .Eq (.d (.s .p) .w) (.B .jv)) (.d (.s .p) .x) (.s .x)))
  (.o (.j [.eF] (.F (.R (.y (.s .p) .u .t))) (.o (.l (.M (.s .v) .ch (.o (.H (.o (.s .eF) (.o (.s ⟨180⟩) .t))) .t)))
  .t))
  .t)))))
  .t)))
  (.o (.f (.s .A))
  .t)))⟩
noncomputable def CO:Fn:=⟨[⟨79⟩],(.o (.j [⟨133⟩,⟨37⟩] (.f (.B ⟨224⟩)) (.o (.v (.g .Eq (.r (.s ⟨37⟩) (.j 0)) (.s ⟨79⟩)) (.o (.f (.s ⟨133⟩))
  .t) .t)
  .t))
  (.o (.f (.L (.j 1)))
  .t))⟩
def tW:Fn:=⟨[.Az],(.o (.f (.r (.r (.B ⟨224⟩) (.s .Az)) (.j 3)))
  .t)⟩
def nU:Fn:=⟨[.f,.A],(.o (.g .v (.J hY (.F (.o (.s .f) .t))))
  (.o (.p (.g .Gt (.E .C (.o (.s .v) .t)) (.j 0)) (.o (.g .p (.M (.s .v) .jI .t))
  (.o (.v (.g .Eq (.d (.s .p) .w) (.B .lX)) (.o (.v (.y (.s .A) .gU (.o (.d (.s .p) .j) .t)) (.o (.f (.q np))
  .t) .t)
  .t) (.o (.v (.g .Eq (.d (.s .p) .w) (.B ⟨46⟩)) (.o (.v (.g .NotEq (.h ⟨253⟩ (.o (.d (.s .p) .Az) .t)) (.B ⟨106⟩)) (.o (.f (.q np))
  .t) .t)
  (.o (.g .v (.J hY (.C .g (.s .v) (.d (.s .p) .U))))
  .t)) (.o (.v (.g .In (.d (.s .p) .w) (.H (.o (.B ⟨3⟩) (.o (.B ⟨11⟩) .t)))) (.o (.g .v (.J hY (.C .g (.s .v) (.y (.s .p) .u .t))))
  .t) (.o (.v (.g .Eq (.d (.s .p) .w) (.B ⟨9⟩)) (.o (.l (.M (.s .v) .ch (.o (.d (.s .p) .I) .t)))
  .t) (.o (.v (.g .Eq (.d (.s .p) .w) (.B ⟨42⟩)) (.o (.v (.v (.h .gV (.o (.s .p) .t))) (.o (.f (.q np))
  .t) .t)
  (.o (.g .v (.J hY (.C .g (.C .g (.s .v) (.d (.s .p) .U)) (.F (.o (.d (.d (.s .p) .Y) .I) .t)))))
  .t)) (.o (.v (.g .NotIn (.d (.s .p) .w) (.H (.o (.B ⟨99⟩) (.o (.B .jv) .t)))) (.o (.f (.q np))
  .t) .t)
  .t))
  .t))
  .t))
  .t))
  .t))
  .t)))
  (.o (.f (.q hY))
  .t)))⟩
def mh:Fn:=⟨[.f],(.o (.g .v (.J hY (.F (.o (.s .f) .t))))
  (.o (.p (.g .Gt (.E .C (.o (.s .v) .t)) (.j 0)) (.o (.g .p (.M (.s .v) .jI .t))
  (.o (.v (.g .Eq (.d (.s .p) .w) (.B ⟨3⟩)) (.o (.g .v (.J hY (.C .g (.s .v) (.F (.o (.d (.s .p) .vn) (.o (.d (.s .p) .Eg) .t))))))
  .t) (.o (.v (.g .Eq (.d (.s .p) .w) (.B ⟨11⟩)) (.o (.l (.M (.s .v) .ch (.o (.r (.d (.s .p) .fV) (.L (.j 1))) .t)))
  .t) (.o (.v (.g .Eq (.d (.s .p) .w) (.B ⟨9⟩)) (.o (.l (.M (.s .v) .ch (.o (.d (.s .p) .I) .t)))
  .t) (.o (.v (.g .Eq (.d (.s .p) .w) (.B ⟨42⟩)) (.o (.v (.v (.h .gV (.o (.s .p) .t))) (.o (.f (.q np))
  .t) .t)
  (.o (.l (.M (.s .v) .ch (.o (.d (.d (.s .p) .Y) .I) .t)))
  .t)) .t)
  .t))
  .t))
  .t))
  .t)))
  (.o (.f (.q hY))
  .t)))⟩
def ot:Fn:=⟨[.f],(.o (.f (.I (.o (.g .Eq (.d (.s .f) .w) (.B ⟨99⟩)) (.o (.g .Is (.d (.s .f) .m) (.B ⟨249⟩)) .t))))
  .t)⟩
def Bp:Fn:=⟨[],(.o (.f (.G .jZ (.o (.B ⟨259⟩) .t)))
  .t)⟩
def rm:Fn:=⟨[.g,.kP],(.o (.h (.s .g) .kP (.s .kP))
  .t)⟩
def jP:Fn:=⟨[.g,.f],(.o (.f (.D (.g .Eq (.d (.s .f) .w) (.B .lX)) (.M (.d (.s .g) .kP) .kF (.o (.d (.s .f) .j) (.o (.s .f) .t))) (.s .f)))
  .t)⟩
def mY:Fn:=⟨[⟨29⟩,.jr,.I],(.o (.g .J (.J hY (.F .t)))
  (.o (.g .U (.J hY (.F .t)))
  (.o (.j [.j,.Z] (.d (.d (.d (.s ⟨29⟩) .Y) .J) (.d (.s ⟨29⟩) .U)) (.o (.v (.g .NotIn (.s .j) (.s .jr)) (.o (.l (.M (.s .J) .ch (.o (.s .j) .t)))
  (.o (.l (.M (.s .U) .ch (.o (.s .Z) .t)))
  .t)) .t)
  .t))
  (.o (.f (.D (.g .Gt (.E .C (.o (.s .J) .t)) (.j 0)) (.h ⟨218⟩ (.o (.d (.d (.s ⟨29⟩) .Y) .x) (.o (.J np (.s .J)) (.o (.J np (.s .U)) (.o (.s .I) .t))))) (.s .I)))
  .t))))⟩
def ro:Fn:=⟨[.g,.A],(.o (.h (.s .g) .A (.s .A))
  .t)⟩
def jR:Fn:=⟨[.g,.j,.Z],(.o (.v (.y (.d (.s .g) .A) .gU (.o (.s .j) .t)) (.o (.f (.q np))
  .t) .t)
  (.o (.v (.g .Eq (.d (.s .Z) .w) (.B .lX)) (.o (.f (.v (.y (.d (.s .g) .A) .gU (.o (.d (.s .Z) .j) .t))))
  .t) .t)
  (.o (.v (.N (.o (.g .NotEq (.d (.s .Z) .w) (.B ⟨99⟩)) (.o (.h ⟨274⟩ (.o (.s .Z) .t)) .t))) (.o (.f (.q np))
  .t) .t)
  (.o (.f (.N (.o (.h ⟨193⟩ (.o (.d (.s .Z) .m) .t)) (.o (.g .Eq (.y (.d (.s .g) .A) .eZ (.o (.s .j) .t)) (.j 1)) .t))))
  .t))))⟩
def jQ:Fn:=⟨[.g,.f],(.o (.v (.v (.h .gV (.o (.s .f) .t))) (.o (.f (.s .f))
  .t) .t)
  (.o (.g .jr (.J hY (.w hY .t)))
  (.o (.j [.j,.Z] (.d (.d (.d (.s .f) .Y) .J) (.d (.s .f) .U)) (.o (.v (.y (.s .g) ⟨157⟩ (.o (.s .j) (.o (.s .Z) .t))) (.o (.n (.s .jr) (.s .j) (.s .Z))
  .t) .t)
  .t))
  (.o (.v (.g .Eq (.E .C (.o (.s .jr) .t)) (.j 0)) (.o (.f (.s .f))
  .t) .t)
  (.o (.f (.h ⟨277⟩ (.o (.s .f) (.o (.J np (.s .jr)) (.o (.h ⟨202⟩ (.o (.d (.d (.s .f) .Y) .I) (.o (.d (.G .fG (.o (.J np (.s .jr)) .t)) .eh) .t))) .t)))))
  .t)))))⟩
def EP:Fn:=⟨[.f],(.o (.f (.h ⟨202⟩ (.o (.s .f) (.o (.d (.G .eJ (.o (.h ⟨214⟩ (.o (.F (.o (.s .f) .t)) .t)) .t)) .eh) .t))))
  .t)⟩
def pg:Fn:=⟨[.g,.A],(.o (.h (.s .g) .A (.s .A))
  .t)⟩
def j8:Fn:=⟨[.g,.j],(.o (.f (.g .Eq (.y (.d (.s .g) .A) .eZ (.o (.s .j) .t)) (.j 0)))
  .t)⟩
def bP:Fn:=⟨[.g,.f],(.o (.v (.I (.o (.g .Eq (.d (.s .f) .w) (.B ⟨226⟩)) (.o (.y (.s .g) ⟨242⟩ (.o (.d (.s .f) .j) .t)) .t))) (.o (.v (.h ⟨217⟩ (.o (.d (.s .f) .m) (.o (.d (.s .g) .A) .t))) (.o (.f (.h .ja .t))
  .t) .t)
  (.o (.f (.D (.h ⟨241⟩ (.o (.d (.s .f) .m) .t)) (.G .jJ (.o (.F (.o (.d (.s .f) .m) (.o (.h .ja .t) .t))) .t)) (.s .f)))
  .t)) .t)
  (.o (.v (.g .Eq (.d (.s .f) .w) (.B ⟨9⟩)) (.o (.f (.y (.s .g) ⟨262⟩ (.o (.s .f) .t)))
  .t) .t)
  (.o (.f (.D (.h .gV (.o (.s .f) .t)) (.y (.s .g) ⟨263⟩ (.o (.s .f) .t)) (.s .f)))
  .t)))⟩
def eH:Fn:=⟨[.g,.f],(.o (.g .jr (.J hY (.w hY .t)))
  (.o (.j [.j,.Z] (.d (.d (.d (.s .f) .Y) .J) (.d (.s .f) .U)) (.o (.v (.I (.o (.y (.s .g) ⟨242⟩ (.o (.s .j) .t)) (.o (.v (.y (.d (.s .g) .A) .gU (.o (.s .j) .t))) (.o (.h ⟨217⟩ (.o (.s .Z) (.o (.d (.s .g) .A) .t))) .t)))) (.o (.n (.s .jr) (.s .j) (.q hY))
  .t) .t)
  .t))
  (.o (.v (.g .Gt (.E .C (.o (.s .jr) .t)) (.j 0)) (.o (.f (.h ⟨277⟩ (.o (.s .f) (.o (.J np (.s .jr)) (.o (.d (.d (.s .f) .Y) .I) .t)))))
  .t) .t)
  (.o (.v (.g .NotEq (.E .C (.o (.d (.s .f) .U) .t)) (.j 1)) (.o (.f (.s .f))
  .t) .t)
  (.o (.g .j (.r (.d (.d (.s .f) .Y) .J) (.j 0)))
  (.o (.v (.I (.o (.y (.s .g) ⟨242⟩ (.o (.s .j) .t)) (.o (.v (.y (.d (.s .g) .A) .gU (.o (.s .j) .t))) (.o (.h ⟨241⟩ (.o (.r (.d (.s .f) .U) (.j 0)) .t)) .t)))) (.o (.f (.G .jJ (.o (.F (.o (.r (.d (.s .f) .U) (.j 0)) (.o (.d (.d (.s .f) .Y) .I) .t))) .t)))
  .t) .t)
  (.o (.f (.s .f))
  .t)))))))⟩
def Br:Fn:=⟨[.f],(.o (.f (.h ⟨202⟩ (.o (.s .f) (.o (.d (.G .b9 (.o (.h ⟨214⟩ (.o (.F (.o (.s .f) .t)) .t)) .t)) .eh) .t))))
  .t)⟩
def gK:Fn:=⟨[.g],(.o (.h (.s .g) ⟨138⟩ (.G .dJ .t))
  (.o (.h (.s .g) ⟨71⟩ (.j 0))
  (.o (.h (.s .g) ⟨176⟩ (.w hY .t))
  (.o (.h (.s .g) ⟨33⟩ (.w hY .t))
  (.o (.h (.s .g) ⟨88⟩ .u)
  .t)))))⟩
def mE:Fn:=⟨[.g],(.o (.h (.s .g) ⟨71⟩ (.C .g (.d (.s .g) ⟨71⟩) (.j 1)))
  (.o (.f (.d (.s .g) ⟨71⟩))
  .t))⟩
def tV:Fn:=⟨[⟨172⟩],(.o (.g ⟨112⟩ (.z (.E .vp (.o (.s .mB) .t)) [.mB] (.F (.A (.s ⟨172⟩) .u (.j 20)))))
  (.o (.f (.J hY (.F (.o (.J hY (.O (.s .mB) [.mB] (.F (.s ⟨112⟩)) (.g .GtE (.s .mB) (.C .f (.j 10) (.j 18))))) (.o (.C .g (.s ⟨112⟩) (.F (.o (.C .g (.j 417) (.E .C (.o (.s ⟨112⟩) .t))) .t))) (.o (.j 0) .t))))))
  .t))⟩
def jA:Fn:=⟨[.o,.fj],(.o (.v (.g .NotEq (.r (.s .o) (.j 0)) (.F .t)) (.o (.g .R (.r (.r (.s .o) (.j 0)) (.j 0)))
  (.o (.n (.r (.s .o) (.j 0)) (.j 0) (.C .c (.s .R) (.s .fj)))
  (.o (.v (.g .Eq (.r (.r (.s .o) (.j 0)) (.j 0)) (.j 0)) (.o (.l (.M (.r (.s .o) (.j 0)) .jI (.o (.j 0) .t)))
  .t) .t)
  (.o (.f (.C .d (.s .R) (.s .fj)))
  .t)))) .t)
  (.o (.n (.s .o) (.j 2) (.C .g (.r (.s .o) (.j 2)) (.j 1)))
  (.o (.g .kQ (.C .d (.C .g (.r (.r (.s .o) (.j 1)) (.C .d (.r (.s .o) (.j 2)) (.E .C (.o (.r (.s .o) (.j 1)) .t)))) (.C .e (.j 1640531527) (.r (.s .o) (.j 2)))) (.j 4294966297)))
  (.o (.g .kQ (.C .d (.C .g (.C .e (.s .kQ) (.s .kQ)) (.C .e (.j 122949823) (.r (.s .o) (.j 2)))) (.j 4294966237)))
  (.o (.f (.C .d (.C .c (.C .d (.C .e (.s .kQ) (.s .kQ)) (.j 4294966187)) (.j 1024)) (.s .fj)))
  .t)))))⟩
def pt:Fn:=⟨[.o,.fV],(.o (.f (.r (.s .fV) (.h .bh (.o (.s .o) (.o (.E .C (.o (.s .fV) .t)) .t)))))
  .t)⟩
def jz:Fn:=⟨[.m],(.o (.v (.K (.s .m) [.B]) (.o (.v (.g .Eq (.r (.s .m) (.j 0)) (.t .nG)) (.o (.f (.H (.o (.t .nG) (.o (.h .a8 (.o (.r (.s .m) (.j 1)) .t)) (.o (.h .a8 (.o (.r (.s .m) (.j 2)) .t)) .t)))))
  .t) .t)
  (.o (.f (.D (.g .Eq (.r (.s .m) (.j 0)) (.t .cB)) (.E .nF (.o (.C .g (.F (.o (.r (.s .m) (.j 0)) .t)) (.z (.h .a8 (.o (.s .o8) .t)) [.o8] (.F (.A (.s .m) (.j 1) .u)))) .t)) (.H (.o (.r (.s .m) (.j 0)) .t))))
  .t)) .t)
  (.o (.v (.K (.s .m) [.N]) (.o (.f (.s .m))
  .t) .t)
  (.o (.v (.K (.s .m) [.gX]) (.o (.f (.H (.o (.t ⟨143⟩) (.o (.s .m) .t))))
  .t) .t)
  (.o (.v (.K (.s .m) [.iL]) (.o (.f (.H (.o (.t ⟨146⟩) (.o (.s .m) .t))))
  .t) .t)
  (.o (.f (.D (.g .Is (.s .m) (.B ⟨101⟩)) (.H (.o (.t ⟨81⟩) .t)) (.H (.o (.t .ja) .t))))
  .t)))))⟩
def tU:Fn:=⟨[.k,.V,⟨140⟩],(.o (.n (.s .k) (.t ⟨116⟩) (.H (.o (.s .V) (.o (.s ⟨140⟩) .t))))
  (.o .m
  .t))⟩
def tS:Fn:=⟨[⟨32⟩,⟨130⟩],(.o (.v (.N (.o (.K (.s ⟨32⟩) [.B]) (.o (.K (.s ⟨130⟩) [.B]) .t))) (.o (.f (.I (.o (.K (.s ⟨32⟩) [.B]) (.o (.K (.s ⟨130⟩) [.B]) (.o (.g .Eq (.r (.s ⟨32⟩) (.L (.j 1))) (.r (.s ⟨130⟩) (.L (.j 1)))) .t)))))
  .t) .t)
  (.o (.f (.g .Eq (.h .a8 (.o (.s ⟨32⟩) .t)) (.h .a8 (.o (.s ⟨130⟩) .t))))
  .t))⟩
def tT:Fn:=⟨[.k,.V,⟨175⟩],(.o (.n (.s .k) (.t ⟨75⟩) (.C .g (.r (.s .k) (.t ⟨75⟩)) (.j 1)))
  (.o (.f (.C .g (.C .g (.F (.o (.s .V) .t)) (.s ⟨175⟩)) (.F (.o (.r (.s .k) (.t ⟨75⟩)) .t))))
  .t))⟩
def eI:Fn:=⟨[.V,.Q,.k],(.o (.v (.g .Eq (.s .V) (.t .nI)) (.o (.f (.h .dI (.o (.s .k) (.o (.t .nG) (.o (.s .Q) .t)))))
  .t) .t)
  (.o (.v (.g .Eq (.s .V) (.t .B)) (.o (.g .fE (.B ⟨101⟩))
  (.o (.j [.o8] (.F (.R (.s .Q))) (.o (.g .fE (.h .dI (.o (.s .k) (.o (.t .nG) (.o (.F (.o (.s .o8) (.o (.s .fE) .t))) .t)))))
  .t))
  (.o (.f (.s .fE))
  .t))) .t)
  (.o (.v (.g .Eq (.s .V) (.t .rG)) (.o (.f (.I (.o (.K (.r (.s .Q) (.j 0)) [.gX]) (.o (.v (.r (.s .Q) (.j 0))) .t))))
  .t) .t)
  (.o (.v (.g .Eq (.s .V) (.t .kB)) (.o (.f (.h ⟨235⟩ (.o (.r (.s .Q) (.j 0)) (.o (.r (.s .Q) (.j 1)) .t))))
  .t) .t)
  (.o (.g ⟨196⟩ (.I (.o (.K (.r (.s .Q) (.j 0)) [.B]) (.o (.g .Eq (.r (.r (.s .Q) (.j 0)) (.j 0)) (.t .nG)) .t))))
  (.o (.v (.g .Eq (.s .V) (.t ⟨131⟩)) (.o (.f (.s ⟨196⟩))
  .t) .t)
  (.o (.v (.v (.s ⟨196⟩)) (.o (.l (.h .bY (.o (.s .k) (.o (.s .V) (.o (.h .a8 (.o (.r (.s .Q) (.j 0)) .t)) .t)))))
  .t) .t)
  (.o (.f (.D (.g .Eq (.s .V) (.t .s8)) (.r (.r (.s .Q) (.j 0)) (.j 1)) (.r (.r (.s .Q) (.j 0)) (.j 2))))
  .t))))))))⟩
def eR:Fn:=⟨[.iV,.Q,.k],(.o (.v (.I (.o (.K (.s .iV) [.B]) (.o (.g .Eq (.r (.s .iV) (.j 0)) (.t .fj)) .t))) (.o (.f (.D (.g .Eq (.E .C (.o (.s .Q) .t)) (.j 1)) (.r (.s .Q) (.j 0)) (.C .g (.F (.o (.t .cB) .t)) (.s .Q))))
  .t) .t)
  (.o (.v (.N (.o (.v (.K (.s .iV) [.B])) (.o (.g .NotEq (.r (.s .iV) (.j 0)) (.t ⟨23⟩)) .t))) (.o (.l (.h .bY (.o (.s .k) (.o (.t ⟨53⟩) (.o (.h .a8 (.o (.s .iV) .t)) .t)))))
  .t) .t)
  (.o (.r .M .y (.r (.s .iV) (.j 1)) (.J hY (.E .kC (.o (.r (.s .iV) (.j 2)) .t))))
  (.o (.v (.N (.o (.g .Lt (.E .C (.o (.s .Q) .t)) (.E .C (.o (.d (.s .M) .J) .t))) (.o (.I (.o (.g .Gt (.E .C (.o (.s .Q) .t)) (.E .C (.o (.d (.s .M) .J) .t))) (.o (.g .Lt (.d (.s .M) .R) (.j 0)) .t))) .t))) (.o (.l (.h .bY (.o (.s .k) (.o (.t ⟨110⟩) (.o (.E .C (.o (.s .Q) .t)) .t)))))
  .t) .t)
  (.o (.j [.j,.m] (.d (.d (.s .M) .J) (.s .Q)) (.o (.n (.s .y) (.s .j) (.J hY (.F (.o (.s .m) .t))))
  .t))
  (.o (.v (.g .GtE (.d (.s .M) .R) (.j 0)) (.o (.n (.s .y) (.d (.s .M) .R) (.J hY (.F (.o (.h .bX (.o (.t .B) (.o (.A (.s .Q) (.E .C (.o (.d (.s .M) .J) .t)) .u) (.o (.s .k) .t)))) .t))))
  .t) .t)
  (.o (.f (.h .K (.o (.d (.s .M) .I) (.o (.J np (.s .y)) (.o (.s .k) .t)))))
  .t)))))))⟩
def cZ:Fn:=⟨[.f,.D,.k],(.o (.g .fE (.h .K (.o (.s .f) (.o (.s .D) (.o (.s .k) .t)))))
  (.o (.v (.I (.o (.K (.s .fE) [.B]) (.o (.g .Eq (.r (.s .fE) (.j 0)) (.t .cB)) .t))) (.o (.l (.h .bY (.o (.s .k) (.o (.t .cB) (.o (.C .s (.E .C (.o (.s .fE) .t)) (.j 1)) .t)))))
  .t) .t)
  (.o (.f (.s .fE))
  .t)))⟩
def fR:Fn:=⟨[.f,.D,.k],(.o (.n (.s .k) (.t .E) (.C .s (.r (.s .k) (.t .E)) (.j 1)))
  (.o (.v (.g .Lt (.r (.s .k) (.t .E)) (.j 0)) (.o (.l (.h .bY (.o (.s .k) (.o (.t ⟨19⟩) (.o (.j 0) .t)))))
  .t) .t)
  (.o (.v (.K (.s .f) [.jZ]) (.o (.f (.d (.s .f) .m))
  .t) .t)
  (.o (.v (.K (.s .f) [.ju]) (.o (.v (.g .Is (.r (.r (.s .D) (.d (.s .f) .j)) (.j 0)) (.B ⟨249⟩)) (.o (.l (.h .bY (.o (.s .k) (.o (.t ⟨256⟩) (.o (.j 0) .t)))))
  .t) .t)
  (.o (.f (.r (.r (.s .D) (.d (.s .f) .j)) (.j 0)))
  .t)) .t)
  (.o (.v (.K (.s .f) [.fX]) (.o (.g .iV (.h .bf (.o (.d (.s .f) .Y) (.o (.s .D) (.o (.s .k) .t)))))
  (.o (.f (.h .dR (.o (.s .iV) (.o (.z (.h .bf (.o (.s .eF) (.o (.s .D) (.o (.s .k) .t)))) [.eF] (.F (.d (.s .f) .U))) (.o (.s .k) .t)))))
  .t)) .t)
  (.o (.v (.K (.s .f) [.jt]) (.o (.f (.h .bX (.o (.r (.r (.s .k) (.t .fB)) (.d (.s .f) .Az)) (.o (.z (.h .bf (.o (.s .eF) (.o (.s .D) (.o (.s .k) .t)))) [.eF] (.F (.d (.s .f) .U))) (.o (.s .k) .t)))))
  .t) .t)
  (.o (.v (.K (.s .f) [.s9]) (.o (.g .kA (.h .bf (.o (.d (.s .f) .kA) (.o (.s .D) (.o (.s .k) .t)))))
  (.o (.f (.h .K (.o (.D (.I (.o (.K (.s .kA) [.gX]) (.o (.v (.s .kA)) .t))) (.d (.s .f) .Eg) (.d (.s .f) .vn)) (.o (.s .D) (.o (.s .k) .t)))))
  .t)) .t)
  (.o (.v (.K (.s .f) [.cC]) (.o (.f (.h .dI (.o (.s .k) (.o (.t ⟨23⟩) (.o (.F (.o (.s .f) (.o (.s .D) .t))) .t)))))
  .t) .t)
  (.o (.v (.K (.s .f) [.jJ]) (.o (.j [.eF] (.F (.A (.d (.s .f) .fV) .u (.L (.j 1)))) (.o (.l (.h .K (.o (.s .eF) (.o (.s .D) (.o (.s .k) .t)))))
  .t))
  (.o (.f (.h .K (.o (.r (.d (.s .f) .fV) (.L (.j 1))) (.o (.s .D) (.o (.s .k) .t)))))
  .t)) .t)
  (.o (.f (.h ⟨251⟩ (.o (.s .f) (.o (.s .D) (.o (.s .k) .t)))))
  .t))))))))))⟩
def gw:Fn:=⟨[.f,.D,.k],(.o (.v (.K (.s .f) [.lY]) (.o (.g .y (.E .kC (.o (.s .D) .t)))
  (.o (.j [.j] (.F (.d (.s .f) .gq)) (.o (.n (.s .y) (.s .j) (.F (.o (.B ⟨249⟩) .t)))
  .t))
  (.o (.j [.j,.M] (.d (.d (.s .f) .gq) (.d (.s .f) ⟨197⟩)) (.o (.n (.r (.s .y) (.s .j)) (.j 0) (.h .dI (.o (.s .k) (.o (.t ⟨23⟩) (.o (.F (.o (.s .M) (.o (.s .y) .t))) .t)))))
  .t))
  (.o (.f (.h .K (.o (.d (.s .f) .I) (.o (.s .y) (.o (.s .k) .t)))))
  .t)))) .t)
  (.o (.v (.K (.s .f) [.cE]) (.o (.g .m (.h .bf (.o (.d (.s .f) .m) (.o (.s .D) (.o (.s .k) .t)))))
  (.o (.n (.r (.s .D) (.d (.s .f) .j)) (.j 0) (.s .m))
  (.o (.f (.B ⟨259⟩))
  .t))) .t)
  (.o (.v (.K (.s .f) [.bO]) (.o (.g .m (.h .bf (.o (.d (.s .f) .m) (.o (.s .D) (.o (.s .k) .t)))))
  (.o (.l (.M (.r (.s .k) (.t ⟨142⟩)) .ch (.o (.H (.o (.d (.s .f) .T) (.o (.h .a8 (.o (.s .m) .t)) .t))) .t)))
  .t)) .t)
  (.o (.v (.g .NotIn (.d (.s .f) .T) (.r (.s .k) (.t ⟨192⟩))) (.o (.l (.h .bY (.o (.s .k) (.o (.t ⟨203⟩) (.o (.d (.s .f) .T) .t)))))
  .t) .t)
  (.o (.v (.K (.s .f) [.iM]) (.o (.f (.r (.r (.s .k) (.t ⟨192⟩)) (.d (.s .f) .T)))
  .t) .t)
  (.o (.n (.r (.s .k) (.t ⟨192⟩)) (.d (.s .f) .T) (.s .m))
  (.o (.f (.B ⟨259⟩))
  .t)))))))⟩
def cu:Fn:=⟨[.f,.fB],(.o (.g .k (.J hY (.w np (.o (.t .E) (.o (.j 5000) (.o (.t ⟨75⟩) (.o (.j 0) (.o (.t ⟨142⟩) (.o (.J hY (.F .t)) (.o (.t ⟨192⟩) (.o (.J hY (.w hY (.o (.j 1) (.o (.j 5) (.o (.j 2) (.o (.q np) (.o (.j 4) (.o (.F (.o (.t .fj) .t)) .t)))))))) (.o (.t ⟨116⟩) (.o .u (.o (.t .fB) (.o (.s .fB) .t)))))))))))))))
  (.o (.C (.o (.g .gz (.H (.o (.t .gz) (.o (.h .a8 (.o (.h .K (.o (.s .f) (.o (.w hY .t) (.o (.s .k) .t)))) .t)) .t))))
  .t) .gz ⟨163⟩ .k ⟨116⟩)
  (.o (.f (.F (.o (.s .gz) (.o (.J np (.r (.s .k) (.t ⟨142⟩))) (.o (.z (.h .a8 (.o (.r (.r (.s .k) (.t ⟨192⟩)) (.s .T)) .t)) [.T] (.F (.H (.o (.j 1) (.o (.j 2) .t))))) .t)))))
  .t)))⟩
def gj:Fn:=⟨[.f,.kR,.o7],(.o (.g .dC (.F .t))
  (.o (.v (.K (.s .f) [.cC]) (.o (.g .dC (.C .g (.d (.s .f) .J) (.D (.g .GtE (.d (.s .f) .R) (.j 0)) (.F (.o (.d (.s .f) .R) .t)) (.F .t))))
  (.o (.v (.g .In (.H (.o (.t .x) (.o (.d (.s .f) .x) .t))) (.s .o7)) (.o (.f (.q np))
  .t) .t)
  (.o (.l (.M (.s .o7) .ch (.o (.H (.o (.t .x) (.o (.d (.s .f) .x) .t))) .t)))
  .t))) .t)
  (.o (.v (.K (.s .f) [.lY]) (.o (.g .dC (.E .B (.o (.d (.s .f) .gq) .t)))
  .t) .t)
  (.o (.v (.g .NotEq (.O (.s .j) [.j] (.F (.s .dC)) (.g .In (.s .j) (.s .o7))) (.F .t)) (.o (.f (.q np))
  .t) .t)
  (.o (.l (.M (.s .o7) .js (.o (.s .dC) .t)))
  (.o (.v (.I (.o (.K (.s .f) [.ju,.cE]) (.o (.g .NotIn (.d (.s .f) .j) (.s .kR)) .t))) (.o (.f (.q np))
  .t) .t)
  (.o (.f (.g .Eq (.O (.j 1) [.eF] (.F (.y (.s .f) .u .t)) (.v (.h .c8 (.o (.s .eF) (.o (.C .g (.s .kR) (.s .dC)) (.o (.s .o7) .t)))))) (.F .t)))
  .t)))))))⟩
def kZ:Fn:=⟨[.o,.H,.E],(.o (.g .fi (.O (.s .j) [.j,.d5] (.F (.s .H)) (.g .Eq (.s .d5) (.t .jq))))
  (.o (.v (.I (.o (.g .NotEq (.s .fi) (.F .t)) (.o (.g .Gt (.h .bh (.o (.s .o) (.o (.j 4) .t))) (.j 0)) .t))) (.o (.f (.G .ju (.o (.h .dQ (.o (.s .o) (.o (.A (.s .fi) (.L (.j 3)) .u) .t))) .t)))
  .t) .t)
  (.o (.f (.G .jZ (.o (.h .dQ (.o (.s .o) (.o (.C .g (.F (.o (.j 0) (.o (.j 1) (.o (.q np) (.o (.q hY) (.o (.B ⟨101⟩) .t)))))) (.r (.s .E) (.j 1))) .t))) .t)))
  .t)))⟩
def jf:Fn:=⟨[.o,.z,.H,.W,.E],(.o (.r .j .x (.y (.s .z) .fc .t) (.y (.s .z) .fc .t))
  (.o (.v (.g .Eq (.h .bh (.o (.s .o) (.o (.j 2) .t))) (.j 0)) (.o (.g .m (.h .bD (.o (.s .o) (.o (.s .z) (.o (.s .H) (.o (.C .s (.s .W) (.j 1)) (.o (.s .E) .t)))))))
  (.o (.g .I (.h .bD (.o (.s .o) (.o (.s .z) (.o (.C .g (.s .H) (.F (.o (.H (.o (.s .j) (.o (.t .jq) .t))) .t))) (.o (.C .s (.s .W) (.j 1)) (.o (.s .E) .t)))))))
  (.o (.f (.G .fX (.o (.G .cC (.o (.s .x) (.o (.F (.o (.s .j) .t)) (.o (.L (.j 1)) (.o (.s .I) .t))))) (.o (.F (.o (.s .m) .t)) .t))))
  .t))) .t)
  (.o (.g .M (.h ⟨261⟩ (.o (.s .o) (.o (.s .z) (.o (.s .H) (.o (.s .W) (.o (.s .E) .t)))))))
  (.o (.g .d5 (.H (.o (.E .C (.o (.d (.s .M) .J) .t)) (.o (.g .GtE (.d (.s .M) .R) (.j 0)) .t))))
  (.o (.f (.G .fX (.o (.G .cC (.o (.s .x) (.o (.F (.o (.s .j) .t)) (.o (.L (.j 1)) (.o (.h .bD (.o (.s .o) (.o (.s .z) (.o (.C .g (.s .H) (.F (.o (.H (.o (.s .j) (.o (.s .d5) .t))) .t))) (.o (.s .W) (.o (.s .E) .t)))))) .t))))) (.o (.F (.o (.s .M) .t)) .t))))
  .t)))))⟩
def g5:Fn:=⟨[.o,.z,.H,.W,.E],(.o (.g .J (.z (.y (.s .z) .fc .t) [.iU] (.c (.h .bh (.o (.s .o) (.o (.j 3) .t))))))
  (.o (.g .R (.D (.g .Eq (.h .bh (.o (.s .o) (.o (.j 4) .t))) (.j 0)) (.y (.s .z) .fc .t) (.L (.j 1))))
  (.o (.g .S (.C .g (.s .J) (.D (.g .GtE (.s .R) (.j 0)) (.F (.o (.s .R) .t)) (.F .t))))
  (.o (.g .I (.h .bD (.o (.s .o) (.o (.s .z) (.o (.C .g (.s .H) (.z (.H (.o (.s .j) (.o (.t .jq) .t))) [.j] (.F (.s .S)))) (.o (.C .s (.s .W) (.j 1)) (.o (.s .E) .t)))))))
  (.o (.f (.G .cC (.o (.y (.s .z) .fc .t) (.o (.s .J) (.o (.s .R) (.o (.s .I) .t))))))
  .t)))))⟩
def ix:Fn:=⟨[.o,.z,.H,.W,.E,.fj,⟨216⟩],(.o (.g ⟨78⟩ (.D (.s ⟨216⟩) (.h .bh (.o (.s .o) (.o (.j 3) .t))) (.E .iL (.o (.g .Eq (.h .bh (.o (.s .o) (.o (.j 9) .t))) (.j 0)) .t))))
  (.o (.f (.z (.h .bD (.o (.s .o) (.o (.s .z) (.o (.s .H) (.o (.C .s (.s .W) (.j 1)) (.o (.s .E) .t)))))) [.iU] (.c (.C .g (.s .fj) (.s ⟨78⟩)))))
  .t))⟩
def kh:Fn:=⟨[.o,.z,.H,.W,.E],(.o (.g ⟨189⟩ (.O (.H (.o (.s .j) (.o (.s .d5) .t))) [.j,.d5] (.F (.s .H)) (.g .NotEq (.s .d5) (.t .jq))))
  (.o (.v (.I (.o (.g .NotEq (.s ⟨189⟩) (.F .t)) (.o (.g .Gt (.h .bh (.o (.s .o) (.o (.j 3) .t))) (.j 0)) .t))) (.o (.q .j .d5 (.h .dQ (.o (.s .o) (.o (.A (.s ⟨189⟩) (.L (.j 2)) .u) .t))))
  (.o (.f (.G .fX (.o (.G .ju (.o (.s .j) .t)) (.o (.h ⟨271⟩ (.o (.s .o) (.o (.s .z) (.o (.s .H) (.o (.s .W) (.o (.s .E) (.o (.r (.s .d5) (.j 0)) (.o (.r (.s .d5) (.j 1)) .t)))))))) .t))))
  .t)) .t)
  (.o (.v (.g .Eq (.h .bh (.o (.s .o) (.o (.j 3) .t))) (.j 0)) (.o (.f (.G .fX (.o (.G .iM (.o (.j 4) .t)) (.o (.z (.h .bD (.o (.s .o) (.o (.s .z) (.o (.s .H) (.o (.C .s (.s .W) (.j 1)) (.o (.s .E) .t)))))) [.iU] (.c (.h .bh (.o (.s .o) (.o (.j 3) .t))))) .t))))
  .t) .t)
  (.o (.g .M (.h ⟨261⟩ (.o (.s .o) (.o (.s .z) (.o (.s .H) (.o (.s .W) (.o (.s .E) .t)))))))
  (.o (.f (.G .fX (.o (.s .M) (.o (.h ⟨271⟩ (.o (.s .o) (.o (.s .z) (.o (.s .H) (.o (.s .W) (.o (.s .E) (.o (.E .C (.o (.d (.s .M) .J) .t)) (.o (.g .GtE (.d (.s .M) .R) (.j 0)) .t)))))))) .t))))
  .t)))))⟩
def jB:Fn:=⟨[.o,.z,.H,.W,.E],(.o (.g .fi (.O (.s .j) [.j,.d5] (.F (.s .H)) (.g .Eq (.s .d5) (.t .jq))))
  (.o (.g .m (.h .bD (.o (.s .o) (.o (.s .z) (.o (.s .H) (.o (.C .s (.s .W) (.j 1)) (.o (.s .E) .t)))))))
  (.o (.v (.I (.o (.g .NotEq (.s .fi) (.F .t)) (.o (.g .Eq (.h .bh (.o (.s .o) (.o (.j 2) .t))) (.j 0)) .t))) (.o (.g .jY (.G .cE (.o (.h .dQ (.o (.s .o) (.o (.A (.s .fi) (.L (.j 3)) .u) .t))) (.o (.s .m) .t))))
  .t) (.o (.g .jY (.h .dQ (.o (.s .o) (.o (.F (.o (.G .bO (.o (.j 1) (.o (.s .m) .t))) (.o (.G .bO (.o (.j 2) (.o (.s .m) .t))) (.o (.s .m) (.o (.G .bO (.o (.j 3) (.o (.s .m) .t))) .t))))) .t))))
  .t))
  (.o (.f (.G .jJ (.o (.F (.o (.s .jY) (.o (.h .bD (.o (.s .o) (.o (.s .z) (.o (.s .H) (.o (.C .s (.s .W) (.j 1)) (.o (.s .E) .t)))))) .t))) .t)))
  .t))))⟩
def cW:Fn:=⟨[.o,.z,.H,.W,.E],(.o (.n (.s .E) (.j 0) (.C .s (.r (.s .E) (.j 0)) (.j 1)))
  (.o (.g .rF (.D (.I (.o (.g .Gt (.s .W) (.j 0)) (.o (.g .Gt (.r (.s .E) (.j 0)) (.j 0)) .t))) (.h .bh (.o (.s .o) (.o (.j 14) .t))) (.j 13)))
  (.o (.v (.g .Lt (.s .rF) (.j 4)) (.o (.f (.h .fP (.o (.s .o) (.o (.s .z) (.o (.s .H) (.o (.s .W) (.o (.s .E) .t)))))))
  .t) .t)
  (.o (.v (.g .Lt (.s .rF) (.j 6)) (.o (.f (.h ⟨211⟩ (.o (.s .o) (.o (.s .z) (.o (.s .H) (.o (.s .W) (.o (.s .E) .t)))))))
  .t) .t)
  (.o (.v (.g .Lt (.s .rF) (.j 8)) (.o (.f (.h ⟨229⟩ (.o (.s .o) (.o (.s .z) (.o (.s .H) (.o (.s .W) (.o (.s .E) .t)))))))
  .t) .t)
  (.o (.v (.g .Eq (.s .rF) (.j 8)) (.o (.f (.G .iM (.o (.C .g (.j 1) (.h .bh (.o (.s .o) (.o (.j 3) .t)))) .t)))
  .t) .t)
  (.o (.v (.g .Eq (.s .rF) (.j 9)) (.o (.g .u (.z (.h .bD (.o (.s .o) (.o (.s .z) (.o (.s .H) (.o (.C .s (.s .W) (.j 1)) (.o (.s .E) .t)))))) [.iU] (.c (.j 3))))
  (.o (.f (.G .s9 (.o (.r (.s .u) (.j 0)) (.o (.r (.s .u) (.j 1)) (.o (.r (.s .u) (.j 2)) .t)))))
  .t)) .t)
  (.o (.v (.g .Gt (.s .rF) (.j 11)) (.o (.f (.h ⟨232⟩ (.o (.s .o) (.o (.s .H) (.o (.s .E) .t)))))
  .t) .t)
  (.o (.g .V (.h .dQ (.o (.s .o) (.o (.F (.o (.t .nI) (.o (.t .s8) (.o (.t .vo) (.o (.t .rG) (.o (.t ⟨131⟩) (.o (.t .kB) .t))))))) .t))))
  (.o (.g .fj (.D (.g .In (.s .V) (.H (.o (.t .nI) (.o (.t .kB) .t)))) (.j 2) (.j 1)))
  (.o (.f (.G .jt (.o (.h ⟨129⟩ (.o (.s .V) .t)) (.o (.z (.h .bD (.o (.s .o) (.o (.s .z) (.o (.s .H) (.o (.C .s (.s .W) (.j 1)) (.o (.s .E) .t)))))) [.iU] (.c (.s .fj))) .t))))
  .t)))))))))))⟩
def IV:Fn:=⟨[⟨172⟩],(.o (.r .o .z (.h ⟨228⟩ (.o (.s ⟨172⟩) .t)) (.G .ik .t))
  (.o (.g .fB (.E .kC (.o (.z (.H (.o (.h ⟨129⟩ (.o (.s .V) .t)) (.o (.s .V) .t))) [.V] (.F (.F (.o (.t .nI) (.o (.t .s8) (.o (.t .vo) (.o (.t .rG) (.o (.t ⟨131⟩) (.o (.t .kB) .t))))))))) .t)))
  (.o (.j [.iU] (.c (.j 2)) (.o (.g .f (.h .fP (.o (.s .o) (.o (.s .z) (.o (.F .t) (.o (.j 5) (.o (.J hY (.F (.o (.j 11) (.o (.F (.o (.h ⟨244⟩ (.o (.t .LH) .t)) (.o (.h ⟨244⟩ (.o (.t .LH) .t)) .t))) .t)))) .t)))))))
  (.o (.g ⟨18⟩ (.h .c7 (.o (.s .f) (.o (.s .fB) .t))))
  (.o (.j [⟨108⟩] (.c (.j 2)) (.o (.g .f (.D (.g .Eq (.h .bh (.o (.s .o) (.o (.j 2) .t))) (.j 0)) (.h ⟨160⟩ (.o (.s .f) .t)) (.h ⟨191⟩ (.o (.s .f) .t))))
  (.o (.v (.N (.o (.v (.h .c8 (.o (.s .f) (.o (.F .t) (.o (.J hY (.F .t)) .t))))) (.o (.g .NotEq (.h .c7 (.o (.s .f) (.o (.s .fB) .t))) (.s ⟨18⟩)) .t))) (.o (.f (.q np))
  .t) .t)
  .t)))
  .t))))
  (.o (.f (.q hY))
  .t))))⟩
def yj:qe (lS×Fn):=[
 (.y .X .u,kU),
 (.y .X .aU,gJ),
 (.y .jZ .r,tj),
 (.y .ju .r,tf),
 (.y .iM .r,rX),
 (.y .cE .r,pb),
 (.y .cE .u,mR),
 (.y .cE .aU,jK),
 (.y .bO .r,oI),
 (.y .bO .u,l6),
 (.y .bO .aU,jx),
 (.y .s9 .r,yC),
 (.y .s9 .u,yD),
 (.y .s9 .aU,om),
 (.y .cC .r,rW),
 (.y .cC .u,pd),
 (.y .cC .aU,kG),
 (.y .cC .dC,mT),
 (.y .cC ⟨139⟩,yB),
 (.y .fX .r,uP),
 (.y .fX .u,tu),
 (.y .fX .aU,l9),
 (.y .jJ .r,vW),
 (.y .jJ .u,vq),
 (.y .jJ .aU,mS),
 (.y .jt .r,uN),
 (.y .jt .u,te),
 (.y .jt .aU,l7),
 (.y .lY .r,vX),
 (.y .lY .u,Ep),
 (.y .lY .aU,uO),
 (.r ⟨272⟩,ou),
 (.r ⟨202⟩,p0),
 (.r ⟨218⟩,yR),
 (.r .gV,EO),
 (.y .dJ .r,fH),
 (.y .N .r,uM),
 (.r ⟨244⟩,pw),
 (.r ⟨243⟩,vD),
 (.r ⟨193⟩,Bq),
 (.y .O .r,l8),
 (.y .O .gU,pe),
 (.y .O .eZ,lB),
 (.y .O .nH,ti),
 (.r .fk,yS),
 (.r .fQ,bI),
 (.r ⟨214⟩,r6),
 (.r ⟨129⟩,CO),
 (.r ⟨253⟩,tW),
 (.r ⟨217⟩,nU),
 (.r ⟨241⟩,mh),
 (.r ⟨274⟩,ot),
 (.r .ja,Bp),
 (.y .fG .r,rm),
 (.y .fG .eh,jP),
 (.r ⟨277⟩,mY),
 (.y .eJ .r,ro),
 (.y .eJ ⟨157⟩,jR),
 (.y .eJ .eh,jQ),
 (.r ⟨160⟩,EP),
 (.y .b9 .r,pg),
 (.y .b9 ⟨242⟩,j8),
 (.y .b9 .eh,bP),
 (.y .b9 ⟨263⟩,eH),
 (.r ⟨191⟩,Br),
 (.y .ik .r,gK),
 (.y .ik .fc,mE),
 (.r ⟨228⟩,tV),
 (.r .bh,jA),
 (.r .dQ,pt),
 (.r .a8,jz),
 (.r .bY,tU),
 (.r ⟨235⟩,tS),
 (.r .dI,tT),
 (.r .bX,eI),
 (.r .dR,eR),
 (.r .bf,cZ),
 (.r .K,fR),
 (.r ⟨251⟩,gw),
 (.r .c7,cu),
 (.r .c8,gj),
 (.r ⟨232⟩,kZ),
 (.r .fP,jf),
 (.r ⟨261⟩,g5),
 (.r ⟨271⟩,ix),
 (.r ⟨211⟩,kh),
 (.r ⟨229⟩,jB),
 (.r .bD,cW),
 (.r .rH,IV)
]
def jo(f:lS):qk Fn:=(yj.find? λp=>decide<|p.1=f).map (·.2)
end
section
open PySem PySem.W PySem.Calls PyProof.Rows
noncomputable def BY:qe xC:=amj.main.body
noncomputable def VZ:m8:=⟨"", "",⟨[],[],ft,[],[],ft,[]⟩,[],⟨.function,[],np,np,[]⟩⟩
def WB(q:Str)(p:xC):m8:=ahr (λc=>m8) p (λn a b c c c s c c c=>⟨n,q++n,a,b,s⟩) (λc c c c c c c c c c c=>VZ) λc=>VZ
def mZ(i:qc):m8:=match BY[i]? with
 |some p=>WB "" p
 |none=>VZ
def ld(i j:qc):m8:=match BY[i]? with
 |some p=>ahr (λa=>m8) p (λa a a a a a a a a a=>VZ) (λn a a b a a a a a a a=>match b[j]? with|some p=>WB (n++ ".") p|none=>VZ) λa=>VZ
 |none=>VZ
def ky:qe (lS×m8):=[
 (.y .X .u,ld 14 1),
 (.y .X .aU,ld 14 2),
 (.y .jZ .r,ld 15 1),
 (.y .ju .r,ld 16 1),
 (.y .iM .r,ld 17 1),
 (.y .cE .r,ld 18 1),
 (.y .cE .u,ld 18 2),
 (.y .cE .aU,ld 18 3),
 (.y .bO .r,ld 19 1),
 (.y .bO .u,ld 19 2),
 (.y .bO .aU,ld 19 3),
 (.y .s9 .r,ld 20 1),
 (.y .s9 .u,ld 20 2),
 (.y .s9 .aU,ld 20 3),
 (.y .cC .r,ld 21 1),
 (.y .cC .u,ld 21 2),
 (.y .cC .aU,ld 21 3),
 (.y .cC .dC,ld 21 4),
 (.y .cC ⟨139⟩,ld 21 5),
 (.y .fX .r,ld 22 1),
 (.y .fX .u,ld 22 2),
 (.y .fX .aU,ld 22 3),
 (.y .jJ .r,ld 23 1),
 (.y .jJ .u,ld 23 2),
 (.y .jJ .aU,ld 23 3),
 (.y .jt .r,ld 24 1),
 (.y .jt .u,ld 24 2),
 (.y .jt .aU,ld 24 3),
 (.y .lY .r,ld 25 1),
 (.y .lY .u,ld 25 2),
 (.y .lY .aU,ld 25 3),
 (.r ⟨272⟩,mZ 26),
 (.r ⟨202⟩,mZ 27),
 (.r ⟨218⟩,mZ 29),
 (.r .gV,mZ 30),
 (.y .dJ .r,ld 37 0),
 (.y .N .r,ld 40 0),
 (.r ⟨244⟩,mZ 46),
 (.r ⟨243⟩,mZ 47),
 (.r ⟨193⟩,mZ 50),
 (.y .O .r,ld 53 0),
 (.y .O .gU,ld 53 1),
 (.y .O .eZ,ld 53 3),
 (.y .O .nH,ld 53 6),
 (.r .fk,mZ 54),
 (.r .fQ,mZ 55),
 (.r ⟨214⟩,mZ 56),
 (.r ⟨129⟩,mZ 60),
 (.r ⟨253⟩,mZ 61),
 (.r ⟨217⟩,mZ 64),
 (.r ⟨241⟩,mZ 65),
 (.r ⟨274⟩,mZ 66),
 (.r .ja,mZ 67),
 (.y .fG .r,ld 69 0),
 (.y .fG .eh,ld 69 1),
 (.r ⟨277⟩,mZ 70),
 (.y .eJ .r,ld 71 0),
 (.y .eJ ⟨157⟩,ld 71 1),
 (.y .eJ .eh,ld 71 2),
 (.r ⟨160⟩,mZ 72),
 (.y .b9 .r,ld 76 0),
 (.y .b9 ⟨242⟩,ld 76 1),
 (.y .b9 .eh,ld 76 2),
 (.y .b9 ⟨263⟩,ld 76 4),
 (.r ⟨191⟩,mZ 77),
 (.y .ik .r,ld 79 0),
 (.y .ik .fc,ld 79 1),
 (.r ⟨228⟩,mZ 81),
 (.r .bh,mZ 82),
 (.r .dQ,mZ 83),
 (.r .a8,mZ 84),
 (.r .bY,mZ 85),
 (.r ⟨235⟩,mZ 86),
 (.r .dI,mZ 87),
 (.r .bX,mZ 88),
 (.r .dR,mZ 89),
 (.r .bf,mZ 90),
 (.r .K,mZ 91),
 (.r ⟨251⟩,mZ 92),
 (.r .c7,mZ 93),
 (.r .c8,mZ 94),
 (.r ⟨232⟩,mZ 95),
 (.r .fP,mZ 96),
 (.r ⟨261⟩,mZ 97),
 (.r ⟨271⟩,mZ 98),
 (.r ⟨211⟩,mZ 99),
 (.r ⟨229⟩,mZ 100),
 (.r .bD,mZ 101),
 (.r .rH,mZ 102)
]
def mP(f:lS):m8:=((ky.find? λp=>decide<|p.1=f).map (·.2)).getD VZ
noncomputable def Uz(e:qu):AV:=ajM (λa=>AV) e (λa a=>.u) (λa a a=>.u) (λi a a=>.j i) (λx a a=>.t x) (λi a a a=>.j (-i)) λa=>.u
noncomputable def Mm(e:qu):qe qu:=ait (λa=>qe qu) e (λes a a=>es) λa=>[]
def UZ(s:xC):qe qu:=Mm<|sk s 0
def j6:qe (qe AV):=(match BY[59]? with|some s=>UZ s|none=>[]).map λe=>(Mm e).map Uz
end
section
open PySem PySem.W PySem.Calls PyProof.Rows
open PySem.W.Fast (sEq sEq_iff)
def Hh:qe AV:=[(⟨187⟩:Nm),.j,.T,⟨55⟩,⟨115⟩,⟨266⟩].map λn=>.t n.t
def lQ(l:qe AV):qe AV->qw:=@List.rec AV (λc=>qe AV->qw) (λm=>m.isEmpty) (λa c ih m=>@List.rec AV (λc=>qw) np (λb m c=>avQ a b&&ih m) m) l
theorem Wc:∀{l m:qe AV},lQ l m=hY->l=m
 |[],[],_=>rfl
 |[],_::_,h=>by cases h
 |_::_,[],h=>by cases h
 |a::l,b::m,h=>by
  have h:(avQ a b&&lQ l m)=hY:=h;rw[qz]at h;rw[P8 h.1,Wc h.2]
def Mn(o:qk Obj)(l:qe AV):qw:=match BU o with|some m=>lQ m l|none=>np
theorem Hz(h:Mn o l=hY):BU o=dA l:=by
 unfold Mn at h;cases e:BU o with
 |none=>rw[e]at h;cases h
 |some m=>rw[e]at h;rw[Wc h]
def adJ(g:Gt)(l:qe AV):AV->qw
 |.d a=>(Al g a).isNone&&Mn (g a) l
 |_=>np
noncomputable def QV(g:Gt):qe AV->qe (qe AV)->qw
 |[],[]=>hY
 |v::vs,l::ls=>adJ g l v&&QV g vs ls
 |_,_=>np
def ye(g:Gt):qw:=(Al g (gR g).n).isNone&&Mn (g (gR g).n) Hh&&(Al g (gR g).J).isNone&&(match BU (g (gR g).J)with|some vs=>QV g vs j6|none=>np)
def qv:ZO:=view vQ [102]
def loose:qe Str:=(vQ.main.body.flatMap bindsAtTop).eraseDups.filter λx=>!(x==Zq "law")
abbrev AX:=@PySem.W.Fast.tw4187177175401517315
theorem Cj:@openSeen=@AX:=PySem.W.Fast.te4187177175401517315
def fS{β:Type}(r:xw)(k:qy->β):β:=kL (r.tree.list r.n) λl=>k ⟨⟨⟨l⟩,r.life⟩,r.gens,r.drawn,r.toks,r.os⟩
theorem afA(r:xw)(k:qy->β):fS r k=k r.abs:=OG _ _
noncomputable def KD(T:BT)(n:qc)(a:qc):qk Obj:=match zO a n with
 |true=>aiL<|(T.get a).getD default
 |false=>ft
theorem TX(r:xw):r.abs.heap.get?=KD r.tree r.n:=by
 funext a;unfold Heap.get? KD SharedT.abs;rw[absHeap_at];cases e:zO a r.n with
 |false=>rw[if_neg λ(q:a<r.n)=>by rw[show zO a r.n=hY from aip q]at e;cases e]
 |true=>
  rw[qK (show a<r.n from xo e)];show(match dA ((r.tree.get a).getD default)with|some ⟨_,_,.freed,_⟩=>ft|o=>o)=aiL _
  generalize(r.tree.get a).getD default=o;obtain⟨c,d,b,f⟩:=o;cases b<;>rfl
def aii(h₀:Heap)(s:qy):qw:=staticsOk (Zm vQ.main.body) h₀ s.heap&&amc vQ s.heap&&gensDone s&&laidKept h₀ s.heap
def E1(g:Gt):qe m8:=ky.map λp=>yW<|g (Ua g p.1)
end
section
open PySem PySem.W PySem.Calls PyProof.Rows
theorem M7(w:Zu)(os:ahO):(JS vQ w 11 11400 (Jl w os) (topStub vQ)).map (λr=>fS r λs=>(aii (ZL w.params) s,AX qv loose (Zm vQ.main.body) (λa=>hY) hY s))=dA (hY,openGood qv loose):=by kernel_rfl
theorem Nc(w:Zu)(os:ahO):(JS vQ w 11 11400 (Jl w os) (topStub vQ)).map (λr=>(Vr (KD r.tree r.n)&&RA (KD r.tree r.n)&&ye (KD r.tree r.n),E1 (KD r.tree r.n)))=dA (hY,ky.map (·.2)):=by kernel_rfl
theorem To:∃d:DefRec,∃kwd,defOf qv (Zq "law")=dA (d,kwd)/\vQ.theDef (Zq "law")=dA (d.params,d.body,d.scope)/\kwWritten? d.params.kwonlyargs d.params.kw_defaults=dA kwd/\d.name=Nm.rH.t:=by
 refine⟨_,_,dq,dq,dq,?_⟩
 decide+kernel
theorem NL:(chainsOk qv&&opensWell vQ&&(frees xk.row.toRowW&&xk.row.within.isEmpty))=hY:=by decide+kernel
end
section
open PySem PySem.W PySem.Calls PyProof.Rows PySem.SeqAt
theorem fu.H{st:St}(I:fu W st s)(tk:qc):fu W st {s with toks:=tk}:=⟨I.h,I.a⟩
theorem pW(p:Nm×α)(l:qe (Nm×α))(y:Nm):fm (p::l) y=if p.1=y then dA p.2 else fm l y:=by
 unfold fm;rw[act];by_cases q:p.1=y
 ·rw[qK q,zK.mpr q];rfl
 ·rw[if_neg q,zN q]
theorem Ka(l:qe (Nm×AV))(x:Nm)(v:AV)(y:Nm):fm (kM l x v) y=if y=x then dA v else fm l y:=by
 induction l with
 |nil=>
  refine(pW (x,v) [] y).trans ?_;by_cases q:x=y
  ·rw[qK q,qK q.symm]
  ·rw[if_neg q,if_neg<|aeR q]
 |cons p l ih=>
  show fm (if p.1=x then(x,v)::l else p::kM l x v) y=_
  rw[pW];by_cases q:p.1=x
  ·rw[qK q,pW];by_cases z:x=y
   ·rw[qK z,qK z.symm]
   ·rw[if_neg z,if_neg<|aeR z,if_neg<|q▸z]
  ·rw[if_neg q,pW,ih];by_cases z:p.1=y
   ·rw[qK z,qK z,if_neg<|z▸q]
   ·rw[if_neg z,if_neg z]
theorem Lj(r:attrs l m)(a:x.t∈J2)(e:ab v'=dA v):attrs (kM l x v) (λy=>if y=x.t then dA v' else m y):=by
 refine⟨λy=>?_,λy h=>?_⟩
 ·rw[Ka];by_cases q:y=x
  ·rw[qK q];exact(qh (q0 ab)<|qK (qh Nm.t q)).trans (qh dA e)
  ·rw[if_neg q];exact(qh (q0 ab)<|if_neg λz=>q<|Nm.hV.mp z).trans (r.1 y)
 ·by_cases q:y=x.t
  ·exact q▸a
  ·exact r.2 y λz=>h<|(if_neg q).trans z
section
variable{W:Wd}{st:St}{a:qc}{c:Nm}{A:xu}{E:qo->qy->Prop}{s:qy}
theorem MT(O:W.g)(I:fu W st s)(e:st a=dA (.f c dx l))(S:cR c x=ft)(T:x≠.w)(M:mG x=hY)(P:c≠.bM)(N:ab v'=dA v)
  (k:∀h' tk,fu W (st.H a<|.f c dx (kM l x v)) {s with heap:=h',toks:=tk}->Sf fl st s.heap (st.H a<|.f c dx (kM l x v)) h'->Q () {s with heap:=h',toks:=tk}):
  qU (vl W.a W.w) A (setAttr (.ref a) x.t v') Q E s:=by
 obtain⟨C,g,d,t,os⟩:=s;cases instAt_of I.h e with|mk od m G n r ho hl hc=>
 obtain⟨cd,J,B,hd⟩:=p5 O hc;have X:W.K.In C:=I.h.j;obtain⟨_,p,_,j⟩:=so M;have U:aiQ W.K (.ref<|W.k c) x.t=dA ft:=by rw[lE O hc,y4 O hc S T,p];rfl
 have u:plainOver W.K (W.k c)=hY:=by
  unfold plainOver;rw[J,Option.any_some,B];unfold Ei upW;cases hO c<;>rfl
 refine set_plain I.h.j G (pZ O hc (.tail _<|.tail _ (.head _)) (by decide+kernel)) ?_
 refine osa_open (s:=⟨C,g,d,t+1,os⟩) (R:=λr s'=>match r with|.ok (.ret _)=>Q () s'|.ok _=>False|.error e=>E e s') I.h.j G u (by unfold takerIn;rw[U];rfl) λb=>?_
 have i:C.get? a=dA (acj (W.k c) dx):=G.at_;refine qE<|qW (qE<|qE (wpAny_loadPart i<|qE ((looks_clsIn X J).at ?_)));rw[hd];refine qW (a:=dA dx)<|qE (qW<|qE (wpAny_nsSet1 n λh' H f=>?_));obtain⟨oD,V,Y,y,D,F⟩:=H.count<|Within.cons x.t v' r.2;refine qE<|wpAny_lookBehind y (by rw[D];exact pastItsLine_dict<|qg F (by rw[ajT,sizeLine_eq,uK];decide)) ?_
 have IC:a≠dx:=λz=>I.h.g _ _ e (show a∈[dx]from z▸.head _);have L:W.b.heap.get? dx=ft:=(show _\/_ from I.h.f _ _ e).elim (λz=>qH z P) λz=>z.2;obtain⟨I',Z⟩:=pH (l:=fl) (c':=.f c dx<|kM l x v) I.h e CK (λb o hb q=>(f.2 b hb).trans q) ⟨(f.2 a IC).trans i,hc,_,H,Lj r j N⟩ rfl (show young W a (.f c dx l)from I.h.f _ _ e) L;exact qW<|k _ _ ⟨I',I.a⟩ Z
theorem td(h:v=.ref (W.k c)\/v=.type "object"):(Ei W c).contains v=hY:=by
 unfold Ei upW;rw[xd];rcases h with h|h
 ·exact h▸.head _
 ·exact h▸.tail _ (qJ _<|.head _)
theorem BF(O:W.g)(hc:gd c=hY):ahx W.K (.ref (W.k c)) "__call__" =dA (dA (.builtin "type.__call__")):=by
 unfold specialIn;rw[rM O hc];show fastLookup "type" "__call__" =_;decide+kernel
theorem Tb(O:W.g)(hc:gd c=hY)(X:W.K.In h):Makes M h (W.k c):=by
 refine makes_of X ?_;cases(O.a c hc).1.p with|mk od g f e d hd ha a b n=>
 unfold makesIn;rw[eQ,e]
 have h2:instIn W.K (.ref (W.k c)) (.type "type")=dA hY:=by
  unfold instIn;rw[rM O hc];show(fastBuiltinMro "type").map _=_;decide+kernel
 dsimp only;rw[ha,a,b,d,BF O hc,h2,td (.inl dq),td (.inr dq)];exact(show(!np&&!np&&(dA (Zg "object.__new__")==dA (Zg "object.__new__"))&&!np&&hY&&hY&&(dA (dA (Zg "type.__call__"))==dA (dA (Zg "type.__call__")))&&(dA hY==dA hY))=hY by decide+kernel)
theorem J8(O:W.g)(hc:gd c=hY)(n:cR c .r=dA (.y c .r))(I:fu W st s){R:Result->qy->Prop}
  (k:∀x dx h',st x=ft->fu W (st.H x (.f c dx [])) {s with heap:=h'}->Sf fl st s.heap (st.H x (.f c dx [])) h'->
   acn (vl W.a W.w) (A.under (.builtin "type.__call__" ⟨.ref (W.k c)::rest,[]⟩)) (.call (.ref (W.d (.y c .r))) ⟨.ref x::rest,[]⟩) (InitBack x R) {s with heap:=h'}):
  acn (vl W.a W.w) A (.call (.ref<|W.k c) ⟨rest,[]⟩) R s:=by
 obtain⟨d0,r,p,e⟩:=lG O hc n;cases r;have F:=(je O e).2;obtain⟨h,g,d,t,os⟩:=s;have X:=I.h.j;refine make_core (init:=.ref<|W.d (.y c .r)) (Tb O hc X) (looks_findIn X (by rw[lE O hc];exact qh (λz=>dA<|Option.or z _) p)) (λself=>bind_fn X self<|pY F) (.inl dq) ?_
 have keeps:∀b o,h.get? b=dA o->((h.push aiM).push (acj (W.k c) h.objs.size)).get? b=dA o:=λb o q=>qQ _<|qQ _ q
 have j:((h.push aiM).push (acj (W.k c) h.objs.size)).get? (h.objs.size+1)=dA (acj (W.k c) h.objs.size):=by
  have:=wt (h.push aiM) (o:=acj (W.k c) h.objs.size) dq;rwa [Bi]at this
 have m:((h.push aiM).push (acj (W.k c) h.objs.size)).Ns1 h.objs.size λf=>ft:=Heap.Ns1.of_empty ((Heap.Ns.new h (.type "dict")).push _)
 obtain⟨i,v,u⟩:=Fk (l:=fl) (a:=h.objs.size+1) (c:=.f c h.objs.size []) I.h keeps (λb hb=>iT ((qG.mp hb).elim (λz=>z▸xO _) λz=>qD.mp z▸qm _))
  ⟨j,hc,_,m,λf=>dq,λf h=>qH dq h⟩ λz=>qH (qD.mp z)<|aj7 _
 exact k _ _ _ i ⟨v,I.a⟩ u
end
def nY(W:Wd)(c:Nm):qo:=match Fd c with
 |some v=>v
 |none=>.ref<|W.k c
section
variable{W:Wd}{st:St}{A:xu}{E:qo->qy->Prop}{s:qy}
theorem tZ(h:gd c=hY):nY W c=.ref (W.k c):=by
 have this:Fd c=ft:=xm.mp<|qV.mp (show(E6.all λc=>(Fd c).isNone)=hY by decide+kernel) c (xd.mp h)
 unfold nY;rw[this]
theorem abB(h:gd c=hY):(c==.gX)=np/\(c==.iL)=np/\(c==.B)=np:=by
 have:=qV.mp (show(E6.all λc=>!(c==.gX)&&(!(c==.iL)&&!(c==.B)))=hY by decide+kernel) c<|xd.mp h
 rw[qz,qz,xc,xc,xc]at this;exact this
theorem lW(h:oZ c=hY):gd c=hY\/c=.gX\/c=.iL\/c=.B:=by
 unfold oZ at h;rw[Zi,Zi,Zi,zK,zK,zK,or_assoc,or_assoc]at h;exact h
theorem Tr(O:W.g){c:Nm}(hc:oZ c=hY){t:qo}{m:qe qo}(b:m.contains t=hY)(a:∀v,subIn W.K t v=dA (m.contains v)):kitOne W.K t (nY W c)=dA (m.contains (nY W c)):=by
 unfold kitOne;by_cases q:(t==nY W c)=hY
 ·rw[qK q,←eq_of_beq q,b]
 ·rw[if_neg q];rcases lW hc with h|h|h|h
  ·obtain⟨f,d,_⟩:=p5 O h;rw[tZ h];unfold kitCls;dsimp only;rw[qK (by rw[d,rM O h];rfl)];exact a _
  ·subst h;exact(qK (e:=(ft:qk qw)) (show kitMeta "bool" =hY by decide+kernel)).trans (a _)
  ·subst h;exact(qK (e:=(ft:qk qw)) (show kitMeta "int" =hY by decide+kernel)).trans (a _)
  ·subst h;exact(qK (e:=(ft:qk qw)) (show kitMeta "list" =hY by decide+kernel)).trans (a _)
theorem Ki{t:qo}{p:Nm->qw}{cs:qe Nm}(h:∀c∈cs,kitOne W.K t (nY W c)=dA (p c)):kitAny W.K t (cs.map (nY W))=dA (cs.any p):=by
 induction cs with
 |nil=>rfl
 |cons c cs ih=>
  show(match kitOne W.K t (nY W c)with|some hY=>dA hY|some np=>kitAny W.K t (cs.map<|nY W)|none=>ft)=dA (p c||cs.any p)
  rw[h c (.head _)];cases p c with
  |true=>rfl
  |false=>exact ih λc hc=>h c<|.tail _ hc
def Qt(W:Wd)(A:xu)(s:qy)(E:qo->qy->Prop)(Q:qo->qy->Prop)(cs:qe Nm)(v:qo):Prop:=(∀c,cs=[c]->qU (vl W.a W.w) A (call (.builtin "isinstance") [v,nY W c]) Q E s)/\
  ∀a n b dd,s.heap.get? a=dA ⟨.type "tuple",dd,.seq (cs.map (nY W)).toArray n,b⟩->qU (vl W.a W.w) A (call (.builtin "isinstance") [v,.ref a]) Q E s
theorem OL(O:W.g)(X:W.K.In s.heap){cs:qe Nm}(f:∀c∈cs,oZ c=hY){v t:qo}{H:Heap->Prop}{m:qe qo}{p:Nm->qw}{Q:qo->qy->Prop}(Z:KitX W.K v t H)(e:H s.heap)(b:v≠.builtin "__main__.__loader__#opaque")(g:m.contains t=hY)(i:∀v,subIn W.K t v=dA (m.contains v))
  (h:∀c,oZ c=hY->m.contains (nY W c)=p c)(k:∀tk,Q (.bool<|cs.any p) {s with toks:=tk}):Qt W A s E Q cs v:=by
 have d:∀c∈cs,kitOne W.K t (nY W c)=dA (p c):=λc hc=>(Tr O (f c hc) g i).trans (qh dA<|h c (f c hc));refine⟨λc hc=>?_,λj n l dd a=>kia_tup Z X e a (Ki d) b k⟩;subst hc;exact kia_one Z X e (d c<|.head _) b λtk=>by have:=k tk;rwa [show[c].any p=p c from acO _]at this
theorem ww(O:W.g)(X:W.K.In s.heap){cs:qe Nm}(g:∀c∈cs,oZ c=hY){v:qo}{T:acr}{H:Heap->Prop}{Q:qo->qy->Prop}(Z:KitX W.K v (.type T) H)(f:H s.heap)(a:v≠.builtin "__main__.__loader__#opaque"){m:qe acr}(d:fastBuiltinMro T=dA (m.map .type))(b:m.contains T=hY)
  (k:∀tk,Q (.bool (cs.any λc=>(c==.gX&&m.contains "bool")||((c==.iL&&m.contains "int")||(c==.B&&m.contains "list")))) {s with toks:=tk}):Qt W A s E Q cs v:=by
 have cm:∀x:acr,(m.map ZU).contains (.type x)=m.contains x:=λx=>by
  rw[Zj,xd,xd,xf];exact⟨λ⟨_,h,e⟩=>aih e▸h,λh=>⟨x,h,rfl⟩⟩
 refine OL O X g Z f a ((cm T).trans b) (λv=>by show(fastBuiltinMro T).map _=_;rw[d];rfl) (λc hc=>?_) k
 rcases lW hc with h|h|h|h
 ·obtain⟨e1,e2,e3⟩:=abB h;rw[tZ h,e1,e2,e3]
  exact aaD.mpr λz=>by
   obtain⟨_,_,e⟩:=xf.mp<|xd.mp z;cases e
 ·subst h;refine(cm "bool").trans ?_;cases m.contains "bool" <;>rfl
 ·subst h;refine(cm "int").trans ?_;cases m.contains "int" <;>rfl
 ·subst h;refine(cm "list").trans ?_;cases m.contains "list" <;>rfl
theorem C8{cs:qe Nm}{p q:Nm->qw}(h:∀c,p c=q c){Q:qo->qy->Prop}(k:∀tk,Q (.bool (cs.any q)) {s with toks:=tk}):∀tk,Q (.bool (cs.any p)) {s with toks:=tk}:=by rwa [show p=q from funext h]
theorem Bb(O:W.g)(I:fu W st s){cs:qe Nm}(i:∀c∈cs,oZ c=hY){av:AV}{v:qo}(g:ab v=dA av){b:qw}(e:Ho st cs av b){Q:qo->qy->Prop}(k:∀tk,Q (.bool b) {s with toks:=tk}):Qt W A s E Q cs v:=by
 have X:=I.h.j;cases e with
 |q=>
  obtain rfl:=ue g;exact ww O X i kitx_bool oy (λz=>nomatch z) (m:=["bool", "int", "object"]) (by decide+kernel) dq (C8 (λc=>by show(c==Nm.gX&&hY||(c==Nm.iL&&hY||c==Nm.B&&np))=_;rw[xn,xn,zq,acO]) k)
 |j=>
  obtain⟨t,rfl⟩:=fI g;exact ww O X i kitx_int oy (λz=>nomatch z) (m:=["int", "object"]) (by decide+kernel) dq (C8 (λc=>by show(c==Nm.gX&&np||(c==Nm.iL&&hY||c==Nm.B&&np))=_;rw[zq,xn,zq,acO,abn]) k)
 |F e=>
  obtain rfl:=bT g;obtain⟨vs,n,hl,_⟩:=I.h.E _ _ e;exact ww O X i kitx_list ⟨_,hl,dq⟩ (λz=>nomatch z) (m:=["list", "object"]) (by decide+kernel) dq (C8 (λc=>by show(c==Nm.gX&&np||(c==Nm.iL&&np||c==Nm.B&&hY))=_;rw[zq,zq,xn,abn,abn]) k)
 |H e=>
  obtain rfl:=bT g;obtain⟨vs,n,hl,_⟩:=I.h.E _ _ e;exact ww O X i kitx_tuple ⟨_,hl,dq⟩ (λz=>nomatch z) (m:=["tuple", "object"]) (by decide+kernel) dq (C8 (λc=>by show(c==Nm.gX&&np||(c==Nm.iL&&np||c==Nm.B&&np))=_;rw[zq,zq,zq];rfl) k)
 |@f a d dx l e=>
  obtain rfl:=bT g;cases instAt_of I.h e with|mk od m B n r C hl hd=>
  obtain⟨D,u,o,p⟩:=p5 O hd
  have q:∀v,mroIn W.K (W.k d) v=dA ((Ei W d).contains v):=λv=>by
   unfold mroIn;rw[u,Option.bind_some,o];rfl
  refine OL O X i (kitx_own (od:=od) ?_ ?_ ?_ ?_ ?_ ((q _).trans (qh dA<|td (.inr dq)))) B (λz=>nomatch z) (td<|.inl dq) q (λc hc=>?_) k
  ·unfold plainGet;rw[O7 O hd,aaO O hd];rfl
  ·unfold hasDictIn;rw[u];exact p
  ·exact pZ O hd (.tail _<|.tail _ (.tail _<|.head _)) (by decide+kernel)
  ·show acG "getset_descriptor" "__get__" =_;decide+kernel
  ·unfold takesIn;rw[show specialIn W.K (.builtin "object.__class__") "__set__" =some (some (.builtin "getset_descriptor.__set__"))from by show fastLookup "getset_descriptor" "__set__" =_;decide+kernel]
  ·have key:((Ei W d).contains (nY W c)=hY)↔(c=d\/(iq d=hY/\c=.X)):=by
    rw[xd];unfold Ei upW;rw[qG,qY,qD];rcases lW hc with h|h
    ·rw[tZ h];constructor
     ·rintro (e|e|e)
      ·exact .inl<|O.inj _ _ h hd (acv e)
      ·cases f:hO d with
       |true=>
        rw[f]at e;exact .inr ⟨(q8.mp f).1,O.inj _ _ h pT<|acv (qD.mp e)⟩
       |false=>rw[f]at e;cases e
      ·cases e
     ·rintro (e|⟨e1,e2⟩)
      ·exact .inl<|e▸dq
      ·subst e2;by_cases z:d=.X
       ·exact .inl<|z▸dq
       ·have f:hO d=hY:=q8.mpr ⟨e1,zJ.mpr z⟩;rw[f];exact .inr<|.inl (.head _)
    ·have w:∀x:acr,x≠ "object" ->¬(ZU x=.ref (W.k d)\/ZU x∈(if hO d=hY then[Bn (W.k .X)]else[])\/ZU x=.type "object"):=λx y z=>by
      rcases z with z|z|z
      ·cases z
      ·cases f:hO d with
       |true=>rw[f]at z;cases qD.mp z
       |false=>rw[f]at z;cases z
      ·exact y<|aih z
     have j:gd c=np:=by rcases h with h|h|h<;>exact h▸by decide+kernel
     refine⟨λz=>?_,λz=>?_⟩
     ·rcases h with h|h|h<;>(subst h;exact(w _ (by decide) z).elim)
     ·rcases z with z|z
      ·rw[z,hd]at j;cases j
      ·rw[z.2,pT]at j;cases j
   rw[Zj,key,Zi,qz,zK,zK]
end
section
variable{W:Wd}{st:St}{A:xu}{E:qo->qy->Prop}{s:qy}{fl:qe Env}
theorem bu{vs:Array qo}{l:qe AV}(h:abs vs.toList l):vs.size=l.length:=by
 have:=ud h;rwa [acL]at this
theorem gp{α:Type}{l:qe α}(h:l.length<aH):l.length<=ahV:=by rw[sizeLine_eq];exact qg (xB h) (by decide)
theorem rJ{i:qd}(h:jn i):Builtin.Int.intBits i<=64:=by
 unfold jn at h;exact PySem.intBits_le_64 (by grind) (by grind)
theorem Li{op:Fy}{v w:AV}{v' w':qo}{Q:AV->St->Prop}(I:fu W st s)(d:ab v'=dA v)(c:ab w'=dA w)(h:u0 op v w Q st):
  qU (vl W.a W.w) A (binaryOp (adZ op) v' w') (QW W fl st s.heap Q) E s:=by
 obtain⟨t,rfl⟩:=i8 d;obtain⟨u,rfl⟩:=i8 c;induction h with
 |g q=>exact P.add_int<|QW.p I dq q
 |s q=>exact P.sub_int<|QW.p I dq q
 |e h q=>exact P.mul_int (QW.p I dq q)<|h.elim (λx=>.of_left<|rJ x) λx=>.of_right<|rJ x
 |c h k q=>exact AutoIntOps.floordiv_1 (λz=>Int.ne_of_gt h<|eq_of_beq z) (by rw[PyProof.noPylong_small (by exact alB h k)];exact qB)<|QW.p I dq q
 |d h q=>exact AutoIntOps.mod_1 (λz=>Int.ne_of_gt h<|eq_of_beq z)<|QW.p I dq q
 |f q=>exact AutoIntOps.pow_4 (by decide) (by decide) (by decide) (by decide) (by decide+kernel)<|QW.p I dq q
 |i f e n q=>
  obtain⟨vs,n1,hl,b⟩:=I.h.E _ _ f;obtain⟨ws,n2,g,a⟩:=I.h.E _ _ e;have:=QW.F (l:=fl) (tk:=s.toks) I (n8 b a) q;rw[show(vs.toList++ws.toList).toArray=vs++ws from by rw[←ais]]at this
  exact P.add_list hl g this (by rw[bu b,bu a,sizeLine_eq];exact qg (xB n) (by decide))
theorem J4{v:AV}{v':qo}{Q:AV->St->Prop}(I:fu W st s)(a:ab v'=dA v)(h:Y5 v Q st):
  qU (vl W.a W.w) A (unaryOp .USub v') (QW W fl st s.heap Q) E s:=by
 obtain⟨i,rfl,h⟩:=h;obtain⟨t,rfl⟩:=fI a;exact P.neg_int<|QW.p I dq h
theorem lp{v:AV}{Q:qw->Prop}(h:jl v Q):∃b,v=.q b/\Q b:=by
 cases v with
 |q b=>exact⟨b,dq,h⟩
 |_=>exact h.elim
theorem oP{v:AV}{v':qo}{Q:qw->Prop}{a:qw->qy->Prop}(c:ab v'=dA v)(h:jl v Q)(k:∀b,Q b->a b s):qU (vl W.a W.w) A (truthy v') a E s:=by
 obtain⟨b,rfl,h⟩:=lp h;obtain rfl:=ue c;exact afZ<|k _ h
theorem J1{v:AV}{v':qo}{Q:AV->St->Prop}(I:fu W st s)(a:ab v'=dA v)(h:jl v λb=>Q (.q !b) st):
  qU (vl W.a W.w) A (unaryOp .Not v') (QW W fl st s.heap Q) E s:=
 not_value (oP a h λb q=>QW.p I dq q)
theorem oR(O:W.g)(I:eM W st s.heap){a dx:qc}{l:qe (Nm×AV)}(e:st a=dA (.f .N dx l)):s.heap.CmpInst a (W.k .N) [.type "object"]:=by
 obtain⟨e1,e2,m,n,r⟩:=I.E _ _ e;cases(O.a _ e2).1.f with|mk nm q N bs sn sub col dd b k1 k2 k3 k5 d c=>
 have sp:=(O.a _ e2).1.g;exact⟨_,nm,q,N,bs,hY,sn,sub,np,col,dd,b,k1,k2,k3,k5, "object.__new__",W.e .N,e1,dq,I.i _ _ d,c.keeps I.i,sp _ (.tail _ (.tail _ (.tail _ (.tail _ (.head _))))),sp _ (.tail _ (.tail _ (.tail _ (.tail _ (.tail _ (.head _))))))⟩
theorem IsL.c{h:Heap}{a:zM}{vs:Array qo}{n:qc}(x:IsL h a vs n):h.IsList a vs:=⟨_,x,dq,n,dq⟩
theorem IsT.b{h:Heap}{a:zM}{vs:Array qo}{n:qc}(x:IsT h a vs n):h.IsTuple a vs:=⟨_,x,dq,n,dq⟩
theorem IsL.N{h:Heap}{a:zM}{l:qe AV}(x:∃vs n,IsL h a vs n/\abs vs.toList l):∃vs,h.IsList a vs/\abs vs.toList l:=x.elim λvs x=>x.elim λb x=>⟨vs,IsL.c x.1,x.2⟩
theorem nk(l b C:zM)(items:Array qo)(n:qc)(dd:qk zM)(f:Array (qk qo))(o a:Obj)(hc:o.cls=.ref C)(c:aaG)(hd:a.data=.cls c)(q:c.mro.isEmpty=np)(m:c.mro.contains (.type "tuple")=np):
  Meets (Builtin.«tuple.__eq__» ⟨[.ref l,.ref b],[]⟩) (λp R s=>s.heap.get? l=dA {cls:=.type "tuple",dict:=dd,data:=.seq items n,slots:=f}/\s.heap.get? b=dA o/\s.heap.get? C=dA a/\R (.ok (.ret .notImplemented)) s):=
 .of_wp λprog w A R s h=>by
  obtain⟨e,g,d,tk,os⟩:=s;obtain⟨hl,hb,hC,h⟩:=h;obtain⟨oc,od,j,i⟩:=a;simp only at hd;subst hd
  have sub:∀(Q:qw->qy->Prop) E A,Q np ⟨e,g,d,tk,os⟩->qU (vl prog w) A (isSubtype (.ref C) (.type "tuple")) Q E ⟨e,g,d,tk,os⟩:=λQ E A k=>by
   unfold isSubtype mroOf
   wp_walk using wpAny_loadPart' hC
   rw[m];exact k
  repeat (first|with_reducible apply aft hl|(with_reducible apply aft hb;rw[hc])|with_reducible refine sub _ _ _ ?_|wp_step)
  exact⟨_,dq,h⟩
theorem my{M:ahS}{T:acr}{C:zM}{mro:qe qo}{Q:qw->qy->Prop}(b:mroOf (.type T)=pure mro)(hc:mro.contains (.ref C)=np)(a:Q np s):
  qU M A (isSubtype (.type T)<|.ref C) Q E s:=by
 unfold isSubtype;rw[b]
 wp_walk
 rw[hc];exact a
theorem vj{a b C:qc}{items:Array qo}(X:s.heap.CmpInst a C [.type "object"])(hb:s.heap.IsTuple b items)(k:a≠b)(hu:A.units<ZI):RcAt A s (.ref a) (.ref b) np/\RcAt A s (.ref b) (.ref a) np:=by
 obtain⟨h,g,d,t,os⟩:=s;obtain⟨y,nm,q,N,bs,r,sn,sub,ab,col,dd,B,k1,k2,k3,k5,v,z,i,c,hC,_⟩:=id X;obtain⟨⟨u,m,x,l⟩,e,j,n2,o⟩:=id hb;simp only at j o;subst j o
 have n:∀prog w E,∀Q:qk qo->qy->Prop,Q ft ⟨h,g,d,t,os⟩->qU (vl prog w) A (tryCompare (.ref b) "__eq__" (.ref a)) Q E ⟨h,g,d,t,os⟩:=λprog w E Q f=>
  wpAny_tryCompare_declines (T:= "tuple") (id:= "tuple.__eq__") ⟨_,e,dq⟩ ajG (aby ajG ⟨_,e,dq⟩ F.entry_tuple_eq (F.args_tuple_eq_2 _ _) (nk b a C items n2 m l _ _ c _ dq dq dq) ⟨e,i,hC,dq,f⟩)
 refine⟨λprog w E Q f=>?_,λprog w E Q f=>?_⟩
 ·have e1:(Bn C !=ZU "tuple")=hY:=dq;have sub:=@my A E ⟨h,g,d,t,os⟩ (vl prog w) "tuple" C [.type "tuple",.type "object"];have p:mroOf (.type "tuple")=pure [.type "tuple",.type "object"]:=by kernel_rfl
  simp only[richCompare,cmpInfo_Eq,oneThing_ref]
  repeat (first|with_reducible refine wpAny_cRoomFor hu ?_|(with_reducible refine wpAny_loadPart_at i ?_;rw[c])|(with_reducible refine wpAny_loadPart_at e ?_)|(rw[if_pos e1])|with_reducible refine sub p rfl ?_|with_reducible refine tryCompare_eq_other PySem.F.cmp_object X e k ?_|with_reducible refine n _ _ _ _ ?_|with_reducible refine wpAny_isSame_ref_other k i e (by rw[c];simp) ?_|wp_step)
  exact f
 ·have e1:(ZU "tuple" !=Bn C)=hY:=dq;have sub:∀(Q:Bool->Shared->Prop),Q false ⟨h,g,d,t,os⟩->wpAny (model prog w) A (isSubtype (.ref C) (.type "tuple")) Q E ⟨h,g,d,t,os⟩:=λQ f=>wpAny_isSubtype_exc hC (by simpa using f)
  simp only[richCompare,cmpInfo_Eq,oneThing_ref]
  repeat (first|with_reducible refine wpAny_cRoomFor hu ?_|(with_reducible refine wpAny_loadPart_at i ?_;rw[c])|(with_reducible refine wpAny_loadPart_at e ?_)|(rw[if_pos e1])|with_reducible refine sub _ ?_|with_reducible refine tryCompare_eq_other PySem.F.cmp_object X e k ?_|with_reducible refine n _ _ _ _ ?_|with_reducible refine wpAny_isSame_ref_other' k.symm e i (by rw[c];simp) ?_|wp_step)
  exact f
theorem py{X:AV->AV->qw->Prop}{e:qo->qo->qw->Prop}{l m:qe AV}{vs ws:Array qo}{b:qw}(h1:abs vs.toList l)(h2:abs ws.toList m)(h:Hp X l m b)(k:∀x y v w b,X x y b->ab v=dA x->ab w=dA y->e v w b):
  ∃g:qc->qw,(∀j (h1:j<vs.size) (h2:j<ws.size),e vs[j] ws[j]<|g j)/\(zL<|min vs.size ws.size).all g=b:=by
 obtain⟨g,f,hb⟩:=h;rw[←bu h1,←bu h2]at hb
 have at_:∀{us:Array qo} {n:qe AV},abs us.toList n->∀j (h:j<us.size),∃x,n[j]?=dA x/\ab us[j]=dA x:=λ{us n} hu j h=>by
  have e:(us.toList.map ab)[j]?=(n.map dA)[j]?:=qh (·[j]?) hu;rw[xx,xx,xF,ahw h]at e;obtain⟨x,h1,h2⟩:=qS.mp e.symm;exact⟨x,h1,h2.symm⟩
 exact⟨g,λj a b=>(at_ h1 j a).elim λx d=>(at_ h2 j b).elim λy c=>k x y _ _ _ (f j x y d.1 c.1) d.2 c.2,hb⟩
def acl(A:xu)(s:qy)(v w:AV)(v' w':qo)(b:qw):Prop:=EqAt A s v' w' b/\((∀a,v=.d a->w≠.d a)->RcAt A s v' w' b)
theorem KK(O:W.g)(I:eM W st s.heap){X:AV->AV->qw->Prop}{v w:AV}{v' w':qo}{b:qw}(h:u9 X st v w b)(q:ab v'=dA v)(p:ab w'=dA w)(hu:A.units<ZI)(ih:∀x y v w b,X x y b->ab v=dA x->ab w=dA y->EqAt A.in1 s v w b):acl A s v w v' w' b:=by
 obtain⟨t,rfl⟩:=i8 q;obtain⟨u,rfl⟩:=i8 p;clear q p;have mI:∀{a c:qc} {b:qw},a≠c->RcAt A s (.ref a) (.ref c) b->acl A s (.d a) (.d c) (.ref a) (.ref c) b:=λne z=>⟨.of_refs ne z,λd=>z⟩;have aQ:∀{a:qc} {m:qe AV},st a=dA (.H m)->∃vs,s.heap.IsTuple a vs/\abs vs.toList m:=λe=>(I.E _ _ e).elim λvs x=>x.elim λd x=>⟨vs,IsT.b x.1,x.2⟩;induction h with
 |u=>exact⟨.same _,λd=>.none_none⟩
 |g=>exact⟨.bool_bool _ _,λd=>.bool_bool _ _⟩
 |c=>exact⟨.int_int _ _ _ _,λd=>.int_int _ _ _ _⟩
 |t=>exact⟨.bool_int _ _ _,λd=>.bool_int _ _ _⟩
 |v=>exact⟨.int_bool _ _ _,λd=>.int_bool _ _ _⟩
 |j=>exact⟨.str_str _ _ _ _,λd=>.str_str _ _ _ _⟩
 |N=>exact⟨.same _,λz=>qH dq<|z _ dq⟩
 |F ne i f hl z=>
  obtain⟨vs,n,k⟩:=IsL.N<|I.E _ _ i;obtain⟨ws,l,j⟩:=IsL.N<|I.E _ _ f;obtain⟨g,o,hb⟩:=py k j z ih;have r:vs.size=ws.size:=(bu k).trans (hl.trans (bu j).symm);rw[←r,Zr]at hb;exact mI ne<|hb▸RcAt.lists (e:=g) n l r hu o
 |f ne i f hl=>
  obtain⟨vs,n,k⟩:=IsL.N<|I.E _ _ i;obtain⟨ws,l,j⟩:=IsL.N<|I.E _ _ f;exact mI ne<|RcAt.lists_lengths n l (zJ.mpr λz=>hl<|(bu k).symm.trans (z.trans<|bu j)) hu
 |H ne i f z=>
  obtain⟨vs,n,k⟩:=aQ i;obtain⟨ws,l,j⟩:=aQ f;obtain⟨g,o,hb⟩:=py k j z ih;rw[←hb,←bu k,←bu j];exact mI ne<|RcAt.tuples (e:=g) n l hu o
 |y ne i f=>exact mI ne λprog w E Q B=>richCompare_eq_other acJ acJ (oR O I i) (oR O I f) ne hu B
 |p ne i f=>exact mI ne<|(aQ f).elim λd x=>(vj (oR O I i) x.1 ne hu).1
 |k ne i f=>exact mI ne<|(aQ i).elim λd x=>(vj (oR O I f) x.1 (aeR ne) hu).2
 |w f=>exact(aQ f).elim λd x=>⟨.int_tuple _ _ x.1 hu,λd=>.int_tuple _ _ x.1 hu⟩
 |q i=>exact(aQ i).elim λd x=>⟨.tuple_int _ _ x.1 hu,λd=>.tuple_int _ _ x.1 hu⟩
 |e f=>exact(aQ f).elim λd x=>⟨.str_tuple _ _ x.1 hu,λd=>.str_tuple _ _ x.1 hu⟩
 |n i=>exact(aQ i).elim λd x=>⟨.tuple_str _ _ x.1 hu,λd=>.tuple_str _ _ x.1 hu⟩
 |o f=>exact(aQ f).elim λd x=>⟨.none_tuple x.1 hu,λd=>.none_tuple x.1 hu⟩
 |s i=>exact(aQ i).elim λd x=>⟨.tuple_none x.1 hu,λd=>.tuple_none x.1 hu⟩
theorem px(O:W.g)(I:eM W st s.heap)(n:qc):∀{A:xu} {v w:AV} {v' w':qo} {b:qw},Qy st n v w b->ab v'=dA v->ab w'=dA w->A.units+n<ZI->acl A s v w v' w' b:=by
 induction n with
 |zero=>exactλh=>h.elim
 |succ n ih=>exactλh c a hu=>KK O I (X:=Qy st n) h c a (qi (qj _ _) hu) λx y v w b h1 h2 h3=>(ih h1 h2 h3 (by rw[Zw,Nat.succ_add];exact hu)).1
theorem below{n:qc}(h:n+eU+1<ZI):n+1+199<ZI:=zU (show n+1+199<n+200+1 by exact alA) h
theorem KJ(O:W.g)(I:eM W st s.heap){v w:AV}{v' w':qo}{b:qw}(h:Qx st v w b)(c:ab v'=dA v)(a:ab w'=dA w)(hu:A.units+eU+1<ZI):RcAt A s v' w' b:=by
 have f:A.units<ZI:=qi (qj _<|eU+1) hu;cases h with
 |A ne h=>exact(px O I _ h c a<|zb hu).2 ne
 |y e=>
  obtain rfl:=bT c;obtain rfl:=bT a;exactλprog w E Q l=>richCompare_eq_same acJ (oR O I e) f l
 |F e h=>
  obtain rfl:=bT c;obtain rfl:=bT a;obtain⟨vs,i,j⟩:=IsL.N<|I.E _ _ e;obtain⟨g,d,hb⟩:=py j j h λx y v w b h1 h2 h3=>(px O I _ (A:=A.in1) h1 h2 h3 (by rw[Zw];exact below hu)).1
  rw[Zr]at hb;exact hb▸RcAt.lists (e:=g) i i dq f d
 |H e h=>
  obtain rfl:=bT c;obtain rfl:=bT a;obtain⟨vs,x⟩:=I.E _ _ e;obtain⟨_,x⟩:=x;obtain⟨g,d,hb⟩:=py x.2 x.2 h λx y v w b h1 h2 h3=>(px O I _ (A:=A.in1) h1 h2 h3 (by rw[Zw];exact below hu)).1
  have k:=RcAt.tuples (e:=g) (IsT.b x.1) (IsT.b x.1) f d;rw[hb,qZ,xn]at k;exact k
theorem J5(O:W.g)(I:eM W st s.heap){v w:AV}{v' w':qo}{b:qw}(h:Qq st v w b)(n:ab v'=dA v)(m:ab w'=dA w)(hu:A.units+eU+1<ZI):RcNeAt A s v' w' b:=by
 have k:A.units<ZI:=qi (qj _<|eU+1) hu;obtain⟨t,rfl⟩:=i8 n;obtain⟨u,rfl⟩:=i8 m;induction h with
 |c=>exact .int_int _ _ _ _
 |j=>exact .str_str _ _ _ _
 |n e=>obtain⟨vs,k1,a,_⟩:=I.E _ _ e;exact .tuple_str _ _ (IsT.b a) k
 |F j i hl h=>
  obtain⟨vs,a,d⟩:=IsL.N<|I.E _ _ j;obtain⟨ws,f,c⟩:=IsL.N<|I.E _ _ i;obtain⟨g,o,hb⟩:=py d c h λx y v w b h1 h2 h3=>(px O I _ (A:=A.in1) h1 h2 h3 (by rw[Zw];exact below hu)).1
  have l:vs.size=ws.size:=(bu d).trans (hl.trans (bu c).symm);rw[←l,Zr]at hb;exact hb▸RcNeAt.lists (e:=g) a f l k o
 |f j i hl=>
  obtain⟨vs,a,d⟩:=IsL.N<|I.E _ _ j;obtain⟨ws,f,c⟩:=IsL.N<|I.E _ _ i;exact RcNeAt.lists_lengths a f (zJ.mpr λz=>hl<|(bu d).symm.trans (z.trans<|bu c)) k
theorem EC(O:W.g)(I:eM W st s.heap){v:AV}{v':qo}(k:ab v'=dA v)(hu:A.units+eU<ZI){l:qe AV}{vs:qe qo}{b:qw}(d:abs vs l)(h:InL st v l b):
  ∃g:qo->qw,(∀y∈vs,EqAt A s y v'<|g y)/\vs.any g=b:=by
 obtain⟨g,f,hb⟩:=h;refine⟨λy=>(ab y).elim np g,?_⟩;subst hb;induction vs generalizing l with
 |nil=>exact⟨λm h=>(nomatch h),by rw[show l=[]from Zc.mp d.symm];rfl⟩
 |cons x vs ih=>
  cases l with
  |nil=>cases d
  |cons w l=>
   obtain⟨c,i⟩:=aaB.mp d;obtain⟨i1,i2⟩:=ih i λw j=>f w<|.tail _ j;refine⟨λy a=>?_,?_⟩
   ·rcases qG.mp a with e|a
    ·rw[e];show EqAt A s x v' ((ab x).elim np g);rw[c];exact(px O I _ (f w<|.head _) c k hu).1
    ·exact i1 y a
   ·show((ab x).elim np g||_)=_;rw[i2,c];rfl
theorem s5(O:W.g){a:qc}(y:W.b.heap.get? a=ft):(a==al7)=np:=zN λz=>aP y<|z▸O.e
theorem lC{v:qo}{k:qd}(h:ab v=dA (.j k)):(acE W.a W.w).is k v=hY:=by
 obtain⟨t,rfl⟩:=fI h;exact qZ k
theorem pk{v:qo}{k:Str}(h:ab v=dA (.t k)):(ahB W.a W.w).is k v=hY:=by
 obtain⟨t,rfl⟩:=Qd h;exact qZ k
theorem A7(O:W.g)(I:fu W st s){v w:AV}{v' w':qo}{b:qw}(h:Fu st v w b)(d:ab v'=dA v)(i:ab w'=dA w)(hu:A.units+eU+1<ZI){Q:qo->qy->Prop}:
  ((∀tk,Q (.bool b) {s with toks:=tk})->qU (vl W.a W.w) A (compareOp .In v' w') Q E s)/\((∀tk,Q (.bool !b) {s with toks:=tk})->qU (vl W.a W.w) A (compareOp .NotIn v' w') Q E s):=by
 have f:A.in1.units+eU<ZI:=by rw[Zw];exact alz hu
 induction h with
 |F e h=>
  obtain rfl:=bT i;obtain⟨vs,k1,hl,c⟩:=I.h.E _ _ e;obtain⟨g,h1,h2⟩:=EC O (A:=A.in1) I.h d f c h;rw[ajJ]at h2;exact⟨λk=>in_listAt _ (IsL.c hl) (λy a=>h1 y<|z9.mpr a) (by rw[h2];exact k s.toks),λk=>notIn_listAt _ (IsL.c hl) (λy a=>h1 y<|z9.mpr a) (by rw[h2];exact k s.toks)⟩
 |H e h=>
  obtain rfl:=bT i;obtain⟨vs,k1,hl,c⟩:=I.h.E _ _ e;obtain⟨g,h1,h2⟩:=EC O (A:=A.in1) I.h d f c h;rw[ajJ]at h2;exact⟨λk=>in_tupleAt _ (IsT.b hl) (λy a=>h1 y<|z9.mpr a) (by rw[h2];exact k s.toks),λk=>notIn_tupleAt _ (IsT.b hl) (λy a=>h1 y<|z9.mpr a) (by rw[h2];exact k s.toks)⟩
 |d e h=>
  obtain rfl:=bT i;subst h;obtain⟨iN,hd,c⟩:=I.h.E _ _ e;have y:=s5 O (show W.b.heap.get? _=ft from I.h.f _ _ e);rw[←vL c];exact⟨λk=>wpAny_in_of (lC d) y hd.mapOf<|k _,λk=>wpAny_notIn_of (lC d) y hd.mapOf<|k _⟩
 |j e h=>
  obtain rfl:=bT i;subst h;obtain⟨iN,hd,c⟩:=I.h.E _ _ e;have y:=s5 O (show W.b.heap.get? _=ft from I.h.f _ _ e);rw[←vL c];exact⟨λk=>wpAny_in_of (pk d) y hd.mapOf<|k _,λk=>wpAny_notIn_of (pk d) y hd.mapOf<|k _⟩
theorem yb(I:eM W st s.heap){v w:AV}{v' w':qo}{b:qw}(h:Fw st v w b)(g:ab v'=dA v)(f:ab w'=dA w){Q:qw->qy->Prop}(k:Q b s):qU (vl W.a W.w) A (isSame v' w') Q E s:=by
 obtain⟨t,rfl⟩:=i8 g;obtain⟨u,rfl⟩:=i8 f;induction h with
 |@g a b=>exact amd dq (show Q (acg a==acg b) s by rwa [show(acg a==acg b)=(a==b)from by cases a<;>cases b<;>rfl])
 |N=>exact wpAny_isSame_ref_self k
 |F ne e d=>
  obtain⟨vs,k1,hl,i⟩:=I.E _ _ e;obtain⟨o,c⟩:=nZ (I.E _ _ d);exact aiU ne hl c (show ZU "list" ≠.type "tuple" by decide) k
 |f ne e d=>
  obtain⟨hl,_⟩:=I.E _ _ e;obtain⟨o,c⟩:=nZ (I.E _ _ d);exact aiU ne hl c (λz=>Value.noConfusion (show Bn _=.type "tuple" from z)) k
 |_=>exact amd dq k
theorem BA(O:W.g){op:aeN}{v w:AV}{v' w':qo}{Q:AV->St->Prop}(I:fu W st s)(c:ab v'=dA v)(a:ab w'=dA w)(h:PG op v w Q st)(hu:A.units+eU+1<ZI):
  qU (vl W.a W.w) A (compareOp op v' w') (QW W fl st s.heap Q) E s:=by
 obtain⟨b,h,q⟩:=h;have k:∀tk,QW W fl st s.heap Q (.bool b) {s with toks:=tk}:=λtk=>QW.p I dq q
 induction h with
 |o h=>exact KJ O I.h h c a hu _ _ _ _<|k s.toks
 |c h=>exact J5 O I.h h c a hu _ _ _ _<|k s.toks
 |d h=>exact show qU _ A (do return acg (←isSame v' w'):Sem qo) _ E s from qE<|yb I.h h c a (qW<|k s.toks)
 |e h=>exact show qU _ A (do return acg (!(←isSame v' w')):Sem qo) _ E s from qE<|yb I.h h c a (qW<|k s.toks)
 |A h=>exact(A7 O I h c a hu).1 k
 |f h=>exact(A7 O I h c a hu).2 k
 |y=>obtain⟨t,rfl⟩:=fI c;obtain⟨u,rfl⟩:=fI a;exact P.lt_int<|k s.toks
 |I=>obtain⟨t,rfl⟩:=fI c;obtain⟨u,rfl⟩:=fI a;exact P.le_int<|k s.toks
 |g=>obtain⟨t,rfl⟩:=fI c;obtain⟨u,rfl⟩:=fI a;exact P.gt_int<|k s.toks
 |i=>obtain⟨t,rfl⟩:=fI c;obtain⟨u,rfl⟩:=fI a;exact P.ge_int<|k s.toks
end
section
variable{st:St}{E:qo->qy->Prop}
theorem Dw(I:fu W st s)(e:st a=dA (.F l))(hl:IsL s.heap a vs n)(c:abs (f vs).toList m){tk:qc}:
  fu W (st.H a<|.F m) {s with heap:=s.heap.update a<|Z0 f,toks:=tk}/\Sf fl st s.heap (st.H a<|.F m) (s.heap.update a<|Z0 f):=by
 have y:W.b.heap.get? a=ft:=I.h.f _ _ e;obtain⟨g,d⟩:=pH (l:=fl) (c':=.F m) I.h e jd (λb o hb q=>(acq _ _<|aeR hb).trans q) ⟨_,_,hl.update f,c⟩ rfl y y;exact⟨⟨g,I.a⟩,d⟩
theorem O6{l:qe AV}{i:qd}{v:AV}{vs:Array qo}(d:abs vs.toList l)(h:u1 l i=dA v):∃k x,seqIndex? i vs.size=dA k/\vs[k]?=dA x/\ab x=dA v/\-(vs.size:qd)<=i/\i<vs.size/\((0<=i/\k=i.toNat)\/(i<0/\k=(i+vs.size).toNat)):=by
 have e1:=bu d
 have go:∀k:qc,l[k]?=dA v->∃x,vs[k]?=dA x/\ab x=dA v/\k<vs.size:=λk h=>by
  obtain⟨x,a,b⟩:=sy d h;rw[xF]at a;exact⟨x,a,b,(zf.mp a).1⟩
 unfold u1 at h;rw[←e1]at h;by_cases q:i<0
 ·rw[qK q]at h;by_cases c:0<=i+vs.size
  ·rw[qK c]at h;obtain⟨x,a,b,lt⟩:=go _ h;refine⟨_,x,?_,a,b,by exact aly c,by exact alx lt,.inr ⟨q,dq⟩⟩
   unfold seqIndex?;simp only[q,if_true];rw[if_pos (by simp;exact alw c lt)]
  ·rw[if_neg c]at h;cases h
 ·rw[if_neg q]at h;obtain⟨x,a,b,lt⟩:=go _ h;refine⟨_,x,?_,a,b,by exact alv q,by exact alu lt,.inl ⟨by exact alt q,dq⟩⟩
  unfold seqIndex?;simp only[q,if_false];rw[if_pos (by simp;exact als q lt)]
theorem Bc{W:Wd}{A:xu}{s:qy}{fl:qe Env}(O:W.g)(I:fu W st s){v i:AV}{v' d:qo}{Q:AV->St->Prop}(f:ab v'=dA v)(hi:ab d=dA i)(h:TH v i Q st){value slice:qu}{j:qe qo}(g:aco slice np v' d=ahM j (ahN v' d)):
  qU (vl W.a W.w) A (aiy value slice v' d) (QW W fl st s.heap Q) E s:=by
 obtain⟨w,h,q⟩:=h;induction h with
 |F e n h=>
  obtain rfl:=bT f;obtain⟨t,rfl⟩:=fI hi;obtain⟨vs,hl,a⟩:=IsL.N<|I.h.E _ _ e;obtain⟨k,y,l,c,b,h1,h2,h3⟩:=O6 a h;rw[←bu a]at n;have n:vs.size<1000000:=n;refine afx hl.typeIs af8.lookup ?_ g;rcases h3 with⟨z,e3⟩|⟨z,e3⟩<;>subst e3
  ·exact wpAny_getItem_list hl z (by grind) c<|QW.p I b q
  ·exact wpAny_getItem_list_neg hl z (by exact alr h1) (by grind) c<|QW.p I b q
 |H e n h=>
  obtain rfl:=bT f;obtain⟨t,rfl⟩:=fI hi;obtain⟨vs,m,hl,a⟩:=I.h.E _ _ e;obtain⟨k,y,l,c,b,h1,h2,h3⟩:=O6 a h;rw[←bu a]at n;have n:vs.size<1000000:=n;exact afx (IsT.b hl).typeIs slot_tuple_getitem.lookup (P.getItem_tuple hl (by grind) (by grind) l c<|QW.p I b q) g
 |d e h=>
  obtain rfl:=bT f;obtain⟨iN,hd,a⟩:=I.h.E _ _ e;obtain⟨y,c,b⟩:=u5 a h;exact afx hd.typeIs amu.lookup (wpAny_getItem_of (lC hi) hd.mapOf c<|QW.p I b q) g
 |j e h=>
  obtain rfl:=bT f;obtain⟨iN,hd,a⟩:=I.h.E _ _ e;obtain⟨y,c,b⟩:=u5 a h;exact afx hd.typeIs amu.lookup (wpAny_getItem_of (pk hi) hd.mapOf c<|QW.p I b q) g
theorem HX(a:ab v'=dA v)(h:Lw n d v k):∃o,IsPart v' o/\o.elim d (acD n)=k:=by
 induction h with
 |u=>obtain rfl:=Jw a;exact⟨_,.none,rfl⟩
 |j h=>obtain⟨t,rfl⟩:=fI a;exact⟨_,.int _ t,h⟩
theorem Ny(h:Heap)(c a:Obj)(b:qc)(o:Obj)(q:h.get? b=dA o):((h.push c).push a).get? b=dA o:=qQ _<|qQ _ q
theorem Wv(h:Heap)(a:Obj):h.get? (h.push a).objs.size=ft:=iT (by rw[Bi];exact xO _)
theorem DJ(I:fu W st s){lo:AV}(p:ab v'=dA v)(f:ab a=dA lo)(g:ab b=dA hi)(h:w6 v lo hi Q st)(r:aco slice np v' (.ref s.heap.objs.size)=ahM d (ahN v' (.ref s.heap.objs.size))):
  qU (vl W.a W.w) A (aiy value slice v' (.ref s.heap.objs.size)) (QW W fl st s.heap Q) E {s with heap:=s.heap.push {cls:=.type "slice",data:=.fields #[a,b,.none]}}:=by
 induction h with
 |mk e n k j q=>
  obtain rfl:=bT p;obtain⟨vs,hl,i⟩:=e.elim (λe=>IsL.N<|I.h.E _ _ e) λe=>I.h.E _ _ e;rw[←bu i]at k j;obtain⟨o,m,x⟩:=HX f k;obtain⟨t,l,u⟩:=HX g j;refine afx (hl.push _).typeIs af8.lookup (aiD (hl.push _) (afp ..) m l .none (λz=>nomatch z) ?_ (by rw[bu i];exact gp n)) r
  refine QW.t (c:=.F _) (tk:=s.toks) I (Ny _ _ _) (Wv _ _) ⟨_,0,wt _ dq,?_⟩ dq q;rw[slicePick_plain,x,u,←List.drop_take];exact Qc (Fo i _) _
theorem JU(I:fu W st s)(f:ab v'=dA v)(i:ab b=dA (.j (-1)))(h:R9 v Q st)(g:aco slice np v' (.ref s.heap.objs.size)=ahM a (ahN v' (.ref s.heap.objs.size))):
  qU (vl W.a W.w) A (aiy value slice v' (.ref s.heap.objs.size)) (QW W fl st s.heap Q) E {s with heap:=s.heap.push {cls:=.type "slice",data:=.fields #[.none,.none,b]}}:=by
 obtain⟨t,rfl⟩:=fI i;induction h with
 |mk e n q=>
  obtain rfl:=bT f;obtain⟨vs,hl,d⟩:=IsL.N<|I.h.E _ _ e;refine afx (hl.push _).typeIs af8.lookup (aiD (hl.push _) (afp ..) .none .none (.int (-1) t) (by decide) ?_ (by rw[bu d];exact gp n)) g
  refine QW.t (c:=.F _) (tk:=s.toks) I (Ny _ _ _) (Wv _ _) ⟨_,0,wt _ dq,?_⟩ dq q;rw[krv_pick];exact Fp d
theorem uc(h:abs vs [a]):∃v,vs=[v]/\ab v=dA a:=by
 obtain⟨v,sF,e,b,c⟩:=jF h;exact⟨v,by rw[e,mv c],b⟩
theorem De(h:abs vs [a,b]):∃v w,vs=[v,w]/\ab v=dA a/\ab w=dA b:=by
 obtain⟨v,sF,e,d,f⟩:=jF h;obtain⟨w,e2,c⟩:=uc f;exact⟨v,w,by rw[e,e2],d,c⟩
theorem DZ{W:Wd}{A:xu}{s:qy}{l:zM}{items:Array qo}{n:qc}{k:qd}{t:Tok}{v:qo}{Q:Z8->qy->Prop}(hl:IsL s.heap l items n)(h0:0<=k)(a:k<2^63)(d:k<items.size)
  (c:Q () {s with heap:=s.heap.update l (Z0 (·.setIfInBounds k.toNat v))}):qU (vl W.a W.w) A (setItem (.ref l) (.int k t) v) Q E s:=by
 have b:s.TypeIs (.ref l) "list" :=⟨_,hl,dq⟩;unfold setItem
 try with_reducible refine zG ?_
 first|refine qE (qW ?_)|skip
 refine qE<|wpAny_sequenceKey b (by decide) ?_
 refine qE (acy (name:=Zq "__setitem__") b amt
  (ahA amt b entry_list_setitem ?_ (args_list_setitem _ _ _)))
 show qU _ _ (Builtin.List.listSubscript? (.int k t)>>=_) _ _ s;refine qE<|wpAny_listSubscript_int (fitsIndex_of h0 a) ?_;clear a;obtain⟨j,rfl⟩:=ahQ h0;have e:j<items.size:=by exact alq d
 show qU _ _ ((seqItemAt l j>>=λr=>pure (r.map (j,·)))>>=_) _ _ s;refine qE<|qE (wpAny_seqItemAt hl dq<|qW ?_);rw[ahw e];show qU _ _ (setSeqItemAt l j v>>=_) _ _ s;refine qE<|wpAny_setSeqItemAt hl dq ?_
 first
  |exact qE<|qW (qW ⟨.none,dq,qW c⟩)
  |exact qW ⟨.none,dq,qW c⟩
theorem Cg{W:Wd}{A:xu}{s:qy}{fl:qe Env}(I:fu W st s){o i v:AV}{z B v':qo}{Q:St->Prop}(u:ab z=dA o)(hi:ab B=dA i)(p:ab v'=dA v)(h:pS o i v Q st){C:Z8->qy->Prop}
  (k:∀ba h' tk,fu W ba {s with heap:=h',toks:=tk}->Sf fl st s.heap ba h'->Q ba->C () {s with heap:=h',toks:=tk}):
  qU (vl W.a W.w) A (setItem z B v') C E s:=by
 induction h with
 |@F a l j v Q st e n h q=>
  obtain rfl:=bT u;obtain⟨t,rfl⟩:=fI hi;obtain⟨vs,n0,hl,c⟩:=I.h.E _ _ e;have e1:=bu c;have n:l.length<1000000:=n;refine DZ hl (xE j) (by grind) (by exact alp h e1) ?_
  obtain⟨g,d⟩:=Dw (fl:=fl) (tk:=s.toks) (f:=(·.setIfInBounds j v')) I e hl (m:=l.set j v) (by
   rw[Array.toList_setIfInBounds];exact U8 c _ p)
  exact k _ _ _ g d q
 |d e n q=>
  obtain rfl:=bT u;obtain⟨iN,hd,c⟩:=I.h.E _ _ e;have y:W.b.heap.get? _=ft:=I.h.f _ _ e;refine aki (lC hi) hd (λh' x r=>?_) (by rw[m7 c];exact gp n)
  obtain⟨g,d⟩:=pH (l:=fl) (c':=.d _) I.h e jd (λb o hb q=>(r.2 b hb).trans q) ⟨_,x,pE c _ p⟩ rfl y y;exact k _ _ _ ⟨g,I.a⟩ d q
 |j e n q=>
  obtain rfl:=bT u;obtain⟨iN,hd,c⟩:=I.h.E _ _ e;have y:W.b.heap.get? _=ft:=I.h.f _ _ e;refine aki (pk hi) hd (λh' x r=>?_) (by rw[m7 c];exact gp n)
  obtain⟨g,d⟩:=pH (l:=fl) (c':=.j _) I.h e jd (λb o hb q=>(r.2 b hb).trans q) ⟨_,x,pE c _ p⟩ rfl y y;exact k _ _ _ ⟨g,I.a⟩ d q
theorem Hf(O:W.g)(I:fu W st s)(g:mG x=hY)(f:ab v'=dA v)(h:vJ v x Q st):
  qU (vl W.a W.w) A (getAttr v' x.t expr) (QW W fl st s.heap Q) E s:=by
 induction h with
 |J e h q=>obtain rfl:=bT f;exact O5 O I.h e h g λv' b=>QW.p I b q
 |b e h n q=>obtain rfl:=bT f;exact O4 O I.h e h n λv' b=>QW.p I b q
 |@y a c d l x k m Q st e h j q=>
  obtain rfl:=bT f;refine O3 O I.h e h j g λd o own=>?_;cases o;exact QW.t (c:=.y _ x _) I (λi i q=>qQ _ q) (cO _) ⟨wt _ dq,own⟩ dq q
theorem Aw(O:W.g)(I:fu W st s)(c:mG x=hY)(g:ab a=dA o)(d:ab v'=dA v)(h:sS o x v Q st)
  (k:∀ba h' tk,fu W ba {s with heap:=h',toks:=tk}->Sf fl st s.heap ba h'->Q ba->b () {s with heap:=h',toks:=tk}):
  qU (vl W.a W.w) A (setAttr a x.t v') b E s:=by
 induction h with
 |mk e h i f q=>obtain rfl:=bT g;exact MT O I e h i c f d λh' tk l j=>k _ _ _ l j q
noncomputable def af1:Lm->acr
 |.ch=> "list.append" |.jI=> "list.pop" |.js=> "list.extend" |.kF=> "dict.get"
theorem PU(I:fu W st s)(c:ab v'=dA v)(h:PX m v st)(k:Q (.builtin (af1 m),[v']) s):
  qU (vl W.a W.w) A (getMethod v' m.z.t d) Q E s:=by
 induction h with
 |@F m a l st e h=>
  obtain rfl:=bT c;obtain⟨vs,n,hl,i⟩:=I.h.E _ _ e;have b:s.TypeIs (.ref a) "list" :=⟨_,hl,dq⟩;have hd:∀x,Bn a=.ref x->∃o,s.heap.get? x=dA o/\o.dict=ft:=λx q=>⟨_,(acv q)▸hl,dq⟩;cases m with
  |ch=>exact acp b afg aeC (by kernel_rfl) hd k
  |jI=>exact acp b afg ahC (by kernel_rfl) hd k
  |js=>exact acp b afg ake (by kernel_rfl) hd k
  |kF=>exact qH dq h
 |H e=>
  obtain rfl:=bT c;obtain⟨iN,hd,i⟩:=I.h.E _ _ e;obtain⟨o,es,j,g,f,_⟩:=id hd;exact acp hd.typeIs F.plainAttrs_dict amy (by kernel_rfl) (λx q=>by cases q;exact⟨_,g,f.2.1⟩) k
theorem QW.u(I:fu W st s)(e:st a=dA (.F l))(hl:IsL s.heap a vs n)(c:abs (f vs).toList m)(b:ab v'=dA v){tk:qc}(d:Q v (st.H a (.F m))):
  QW W fl st s.heap Q v' {s with heap:=s.heap.update a<|Z0 f,toks:=tk}:=by
 obtain⟨h,g⟩:=Dw (fl:=fl) (tk:=tk) (f:=f) I e hl c;exact⟨_,_,b,h,g,d⟩
theorem GQ{vs:Array qo}{l:qe AV}(a:abs vs.toList l):abs (vs.eraseIdxIfInBounds (vs.size-1)).toList l.dropLast:=by
 have:(vs.eraseIdxIfInBounds (vs.size-1)).toList=vs.toList.dropLast:=by
  rw[adX,←acL,List.eraseIdx_eq_take_drop_succ,acx,List.drop_eq_nil_of_le (by exact aln),qO]
 rw[this];exact Df a
theorem EQ{vs:Array qo}{w:AV}{l:qe AV}(a:abs vs.toList (w::l)):abs (vs.eraseIdxIfInBounds 0).toList l:=by
 obtain⟨v,ws,e,_,h⟩:=jF a;rw[adX,e];exact h
theorem PS(O:W.g)(I:fu W st s)(j:ab v'=dA v)(i:abs sF vs)(h:LN m v vs Q st):
  qU (vl W.a W.w) A (call (.builtin<|af1 m)<|v'::sF) (QW W fl st s.heap Q) E s:=by
 induction h with
 |f e n q=>
  obtain rfl:=bT j;obtain⟨w',rfl,D⟩:=uc i;obtain⟨xs,n0,hl,b⟩:=I.h.E _ _ e
  exact aby aeC ⟨_,hl,dq⟩ ajX (ajH _ _) (list_append _ xs n0 w' (by rw[bu b];exact gp n))
   ⟨hl,QW.u (f:=λx=>x.push w') I e hl (by rw[aiO];exact n8 b<|gm D mw) dq q⟩
 |D e n h q=>
  obtain rfl:=bT j;obtain rfl:=mv i;obtain⟨xs,n0,hl,b⟩:=I.h.E _ _ e;rw[List.getLast?_eq_getElem?]at h;obtain⟨y,c,g⟩:=sy b h;rw[xF,←bu b]at c
  exact aby ahC ⟨_,hl,dq⟩ ami (F.args_list_pop_1 _) (MeetsSeq.list_pop_last _ xs n0 y c (by rw[bu b];exact gp n))
   ⟨hl,QW.u (f:=λB=>B.eraseIdxIfInBounds<|xs.size-1) I e hl (GQ b) g q⟩
 |c e n q=>
  obtain rfl:=bT j;obtain⟨J,rfl,hi⟩:=uc i;obtain⟨t,rfl⟩:=fI hi;obtain⟨xs,n0,hl,b⟩:=I.h.E _ _ e;have e1:=bu b;obtain⟨y,c,g⟩:=sy b (n:=0) rfl;rw[xF]at c
  exact aby ahC ⟨_,hl,dq⟩ ami (F.args_list_pop_2 _ _) (MeetsSeq.list_pop_at _ xs n0 0 t 0 y (by decide) (by
    unfold seqIndex?;simp;rintro rfl;simp at e1) c (by rw[e1,List.length_cons,sizeLine_eq];exact Nat.le_trans n (by decide)))
   ⟨hl,QW.u (f:=λB=>B.eraseIdxIfInBounds 0) I e hl (EQ b) g q⟩
 |g ne e e2 n q=>
  obtain rfl:=bT j;obtain⟨b',rfl,hb⟩:=uc i;obtain rfl:=bT hb;obtain⟨xs,n0,hl,b⟩:=I.h.E _ _ e;obtain⟨ys,n2,r,o⟩:=I.h.E _ _ e2;have G:xs.size+ys.size<1000000:=by rw[bu b,bu o];exact n
  have p:xs.size+ys.size<=ahV:=by rw[sizeLine_eq];exact qg (xB G) (by decide)
  have u:Builtin.List.listTooLong (xs.size+ys.size)=np:=by
   unfold Builtin.List.listTooLong;simp;exact alm p
  exact aby ake ⟨_,hl,dq⟩ F.entry_list_extend (F.args_list_extend_2 _ _) (AutoSeq1.list_extend_list_list_0 _ xs n0 _ ys n2 (by rw[u,zq];exact qB) (by exact alk p) (by exact alj p))
   ⟨hl,r,QW.u (f:=λx=>x++ys) I e hl (by rw[ais];exact n8 b o) dq q⟩
 |@H a l k d Q st e q=>
  obtain rfl:=bT j;obtain⟨k',d',rfl,H,hd⟩:=De i;obtain⟨iN,C,b⟩:=I.h.E _ _ e;refine call_meetsIn amy C.typeIs F.entry_dict_get (F.args_dict_get_3 _ _ _) (meets_dict_get_default _ _ (lC H) (s5 O (show W.b.heap.get? _=ft from I.h.f _ _ e)) d') ⟨_,C.mapOf,QW.p I ?_ q⟩;cases z:eA l k with
  |none=>rw[Lp b z];exact hd
  |some x=>obtain⟨y,c,g⟩:=u5 b z;rw[c];exact g
end
theorem gH:plainId "dict.update.loop" =hY:=by decide+kernel
theorem mj:entryFor table "dict.update.loop" =dA Builtin.«dict.update.loop»:=entryFor_of_tree (by kernel_rfl)
theorem Cs:typeLookup (.type "list") "keys" =pure ft:=by rw[typeLookup_type,builtinLookup_eq_fast];kernel_rfl
section
variable{prog:ZO}{w:Zu}{E:qo->qy->Prop}{s:qy}
theorem rZ
  (m:s.heap.get? a=dA o)(hc:o.cls=.type "list")(i:o.data=.seq xs k)(hd:o.dict=ft)(l:typeLookup (.type "list") name=pure ft)(j:(["__module__", "__name__", "__qualname__", "__doc__", "__annotations__"]:qe Str).contains name=np)(t:A.handled=ft)
  (h:∀h' tk,(∀b o,s.heap.get? b=dA o->h'.get? b=dA o)->Q ft {s with heap:=h',toks:=tk})(AB:name.length+100<=ahV):
  qU (vl prog w) A (getAttr? (.ref a) name) Q E s:=by
 obtain⟨c,dct,u,q⟩:=o;simp only at hc i hd;subst hc i hd;obtain⟨r,g,d,tk,os⟩:=s;have n:∀f,(⟨r,g,d,f,os⟩:qy).TypeIs (.ref a) "list" :=λv=>⟨_,m,dq⟩;have f1:=sub_AttributeError;have C:=aci.lookup;have B:=aci.bind (.ref a);have z:=am_list_getattr_none;unfold getAttr? getAttrBy? getAttrBy
 repeat (any_goals(first|assumption|exact n _|((with_reducible show qU _ _ (call (Zg "list.__getattribute__") _ _) _ _ _);refine aby aci (n _) am_entry_list_getattribute (F.args_list_getattribute_2 _ _) (meets_getattribute_miss_list a xs k q name _ l j AB) ⟨m,t,λh' f e p=>?_⟩)|wp_step))
 obtain⟨t',x,y⟩:=p.there;show qU _ _ (getattributeRaised _ _ _ _ _ _ _) _ _ _;unfold getattributeRaised
 repeat (any_goals(first|assumption|wp_step))
 exact h _ _ p.keeps
end
section
variable{W:Wd}{st:St}{E:qo->qy->Prop}{s:qy}
theorem XX{K:Type} [xt K]{acc:qe (K×AV)}(k:K)(v:AV):(jm acc k v).length<=acc.length+1:=by
 unfold jm;split
 ·rw[qI];exact xO _
 ·exact qL qs
structure DpI(W:Wd)(s:qy)(D It a:qc)(i:qc)(h:Heap)(iN:qe (qd×qo))(acc:qe (qd×AV)):Prop where
 f:h.IsListIter It a i
 c:∀b o,s.heap.get? b=dA o->h.get? b=dA o
 d:h.DictOf (acE W.a W.w) D iN
 e:rz iN acc
 I:acc.length<=i
theorem Um{A:xu}(Q:A.handled=ft)(I:eM W st s.heap){D It a:qc}{m:qe (qd×AV)}{items:Array qo}{n:qc}(f:D≠It)(V:s.heap.get? D=ft)(hI:s.heap.get? It=ft)
  (hl:IsL s.heap a items n)(O:items.size<aH){R:Result->qy->Prop}
  (U:∀h' tk iN,(∀b o,s.heap.get? b=dA o->h'.get? b=dA o)->h'.DictOf (acE W.a W.w) D iN->rz iN m->R (.ok<|.ret .none) {s with heap:=h',toks:=tk})
  (l:qe AV):∀(i:qc) (j:qd) (h:Heap) (tk:qc) (iN:qe (qd×qo)) (acc:qe (qd×AV)),abs (items.toList.drop i) l->DpI W s D It a i h iN acc->DictOf st l acc m->
   acn (vl W.a W.w) A (.builtin "dict.update.loop" ⟨[.ref D,.ref It,.int j 0,.none],[]⟩) R {s with heap:=h,toks:=tk}:=by
 induction l with
 |nil=>
  intro i j h tk iN acc g P hd;have Y:items.toList.drop i=[]:=mv g;refine codeAny_builtin mj ?_;rw[ahR gH _];show qU _ A.in1 (ahU (.ref It)>>=_) _ _ _;refine qE<|wpAny_pyNext_list_end (s:={s with heap:=h,toks:=tk}) (A:=A.in1) Q P.f (IsL.c<|P.c _ _ hl) (by have:=List.drop_eq_nil_iff.mp Y;rw[acL]at this;exact Array.getElem?_eq_none this) λh' J=>?_
  show qU _ _ (Builtin.Dict.addKeywords D []>>=_) _ _ _;exact qE<|qW (qW<|U h' tk iN (λb o q=>J b o (λz=>by rw[z,hI]at q;cases q)<|P.c b o q) (P.d.at λo q=>J D o f q) ((show acc=m from hd)▸P.e))
 |cons v l ih=>
  intro i j h tk iN acc g P hd;obtain⟨b,kk,Z,e,hb,hd⟩:=hd;subst e;obtain⟨x,xs,ex,M,g⟩:=jF g;obtain rfl:=bT M
  have K:items[i]?=dA (.ref b):=by
   have:=qh (·[0]?) ex;rw[←xF];exact(List.getElem?_drop (i:=i) (j:=0)).symm.trans this
  have hi:i<items.size:=(zf.mp K).1;have g:abs (items.toList.drop<|i+1) l:=by rwa [show items.toList.drop (i+1)=xs from by rw[←List.drop_drop,ex];rfl]
  obtain⟨ys,nn,S,E⟩:=I.E _ _ hb;obtain⟨kv,L,y,p,B⟩:=De E;obtain⟨kt,rfl⟩:=fI p;refine codeAny_builtin mj ?_;rw[ahR gH _];show qU _ A.in1 (ahU (.ref It)>>=_) _ _ _;refine qE<|wpAny_pyNext_list_item (s:={s with heap:=h,toks:=tk}) P.f (IsL.c<|P.c _ _ hl) K λh' G H=>?_
  have t:∀c o,s.heap.get? c=dA o->h'.get? c=dA o:=λc o q=>(H.2 c (λz=>by rw[z,hI]at q;cases q)).trans (P.c c o q)
  have u:=t _ _ S;have C:h'.DictOf (acE W.a W.w) D iN:=P.d.at λo q=>(H.2 D f).trans q;refine qE (zG (qE (wpAny_tryCatch ?_)));unfold Builtin.Dict.pairItems;refine qE (wpAny_typeOf (T:= "tuple") ⟨_,u,dq⟩ ?_);rw[qK (by decide)]
  refine qE<|ah1 u dq (qW ?_);simp only[Option.getD_some,y];refine zG<|wpAny_dictSet_pairs (s:={s with heap:=h',toks:=tk}) (knd:=acE W.a W.w) (lC p) C (λX F k=>?_) ?_
  ·refine qW ⟨plainId_quiet gH _,ih (i+1) (j+1) X _ _ _ g ⟨?_,λc o q=>(k.2 c (λz=>by rw[z,V]at q;cases q)).trans (t c o q),F,pE P.e _ B,qg (XX _ _) (qN P.I)⟩ hd⟩
   obtain⟨o,N,r⟩:=G;exact⟨o,(k.2 It<|aeR f).trans N,r⟩
  ·rw[m7 P.e];exact qg P.I<|qg (xB hi) (by rw[sizeLine_eq];exact qg (xB O) (by decide))
theorem GU(p:A.handled=ft)(I:fu W st s)(e:st a=dA (.F l))(hl:l.length<aH)(hd:DictOf st l [] m)(h:dW (.d m) Q st):
  qU (vl W.a W.w) A (call (.type "dict") [.ref a]) (QW W fl st s.heap Q) E s:=by
 obtain⟨xs,n,r,t⟩:=I.h.E _ _ e;refine callType_codes (Q₁:=λobj k=>obj=.ref s.heap.objs.size/\k={s with heap:=s.heap.push {cls:=.type "dict",data:=.dict #[]}}) F.kt_called_dict (F.kt_typeCall_dict_1 _) F.entry_dict_init (kt_code_dict_new _ ⟨dq,dq⟩) ?_
 rintro obj k ⟨rfl,rfl⟩;have f:(s.heap.push {cls:=.type "dict",data:=.dict #[]}).DictOf (acE W.a W.w) s.heap.objs.size []:=Z6 s.heap;have d:=qQ {cls:=.type "dict",data:=.dict #[]} r;refine⟨f.typeIs,F.args_dict_init_2 _ _,?_⟩;unfold Builtin.«dict.__init__»;refine qE ?_;unfold Builtin.Dict.selfAndRest;refine qE (wpAny_notOrdered_dict f.typeIs ?_);show qU _ _ (pure (s.heap.objs.size,[Bn a])) _ _ _;refine qW ?_;show qU _ _ (Builtin.Dict.updateFrom "dict.__init__" s.heap.objs.size (.ref a) [] .none) _ _ _;unfold Builtin.Dict.updateFrom;refine qE (wpAny_typeOf (T:= "list") ⟨_,d,dq⟩ ?_);rw[qK (by decide)]
 refine qE<|rZ d dq dq dq Cs (by decide+kernel) p (λh2 g k2=>?_) (by decide+kernel)
 rw[qK (show(ft:qk qo).isNone=hY from dq)];refine qE<|wpAny_rule ?_;have i:=k2 _ _ d;refine qE<|amq (s:={s with heap:=h2,toks:=g}) (IsL.c i) ?_
 refine qW ⟨plainId_quiet gH _,?_⟩;have u:s.heap.objs.size<h2.objs.size:=zc<|k2 _ _ (wt _ dq)
 refine Um (A:=A.in1) (s:=s) p I.h (D:=s.heap.objs.size) (It:=h2.objs.size) (zy u) (cO _) (Heap.get?_none_of_le (xB u)) r (by rw[bu t];exact hl) (m:=m) (λh' tk iN k' j ak=>⟨dq,?_⟩)
  l 0 0 _ _ [] [] t ⟨⟨_,wt _ dq,dq,dq⟩,λb o q=>qQ _<|k2 _ _ (qQ _ q),(f.at λo q=>k2 _ _ q).at λo q=>qQ _ q,pF,qm _⟩ hd
 exact QW.t (c:=.d m) I k' (cO _) ⟨iN,j,ak⟩ dq h
set_option tactic.hygienic true in
theorem NC(m:A.handled=ft)(O:W.g)(I:fu W st s)(r:Fd p.z=dA f)(i:abs sF vs)(h:Gf p vs Q st):
  qU (vl W.a W.w) A (call f sF) (QW W fl st s.heap Q) E s:=by
 have d:∀{k:qc},k<aH->(k:qd)<2^63:=λh=>xV.mpr<|q9 h (show aH<=2^63 by decide)
 induction h<;>(cases r;obtain⟨v',rfl,j⟩:=uc i;clear i;obtain⟨t,rfl⟩:=i8 j;clear j)
 case f e n q=>
  obtain⟨xs,n0,hl,a⟩:=I.h.E _ _ e;exact call_len_list (IsL.c hl) (by rw[bu a];exact d n) (by rw[bu a];exact QW.p I dq q)
 case g e n q=>
  obtain⟨xs,n0,hl,a⟩:=I.h.E _ _ e;exact P.len_tuple hl (by rw[bu a];exact ahz.mpr<|d n) (by rw[bu a];exact QW.p I dq q)
 case k e n q=>
  obtain⟨iN,hd,a⟩:=I.h.E _ _ e;exact call_len_dict (s5 O (show W.b.heap.get? _=ft from I.h.f _ _ e)) hd (by rw[m7 a];exact d n) (by rw[m7 a];exact QW.p I dq q)
 case o q=>
  refine call_abs_int λu tk=>QW.p I ?_ q;show dA (AV.j _)=dA (AV.j _);congr 2;split<;>grind
 case j q=>exact call_int_bool<|QW.p I dq q
 case p h q=>
  rename_i x c _ _
  have key:x=⟨#[c]⟩:=by
   cases x with
   |mk cps=>exact qh Str.mk<|ajI.mp h
  subst key;exact P.ord_of_char<|QW.p I dq q
 case d e n q=>
  obtain⟨xs,n0,hl,a⟩:=I.h.E _ _ e;exact call_tuple_list (IsL.c hl) (λh' k=>QW.t (c:=.H _) (tk:=s.toks) I (λb o q=>qQ _<|k b o q) (eY λ⟨o,q⟩=>aP (cO h') ⟨o,k _ _ q⟩) ⟨xs,0,wt _ rfl,a⟩ rfl q) (by rw[bu a];exact gp n)
 case F e n q=>
  obtain⟨xs,n0,hl,a⟩:=I.h.E _ _ e;exact call_list_seq _ (.inl dq) hl dq dq (λh' c' k g=>QW.t (c:=.F _) (tk:=s.toks) I k (cO _) ⟨xs,c',g,a⟩ dq q) (by rw[bu a];exact gp n)
 case r e n q=>
  obtain⟨iN,hd,a⟩:=I.h.E _ _ e
  exact kt_call_dict (s5 O (show W.b.heap.get? _=ft from I.h.f _ _ e)) hd (by rw[m7 a];exact gp n) λh' v l=>
   QW.t (c:=.d _) (tk:=s.toks) I (λb o q=>(l.2 b λz=>aP (cO s.heap) ⟨o,z▸q⟩).trans (qQ _ q)) (cO _) ⟨iN,v,a⟩ dq q
 case t e n h q=>exact GU m I e n h q
end
structure Cx(d u:qc)(A:xu)(env:Env)(l:qe Env):Prop where
 a:A.frames=dA l
 c:∃fe outer L,l=fe::outer/\fe.frame=dA L/\env.frame=dA L
 g:A.handled=ft
 f:A.depth<=d
 e:A.units<=u
 B:env.globals=zh
 h:env.builtins=zZ
 b:env.scope.kind=.function
structure dY(W:Wd)(env:Env)(l:qe Env)(ρ:dz)(st:St)(s:qy):Prop where
 b:LR W env st s.heap ρ
 j:jk W st s.heap l
 a:fu W st s
theorem dY.g{st:St}(x:dY W env l ρ st s)(S:Sf l st s.heap ba s'.heap)(I:fu W ba s'):dY W env l ρ ba s':=
 ⟨x.b.s S,x.j.s S,I⟩
def lK(W:Wd)(C:dG)(d u:qc):Prop:=
 ∀{f:lS} {vs:qe AV} {Q:AV->St->Prop} {X:St->Prop} {st:St} {A:xu} {l:qe Env} {s:qy} {sF:qe qo} {R:Result->qy->Prop},
  C f vs Q X st->A.frames=dA l->A.handled=ft->A.depth<=d->A.units<=u->jk W st s.heap l->fu W st s->abs sF vs->v5 W f->
  (∀v s',QW W l st s.heap Q v s'->R (.ok<|.ret v) s')->(∀e s',FW W l st s.heap X e s'->R (.error e) s')->
  acn (vl W.a W.w) A (.call (.ref<|W.d f) ⟨sF,[]⟩) R s
section
variable(W:Wd)(C:dG)(d u:qc)
def SE(e:Ex):Prop:=∀{A:xu} {env:Env} {l:qe Env} {ρ:dz} {Q:AV->St->Prop} {X:St->Prop} {st:St} {s:qy} {p:qu},
 Cx d u A env l->dY W env l ρ st s->ok env.scope e p=hY->Lz W.T C e ρ Q X st->qU (vl W.a W.w) A (eval (em e p) env) (QW W l st s.heap Q) (EW W l st s.heap X) s
def ST(e:Ex):Prop:=∀{A:xu} {env:Env} {l:qe Env} {ρ:dz} {Q:qw->St->Prop} {X:St->Prop} {st:St} {s:qy} {p:qu},
 Cx d u A env l->dY W env l ρ st s->ok env.scope e p=hY->Lz W.T C e ρ (λv st=>jl v λb=>Q b st) X st->
 qU (vl W.a W.w) A (isTrue (em e p) env<|eval (em e p) env) (BW W l st s.heap Q) (EW W l st s.heap X) s
def LU(es:jM):Prop:=∀{A:xu} {env:Env} {l:qe Env} {ρ:dz} {Q:qe AV->St->Prop} {X:St->Prop} {st:St} {s:qy} {ps:qe qu} {pos:Pos},
 Cx d u A env l->dY W env l ρ st s->JZ env.scope es ps=hY->ac1 W.T C es ρ Q X st->qU (vl W.a W.w) A (adl<|ZK pos (xY (uX es ps) env)) (VW W l st s.heap λvs st=>vs.length=tE es/\Q vs st) (EW W l st s.heap X) s
def SBo(o:PySem.BoolOp)(a:jM->dz->(AV->St->Prop)->(St->Prop)->St->Prop)(es:jM):Prop:=∀{A:xu} {env:Env} {l:qe Env} {ρ:dz} {X:St->Prop} {st:St} {s:qy} {ps:qe qu} {pos:Pos},
 Cx d u A env l->dY W env l ρ st s->JZ env.scope es ps=hY->
 (∀{Q:AV->St->Prop},tE es≠0->a es ρ Q X st->qU (vl W.a W.w) A (eval (.BoolOp o (uX es ps) pos) env) (QW W l st s.heap Q) (EW W l st s.heap X) s)/\
 (∀{Q:qw->St->Prop},a es ρ (λv st=>jl v λb=>Q b st) X st->qU (vl W.a W.w) A (allTrue o (uX es ps) env) (BW W l st s.heap Q) (EW W l st s.heap X) s)
abbrev Ls:=SBo W d u .And<|Vq W.T C
abbrev SOr:=SBo W d u .Or<|acZ W.T C
end
section
variable{W:Wd}{C:dG}{d u:qc}{A:xu}{env:Env}{l:qe Env}{ρ:dz}{X:St->Prop}{st:St}{s:qy}{dX:St}
theorem gT(a:Sf l dX h0 st s.heap)(H:dY W env l ρ st s)(h:qU M A m (QW W l st s.heap b) (EW W l st s.heap X) s)
  (f:∀v s1 av bW,ab v=dA av->dY W env l ρ bW s1->Sf l dX h0 bW s1.heap->b av bW->k v s1):qU M A m k (EW W l dX h0 X) s:=
 wx h (λv s1 y=>by cases y with|mk av bW d I S q=>exact f v s1 av bW d (H.g S I) (a.i S) q) λc c e=>e.r a
theorem sP(a:Sf l dX h0 st s.heap)(H:dY W env l ρ st s)(h:qU M A m (VW W l st s.heap b) (EW W l st s.heap X) s)
  (f:∀v s1 av bW,abs v av->dY W env l ρ bW s1->Sf l dX h0 bW s1.heap->b av bW->k v s1):qU M A m k (EW W l dX h0 X) s:=
 wx h (λv s1 y=>by cases y with|mk av bW d I S q=>exact f v s1 av bW d (H.g S I) (a.i S) q) λc c e=>e.r a
theorem MV(a:Sf l dX h0 st s.heap)(H:dY W env l ρ st s)(h:qU M A m (BW W l st s.heap c) (EW W l st s.heap X) s)
  (f:∀b s1 bW,dY W env l ρ bW s1->Sf l dX h0 bW s1.heap->c b bW->k b s1):qU M A m k (EW W l dX h0 X) s:=
 wx h (λv s1 y=>by cases y with|mk bW I S q=>exact f v s1 bW (H.g S I) (a.i S) q) λd d e=>e.r a
theorem lH(S:Sf l dX h0 st s.heap)(h:qU M A m (QW W l st s.heap Q) (EW W l st s.heap X) s):qU M A m (QW W l dX h0 Q) (EW W l dX h0 X) s:=
 wx h (λa a q=>q.r S) λa a e=>e.r S
theorem Db(S:Sf l dX h0 st s.heap)(h:qU M A m (BW W l st s.heap Q) (EW W l st s.heap X) s):qU M A m (BW W l dX h0 Q) (EW W l dX h0 X) s:=
 wx h (λa a q=>q.r S) λa a e=>e.r S
theorem Gx(h:nd x=hY):(x==("__debug__" :Str))=np:=xc _▸h
theorem L7(h:vr sc x=hY):sc.names.lookup x.t=dA .local\/sc.names.lookup x.t=dA .cell:=(acN.mp<|bA h).imp eq_of_beq eq_of_beq
theorem O1(h:gl sc x=hY):sc.names.lookup x.t=dA .globalImplicit:=eq_of_beq<|bA h
theorem uu(c:Cx d u A env l)(H:dY W env l ρ st s)(h:vr env.scope x=hY)(f:ρ x=dA v){E:qo->qy->Prop}
  (k:∀v',ab v'=dA v->Q v' s):qU M i (eval (.Name x.t pos) env) Q E s:=by
 refine wpAny_Name ?_ (Gx<|bB h);obtain⟨m,cm,g,hc,hr⟩:=H.b.A;obtain⟨r1,r2⟩:=hr x v f;rcases L7 h with a|a
 ·obtain⟨v',q,e⟩:=qS.mp<|r1 a;exact wpAny_loadName_local c.b a g q<|k v' e
 ·obtain⟨h2,h3⟩:=r2 a;obtain⟨ca,b⟩:=xq.mp h2;obtain⟨v',q,e⟩:=qS.mp h3;exact wpAny_loadName_cell c.b a b (q▸hc _ _ b)<|k v' e
variable{pos:Pos}{E Q:qo->qy->Prop}
theorem nR(O:W.g)(c:Cx d u A env l)(I:fu W st s)(h:gl env.scope x=hY)(a:W.h x.t=dA v)(k:Q v s):qU M b (eval (.Name x.t pos) env) Q E s:=
 aj9 c.b (O1 h) (loadGlobal_global (by rw[c.B];exact O.b.keeps I.h.i) a k) (Gx<|bB h)
theorem jh(O:W.g)(c:Cx d u A env l)(I:fu W st s)(h:gl env.scope x=hY)(a:Fd x=dA v)(k:Q v s):qU M b (eval (.Name x.t pos) env) Q E s:=by
 obtain⟨h1,h2⟩:=O.h _ _ a;exact aj9 c.b (O1 h) (loadGlobal_builtin (by rw[c.B];exact O.b.keeps I.h.i) h1 (by rw[c.h];exact O.d.keeps I.h.i) h2 k)<|Gx (bB h)
theorem BB(O:W.g)(c:Cx d u A env l)(I:fu W st s)(a:oZ x=hY)(h:gl env.scope x=hY)(k:Q (nY W x) s):qU M b (eval (.Name x.t pos) env) Q E s:=by
 rcases lW a with hc|hc|hc|hc
 ·rw[tZ hc]at k;exact nR O c I h (O.a x hc).2 k
 all_goals(subst hc;exact jh O c I h dq k)
theorem kI:xY (em e p::rest) env=(np,eval (em e p) env)::xY rest env:=(nV e p).g
theorem p3:∀{es:jM} {ps:qe qu} {pos:Pos},(ZK pos (xY (uX es ps) env)).any (·.1)=np
 |.t,_,_=>rfl
 |.o e es,ps,pos=>by
  show(ZK pos<|xY (em e (hd ps)::uX es ps.tail) env).any (·.1)=np;rw[kI];exact p3 (es:=es)
theorem I0:∀{es:jM} {ps:qe qu},(uX es ps).length=tE es
 |.t,_=>rfl
 |.o _ _,_=>qh xZ I0
theorem g4{m:ahS}{e:Ex}{p:qu}{rest:qe qu}{Q:qe qo->qy->Prop}(h:qU m A (eval (em e p) env) (λv s'=>qU m A (adl (ZK pos (xY rest env))) (λvs=>Q (v::vs)) E s') E s):
  qU m A (adl<|ZK pos (xY (em e p::rest) env)) Q E s:=ZM h kI
theorem re{M:ahS}{es:jM}{ps:qe qu}{f:qo}{Q:Args->qy->Prop}(k:qU M A (adl (ZK pos (xY (uX es ps) env))) (λvs s'=>Q ⟨vs,[]⟩ s') E s):qU M A (evalArgs f hY (ZK pos (xY (uX es ps) env)) []) Q E s:=by
 cases es with
 |t=>
  unfold evalArgs;show qU M A (adl []>>=_) Q E s;refine qE<|wx k (λvs s' h'=>?_) λa a x=>x;refine qE<|qW (zG ?_);exact qE (show qU M A (evalAll []) _ E s' from qW<|qE (qW<|qW h'))
 |o e es=>
  have b:xY (uX (.o e es) ps) env=(np,eval (em e<|hd ps) env)::xY (uX es ps.tail) env:=kI;rw[b]at k⊢;exact evalArgs_plain k
theorem adt(j:∀p env a,isTrue (em e p) env a=(do let v←a;standAt (em e p).pos;holding [v] (truthy v)))(h:SE W C d u e):ST W C d u e:=λc H k g=>
 isTrue_plain (gT (.j _ _) H (h c H k g) λv s1 av bW i m l q=>oP i q λb f=>⟨_,m.a,l,f⟩) (j _ _ _)
end
section
variable{W:Wd}{C:dG}{d u:qc}
theorem RO:SE W C d u .u:=λc H b a=>wpAny_Constant_none<|QW.p H.a dq a
theorem RU:SE W C d u (.q b):=λc H e a=>wpAny_Constant_bool<|QW.p H.a dq a
theorem Yn:SE W C d u (.j i):=λc H b a=>ame<|QW.p H.a dq a
theorem Ye:SE W C d u (.t x):=λc H b a=>ae7<|QW.p H.a dq a
theorem Ec{st:St}(h:Gm v Q st):∃w,v=dA w/\Q w st:=by
 cases v with
 |none=>exact h.elim
 |some w=>exact⟨w,dq,h⟩
theorem Yk:SE W C d u (.s x):=λc H e a=>by
 obtain⟨v,q,a⟩:=Ec a;exact uu c H e q λv' b=>QW.p H.a b a
theorem RR(O:W.g):SE W C d u (.B x):=λc H b a=>by
 obtain⟨v,q,a⟩:=Ec a;obtain⟨v',h1,h2⟩:=O.m _ _ q;exact nR O c H.a b h1<|QW.p H.a h2 a
theorem Yq(ha:SE W C d u a)(hb:SE W C d u b):SE W C d u (.C op a b):=λc H f i=>
 wpAny_BinOp (gT (.j _ _) H (ha c H (bA f) i) λv s1 av bW j g l q=>gT l g (hb c g (bB f) q) λw o p n e m k h=>lH k<|Li m.a j e h)
theorem Yj(ha:SE W C d u a):SE W C d u (.L a):=λc H f b=>
 aiu (gT (.j _ _) H (ha c H f b) λv s1 av bW e h g q=>lH g<|J4 h.a e q)
theorem Yh(ha:SE W C d u a):SE W C d u (.v a):=λc H f b=>
 aiu (gT (.j _ _) H (ha c H f b) λv s1 av bW e h g q=>lH g<|J1 h.a e q)
theorem XS(ha:ST W C d u a):ST W C d u (.v a):=λ{A env l ρ Q X st s p} c H h g=>
 isTrue_not (wx (ha (Q:=λb st=>Q (!b) st) c H h g) (λb s' x=>by cases x with|mk ba I S q=>exact⟨ba,I,S,q⟩) λf f e=>e)
theorem E5(c:Cx d u A env l)(hu:u+300<ZI):A.units+eU+1<ZI:=show A.units+(eU+1)<ZI from qi (qM c.e (show eU+1<=300 by decide)) hu
theorem Yp(O:W.g)(hu:u+300<ZI)(ha:SE W C d u a)(hb:SE W C d u b):SE W C d u (.g op a b):=λc H f i=>
 wpAny_Compare1 (gT (.j _ _) H (ha c H (bA f) i) λv s1 av bW j g l q=>
  gT l g (hb c g (bA (bB f)) q) λw o p n e m k h=>lH k (BA O m.a j e h (E5 c hu))) (xc _▸bB (bB f))
theorem XV(O:W.g)(hu:u+300<ZI)(ha:SE W C d u a)(hb:SE W C d u b):ST W C d u (.g op a b):=λc H g m=>
 wpAny_isTrue_Compare1 (gT (.j _ _) H (ha c H (bA g) m) λv s1 av bW n i s q=>
  gT s i (hb c i (bA<|bB g) q) λw z B x f h p l=>
  gT p h (BA O h.a n f l (E5 c hu)) λr y A D e t o k=>oP e k λb j=>⟨_,t.a,o,j⟩) (xc _▸bB (bB g))
theorem M3:Ls W C d u .t:=λc H b=>⟨λh=>qH dq h,λa=>wpAny_allTrue_And_nil ⟨_,H.a,.j _ _,a⟩⟩
theorem RD:SOr W C d u .t:=λc H b=>⟨λh=>qH dq h,λa=>wpAny_allTrue_Or_nil ⟨_,H.a,.j _ _,a⟩⟩
theorem JO(k:SE W C d u e)(m:ST W C d u e)(j:Ls W C d u es):Ls W C d u (.o e es):=λ{A env l ρ X st s ps pos} c H g=>by
 refine⟨λ{Q} n h=>?_,λ{Q} h=>?_⟩
 ·cases es with
  |t=>
   refine BoolOp_one<|gT (.j _ _) H (k c H (bA g) h) λv s1 av bW i f a q=>?_;obtain⟨b,rfl,q⟩:=lp q;exact⟨_,_,i,f.a,a,by cases b<;>exact q⟩
  |o e2 es=>
   refine BoolOp_and<|gT (.j _ _) H (k c H (bA g) h) λv s1 av bW i f a q=>?_;obtain⟨b,rfl,q⟩:=lp q;obtain rfl:=ue i;refine afZ ?_;cases b
   ·exact⟨_,_,i,f.a,a,q⟩
   ·exact lH a<|(j (pos:=pos) c f<|bB g).1 (afa _) q
 ·refine wpAny_allTrue_And_cons (MV (.j _ _) H (m (Q:=λb st=>if b then Vq W.T C es ρ (λv st=>jl v λb=>Q b st) X st else Q np st) c H (bA g) h) λb s1 bW f a q=>?_)
  cases b
  ·exact⟨_,f.a,a,q⟩
  ·exact Db a<|(j (pos:=pos) c f<|bB g).2 q
theorem MN(k:SE W C d u e)(m:ST W C d u e)(j:SOr W C d u es):SOr W C d u (.o e es):=λ{A env l ρ X st s ps pos} c H g=>by
 refine⟨λ{Q} n h=>?_,λ{Q} h=>?_⟩
 ·cases es with
  |t=>
   refine BoolOp_one<|gT (.j _ _) H (k c H (bA g) h) λv s1 av bW i f a q=>?_;obtain⟨b,rfl,q⟩:=lp q;exact⟨_,_,i,f.a,a,by cases b<;>exact q⟩
  |o e2 es=>
   refine BoolOp_or<|gT (.j _ _) H (k c H (bA g) h) λv s1 av bW i f a q=>?_;obtain⟨b,rfl,q⟩:=lp q;obtain rfl:=ue i;refine afZ ?_;cases b
   ·exact lH a<|(j (pos:=pos) c f<|bB g).1 (afa _) q
   ·exact⟨_,_,i,f.a,a,q⟩
 ·refine wpAny_allTrue_Or_cons (MV (.j _ _) H (m (Q:=λb st=>if b then Q hY st else acZ W.T C es ρ (λv st=>jl v λb=>Q b st) X st) c H (bA g) h) λb s1 bW f a q=>?_)
  cases b
  ·exact Db a<|(j (pos:=pos) c f<|bB g).2 q
  ·exact⟨_,f.a,a,q⟩
theorem Yr(h:Ls W C d u es):SE W C d u (.I es):=λc H a b=>(h c H<|bA a).1 (zJ.mp<|bB a) b
theorem XW(h:Ls W C d u es):ST W C d u (.I es):=λ{A env l ρ Q X st s p} c H b a=>akT<|(h (pos:=p.pos) c H<|bA b).2 a
theorem adE(h:SOr W C d u es):SE W C d u (.N es):=λc H a b=>(h c H<|bA a).1 (zJ.mp<|bB a) b
theorem ads(h:SOr W C d u es):ST W C d u (.N es):=λ{A env l ρ Q X st s p} c H b a=>akT<|(h (pos:=p.pos) c H<|bA b).2 a
theorem Yl(i:ST W C d u t)(ha:SE W C d u a)(hb:SE W C d u b):SE W C d u (.D t a b):=λ{A env l ρ Q X st s p} c H e h=>by
 refine IfExp_<|MV (.j _ _) H (i (Q:=λt st=>if t then Lz W.T C a ρ Q X st else Lz W.T C b ρ Q X st) c H (bA e) h) λt s1 bW g f q=>?_
 cases t
 ·exact lH f<|hb c g (bB<|bB e) q
 ·exact lH f<|ha c g (bA<|bB e) q
theorem XT(i:ST W C d u t)(ha:ST W C d u a)(hb:ST W C d u b):ST W C d u (.D t a b):=λ{A env l ρ Q X st s p} c H e h=>by
 refine isTrue_IfExp<|MV (.j _ _) H (i (Q:=λt st=>if t then Lz W.T C a ρ (λv st=>jl v λb=>Q b st) X st else Lz W.T C b ρ (λv st=>jl v λb=>Q b st) X st) c H (bA e) h) λt s1 bW g f q=>?_
 cases t
 ·exact Db f<|hb c g (bB<|bB e) q
 ·exact Db f<|ha c g (bA<|bB e) q
theorem RN:LU W C d u .t:=λc H b a=>zA ⟨_,_,mw,H.a,.j _ _,dq,a⟩
theorem MU{e:Ex}{es:jM}(k:SE W C d u e)(j:LU W C d u es):LU W C d u (.o e es):=λc H b h=>
 g4 (gT (.j _ _) H (k c H (bA b) h) λv s1 av bW i f m q=>sP m f (j c f (bB b) q) λvs p g8 o g n l a=>⟨_,_,gm i g,n.a,l,qh xZ a.1,a.2⟩)
theorem rP(h:decide (n<=100)=hY):n<=ahV:=by rw[sizeLine_eq];exact qg (qC h) (by decide)
theorem RQ(f:LU W C d u es):SE W C d u (.F es):=λc H b e=>
 wpAny_List (sP (.j _ _) H (f c H (bA b) e) λvs s1 g8 bW a h g q=>⟨by rw[ud a,q.1];exact rP<|bB b,(QW.F (tk:=s1.toks) h.a a q.2).r g⟩)
theorem Yd(f:LU W C d u es):SE W C d u (.H es):=λc H b e=>
 ahG (sP (.j _ _) H (f c H (bA b) e) λvs s1 g8 bW a h g q=>⟨by rw[ud a,q.1];exact rP<|bB b,(QW.H (tk:=s1.toks) h.a a q.2).r g⟩)
theorem Jt(h:ncE e=hY):attributeBase (em e p) a env b=b:=by
 cases e with
 |G c l=>
  cases l with
  |t=>exact qH h qB
  |o=>rfl
 |s|B|d|r=>rfl
 |_=>exact qH h qB
theorem RV(O:W.g)(i:SE W C d u e):SE W C d u (.d e x):=λ{A env l ρ Q X st s p} c H a g=>by
 show qU _ A (eval (.Attribute (em e<|cG p 0) x.t p.pos) env) _ _ s;rw[arm_eval_Attribute,Jt<|bA (bB a)];refine qE<|gT (.j _ _) H (i c H (bB<|bB a) g) λv s1 av bW h b k q=>qE<|ZR (qE<|zG ?_);exact gT k b (Hf O b.a (bA a) h q) λr o t n hr m j f=>qE<|wpAny_letTemporaryGo (qW ⟨_,_,hr,m.a,j,f⟩)
theorem XL:aco (em e p) np o i=ahM [o,i] (ahN o i):=(nV e p).s
theorem Yo(O:W.g)(j:SE W C d u e)(hi:SE W C d u i):SE W C d u (.r e i):=λc H b a=>
 ah0 (gT (.j _ _) H (j c H (bA b) a) λv s1 av bW h f l q=>gT l f (hi c f (bB b) q) λw o aw n a m k g=>lH k<|Bc O m.a h a g XL)
theorem Km(h:Iw e=hY):e=.u:=by cases e<;>first|rfl|exact qH h qB
theorem ym(f:SE W C d u e){st:St}
  (c:Cx d u A env l)(H:dY W env l ρ st s)(b:YL p (Iw e) (ok env.scope e)=hY)(a:Lz W.T C e ρ Q X st):qU (vl W.a W.w) A (evalPart (p.map<|em e) env) (QW W l st s.heap Q) (EW W l st s.heap X) s:=by
 cases p with
 |none=>
  rw[Km b]at a;exact qW<|QW.p (tk:=s.toks) H.a dq a
 |some p=>exact f c H b a
theorem MX{lo:Ex}(o:SE W C d u e)(hl:SE W C d u lo)(n:SE W C d u hi):SE W C d u (.A e lo hi):=λc H f l=>
 ah0 (gT (.j _ _) H (o c H (bA f) l) λv s1 av bW m h s q=>wpAny_Slice<|
  gT s h (ym hl c h (bA (bB f)) q) λw B aw y b g r j=>gT r g (ym n c g (bB (bB f)) j) λz A D F k t p i=>qW
   (wx (DJ (E:=λa a=>qp) t.a m b k i dq) (λa a x=>QW.r p x) λa a x=>x.elim))
theorem Yg(h:SE W C d u e):SE W C d u (.R e):=λc H g b=>
 ah0 (gT (.j _ _) H (h c H g b) λv s1 av bW f j i q=>wpAny_Slice (qW (qW (aiu (ame (P.neg_int
  (wx (JU (E:=λa a=>qp) (j.a.H (s1.toks+1+1)) f dq q dq) (λa a x=>QW.r i x) λa a x=>x.elim)))))))
end
section
variable{W:Wd}{C:dG}{d u:qc}
noncomputable def IT(l:qe (qo×qo)):qe qo:=l.flatMap λp=>[p.1,p.2]
def SDs(W:Wd)(C:dG)(d u:qc)(es:jM):Prop:=∀{A:xu} {env:Env} {l:qe Env} {ρ:dz} {Q:qe AV->St->Prop} {X:St->Prop} {st:St} {s:qy} {ps:qe qu} {pos:Pos},
 Cx d u A env l->dY W env l ρ st s->okD env.scope es ps=hY->ac1 W.T C es ρ Q X st->
 qU (vl W.a W.w) A (evalPairs<|pairTrees (LM es ps).1 (LM es ps).2 env pos) (λvs=>VW W l st s.heap Q<|IT vs) (EW W l st s.heap X) s
theorem I5:∀{es:jM} {ps:qe qu},(LM es ps).1.all (·.isSome)=hY/\(LM es ps).1.length=(LM es ps).2.length/\(LM es ps).1.length<=tE es
 |.t,_|.o _ .t,_=>⟨dq,dq,qP _⟩
 |.o _ (.o _ es),ps=>let h:=@I5 es ps.tail.tail;⟨h.1,qh xZ h.2.1,qN<|xl h.2.2⟩
theorem RX:SDs W C d u .t:=λc H b a=>pairTrees_nil_walk ⟨_,_,mw,H.a,.j _ _,a⟩
theorem RW:SDs W C d u (.o k .t):=λc H a b=>qH a qB
theorem MZ(t:SE W C d u k)(o:SE W C d u v)(p:SDs W C d u es):SDs W C d u (.o k (.o v es)):=λ{A env l ρ Q X st s ps pos} c H a n=>
 pairTrees_cons_walk (gT (.j _ _) H (t c H (bA a) n) λx s1 K bW m f B q=>gT B f (o c f (bA (bB a)) q) λy I J F j E b i=>
  wx (p (pos:=pos) c E (bB (bB a)) i) (λr G z=>by cases z with|mk lr L hr D w h=>exact⟨_,_,gm m (gm j hr),D,b.i w,h⟩) λg g e=>e.r b)
theorem Jf{K:Type} [xt K]{knd:ak2 W.a W.w K}{f:K->AV}(a:∀{v k},ab v=dA (f k)->knd.is k v=hY){m:qe (K×AV)}:∀{vs:qe (qo×qo)},abs (IT vs) (m.flatMap λp=>[f p.1,p.2])->∃iN,Carries knd vs iN/\rz iN m:=by
 induction m with
 |nil=>
  intro vs h;have:IT vs=[]:=mv h;cases vs with
  |nil=>exact⟨[],oy,dq⟩
  |cons=>cases this
 |cons p m ih=>
  intro vs h;cases vs with
  |nil=>cases h
  |cons q vs=>
   obtain⟨h1,h⟩:=aaB.mp (show ab q.1::ab q.2::(IT vs).map ab=dA (f p.1)::dA p.2::_ from h);obtain⟨h2,h⟩:=aaB.mp h;obtain⟨iN,i1,i2⟩:=ih h;exact⟨(p.1,q.2)::iN,⟨a h1,dq,i1⟩,aaB.mpr ⟨akh dq h2,i2⟩⟩
theorem Bw{st:St}{bW:St}{tk:qc}(I:fu W st s)(t:fu W bW s1)(r:Sf l st (s.heap.push o) bW s1.heap)(a:o.isFreed=np)(k:amx s.heap.objs.size s1.heap h')
  (hc:jD W h' s.heap.objs.size c)(m:v4 c=[])(y:young W s.heap.objs.size c)(p:dW c Q bW):QW W l st s.heap Q (.ref s.heap.objs.size) {s1 with heap:=h',toks:=tk}:=by
 have fr:=cO s.heap;have u:=I.h.p fr;have n1:¬b5 bW s.heap.objs.size:=λq=>r.v (I.h.s fr) (wt _ a) q;have f:Sf l st s.heap bW s1.heap:=(Sf.m λi i e=>qQ _ e).i r;have j:bW s.heap.objs.size=ft:=eY λ⟨_,e⟩=>n1<|sX e;have cM:∀{b},b∈foot s.heap.objs.size c->b=s.heap.objs.size:=λhb=>tO hb m;unfold dW at p;refine⟨_,_,dq,⟨Cd (D:=[s.heap.objs.size]) t.h (λb o n e=>(k.2 b λz=>n<|z▸.head _).trans e) (λb z=>qD.mp z▸u) (λx d e i b hb=>⟨λz=>n1 ⟨x,d,e,qD.mp z▸hb⟩,λz=>n1 ⟨x,d,e,cM z▸hb⟩⟩) (m▸λz=>nomatch z) hc y,t.a⟩,?_,p _ j⟩
 exact⟨λb o n e=>(f.r b o n e).elim λv g=>⟨v,(k.2 b λw=>aP fr (w▸⟨o,e⟩)).trans g.1,g.2⟩,λb ⟨x,d,e,hb⟩=>by
  rcases kK e with⟨e1,e2⟩|⟨_,e⟩
  ·rw[e1,e2]at hb;exact .inr<|cM hb▸fr
  ·exact f.G b ⟨x,d,e,hb⟩,λb o=>(f.s b o).elim λx z=>z.elim λd z=>⟨x,d,(Ce _ _ λw=>by rw[w,j]at z;cases z.1).trans z.1,z.2⟩⟩
theorem RS{i:qw}{es:jM}(y:SDs W C d u es):SE W C d u (.w i es):=λ{A env l ρ Q X st s p} c H j g=>by
 obtain⟨ha,hl,F⟩:=@I5 es (d7 p 0);have fr:=cO s.heap;have n:Sf l st s.heap st (s.heap.push {cls:=.type "dict",data:=.dict #[]}):=Sf.m λa a e=>qQ _ e;have D:dY W env l ρ st {s with heap:=s.heap.push {cls:=.type "dict",data:=.dict #[]}}:=H.g n ⟨H.a.h.m λa a e=>qQ _ e,H.a.a⟩
 have B:∀{K:Type} [xt K] {knd:ak2 W.a W.w K} {bW:St} {s1:qy},Sf l st (s.heap.push {cls:=.type "dict",data:=.dict #[]}) bW s1.heap->s1.heap.DictOf knd s.heap.objs.size []:=λf=>
  Heap.DictOf.B (Z6 s.heap) λo e=>f.A (H.a.h.s fr) e λE=>aP fr<|H.j.O E
 have x:(LM es<|d7 p 0).1.length<=15:=qg F<|qC (bB j);by_cases h0:(LM es<|d7 p 0).1=[]
 ·cases es with
  |t=>
   show qU _ A (eval (.Dict [] [] p.pos) env) _ _ s;refine wpAny_Dict_empty ?_;have go:∀{c:dZ},jD W (s.heap.push {cls:=.type "dict",data:=.dict #[]}) s.heap.objs.size c->v4 c=[]->dW c Q st->QW W l st s.heap Q (.ref s.heap.objs.size) {s with heap:=s.heap.push {cls:=.type "dict",data:=.dict #[]}}:=λh1 h2 h3=>QW.t (tk:=s.toks) H.a (λa a e=>qQ _ e) fr h1 h2 h3
   have g:EZ i [] Q st:=g;generalize ev:([]:qe AV)=vs at g;induction g with
   |@i l2 Q st q=>cases l2 with
    |nil=>exact go (c:=.d []) ⟨[],Z6 s.heap,pF⟩ dq q
    |cons=>cases ev
   |@s l2 Q st q=>cases l2 with
    |nil=>exact go (c:=.j []) ⟨[],Z6 s.heap,pF⟩ dq q
    |cons=>cases ev
  |o k es=>cases es with
   |t=>exact qH (bA j) qB
   |o v es=>cases h0
 ·cases i with
  |false=>
   refine wpAny_Dict_walk (knd:=ahB W.a W.w) ha hl h0 x<|wx (y (pos:=p.pos) c D (bA j) g) (λpv s1 z=>?_) λa a e=>e.r n;cases z with|mk av bW m r f q=>
   cases q with|s q=>
   obtain⟨iN,h1,h2⟩:=Jf (knd:=ahB W.a W.w) pk m;exact⟨iN,h1,B f,λh' t b=>Bw (c:=.j _) H.a r f dq b ⟨_,t,vK pF h2⟩ dq (H.a.h.p fr) q⟩
  |true=>
   refine wpAny_Dict_walk (knd:=acE W.a W.w) ha hl h0 x<|wx (y (pos:=p.pos) c D (bA j) g) (λpv s1 z=>?_) λa a e=>e.r n;cases z with|mk av bW m r f q=>
   cases q with|i q=>
   obtain⟨iN,h1,h2⟩:=Jf (knd:=acE W.a W.w) lC m;exact⟨iN,h1,B f,λh' t b=>Bw (c:=.d _) H.a r f dq b ⟨_,t,vK pF h2⟩ dq (H.a.h.p fr) q⟩
theorem afv(F:v5 W f):fnIn W.K (W.d f)=hY:=by
 obtain⟨⟨oc,od,a,b⟩,d,g,doc,e,k,c,_⟩:=F;cases(show a=_ from c);unfold fnIn;rw[eQ,e]
theorem IQ(F:v5 W f):keepIn W.K (.ref (W.d f))=hY:=by
 obtain⟨⟨oc,od,a,b⟩,d,g,doc,e,k,c,_⟩:=F;cases(show a=_ from c);unfold keepIn;dsimp only;rw[eQ,e]
theorem PH(O:W.g)(hc:gd c=hY):keepIn W.K (.ref (W.k c))=hY:=by
 cases(O.a c hc).1.p with|mk od b a e=>
 unfold keepIn;dsimp only;rw[eQ,e,BF O hc];exact(show(dA (dA (Zg "type.__call__"))==dA (dA (Zg "type.__call__")))=hY by decide)
theorem nM(h:Fd p=dA f)(b:Heap):∃k,(k=Keeper.frame\/k=Keeper.machine\/k=Keeper.boundFrame)/\Looks M b (keeperOf f) k:=by
 refine⟨.machine,.inr<|.inl dq,?_⟩;have a:=ph h
 have this:keeperOf f=pure .machine:=by
  cases f with
  |type|builtin=>rfl
  |_=>exact qH (qV.mp (show(abQ.all λp=>match p.2 with|.type _=>hY|.builtin _=>hY|_=>np)=hY by decide+kernel) _ a) qB
 rw[this];exactλA Q E s c q=>qW q
section
variable{A:xu}{E:qo->qy->Prop}{s:qy}{env:Env}
theorem BG(hb:(ncE e&&(a.endLine==pos.line&&decide (tE es<30)))=hY)
  (h:qU M A (eval (em e p) env) (λi j=>∀l,qU M A (getMethod i name l) (λd k=>qU M A (callWith pos d.1 d.2 (ZK pos<|xY (uX es ps) env) []) Q E k) E j) E s):
  qU M A (eval (.Call (.Attribute (em e p) name a) (uX es ps) [] pos) env) Q E s:=by
 rw[arm_eval_Call,Jt<|bA hb];refine qE<|wx h (λi j jG=>qE<|ZR ?_) λb b e=>e
 have c:(ZK pos (xY (uX es ps) env)).all (λx=>!x.1)=hY:=qV.mpr λx m=>by
  have:=aaC.mp (@p3 env es ps pos) x m;rw[xc];exact aaD.mpr this
 have g:methodCallForm ((uX es ps).length+([]:qe Keyword).length) (ZK pos (xY (uX es ps) env)) (backToKw pos (keywordEach [] env))=hY:=by
  unfold methodCallForm;rw[c,I0];show(hY&&decide (tE es+0<30))=hY;exact bB<|bB hb
 have f:methodCallPos true (em e p) env a pos=pure pos:=by unfold methodCallPos;rw[bA (bB hb)];rfl
 unfold methodCall calleeOf;rw[g,qK dq];refine qE<|zG (wx (jG _) (λd k tH=>?_) λb b e=>e);exact qE<|wpAny_of_eq f tH
end
theorem m6:((ZK pos (xY (uX es ps) env)).any (·.1)||([]:qe (qk Str×Sem qo)).any (·.1.isNone))=np:=by
 rw[p3];rfl
theorem BS(A:xu)(h:c.envs=[]):(A.under c).frames=A.frames:=by
 have:(A.under c).frames=PySem.pushEnvs c.envs A.frames:=dq;rw[this,h];rfl
variable{A:xu}{env:Env}{l:qe Env}{ρ:dz}
theorem y7{st bW:St}(hC:lK W C (d+1) (u+1))(c:Cx d u A env l)(g:dY W env l ρ bW s1)
  (b:Sf l st h0 bW s1.heap)(F:v5 W f)(h:abs sF vs)(q:C f vs Q X bW):
  acn (vl W.a W.w) A (.call (.ref<|W.d f) ⟨sF,[]⟩) (λr s'=>match r with|.ok (.ret v)=>QW W l st h0 Q v s'|.ok _=>qp|.error e=>EW W l st h0 X e s') s1:=
 hC q c.a c.g (xl c.f) (xl c.e) g.j g.a h F (λa a x=>x.r b) λa a x=>(x.r b).m
theorem RT(O:W.g)(hC:lK W C (d+1) (u+1))(i:LU W C d u es):SE W C d u (.h f es):=λ{A env l ρ Q X st s p} c H a g=>by
 obtain⟨j,F⟩:=O.r f<|bA (bA a);refine zv<|nR O c H.a (bB<|bA a) j ?_;refine Zv (P:=λh=>W.K.In h) m6 (keeps_K<|IQ F)<|re ?_;exact sP (.j _ _) H (i c H (bB a) g) λvs s1 g8 bW e b k q=>⟨b.a.h.j,acF<|y7 hC c b k F e q.2⟩
theorem Yi(O:W.g)(hC:lK W C (d+1) (u+1))(t:LU W C d u es):SE W C d u (.G k es):=λ{A env l ρ Q X st s p} c H a r=>by
 have h1:=bA<|bA a;refine zv<|nR O c H.a (bB<|bA a) (O.a k h1).2 ?_;refine Zv (P:=λh=>W.K.In h) m6 (keeps_K<|PH O h1)<|re ?_;refine sP (.j _ _) H (t c H (bB a) r) λvs s1 g8 bW o f j q=>⟨f.a.h.j,acF ?_⟩;have q:Gw C k _ Q X _:=q.2;unfold Gw at q;obtain⟨a,q⟩:=q;obtain⟨_,w,_,own⟩:=lG O h1 a;cases w;refine J8 (fl:=l) O h1 a f.a λx dx h' m B b=>?_
 refine hC (q x dx m) (l:=l) ((BS A (c:=.builtin "type.__call__" ⟨.ref (W.k k)::vs,[]⟩) dq).trans c.a) c.g (qN c.f) (qN c.e)
  (f.j.s b) B (gm (v:=.ref x) dq o) (je O own).2 (λv n h=>?_) λe n h=>(EX.r (j.i b) h).m
 cases h with|mk av D i z y g=>
 rw[g.1]at i;exact⟨Jw i,_,_,dq,z,(j.i b).i y,g.2⟩
theorem RP(O:W.g)(hC:lK W C (d+1) (u+1))(r:SE W C d u o)(n:LU W C d u es):SE W C d u (.y o m es):=λ{A env l ρ Q X st s p} c H a j=>by
 refine BG (bB<|bA a)<|gT (.j _ _) H (r c H (bA<|bB a) j) λv s1 av bW k b y q=>λD=>?_;cases q with|mk e h t q=>
 obtain rfl:=bT k;refine yQ O b.a.h e h t λdd w own=>?_;cases w;have F:=(je O own).2;refine Zv (P:=λh=>W.K.In h) m6 (keeps_K<|IQ F)<|re ?_;exact sP y b (n c b (bB<|bB a) q) λvs B g8 z i f x g=>⟨f.a.h.j,acF<|y7 hC c f x F (gm (v:=.ref _) dq i) g.2⟩
theorem MY(O:W.g)(hC:lK W C (d+1) (u+1))(t:LU W C d u es):SE W C d u (.P x es):=
  λ{A env l ρ Q X st s p} c H o f=>by
 obtain⟨i,f⟩:=(show(ρ x).isSome=hY/\_ from f);obtain⟨av,b⟩:=xq.mp i;refine zv<|uu c H (bA o) b λv' g=>?_;refine Zv (P:=λh=>∃a k m self,v'=.ref a/\(cA k).contains m=hY/\MethP W.K a (W.d<|.y k m) (.ref self) h) m6 (λh ⟨a,k,m,self,e,own,w⟩=>?_)<|re ?_
 ·subst e;exact keeps_M (afv (je O own).2) h w
 ·refine sP (.j _ _) H (t c H (bB o) f) λvs s1 g8 bW r j y q=>?_;have q:=q.2;rw[b]at q;cases q with|mk e q=>
  obtain rfl:=bT g;obtain⟨n,own⟩:=j.a.h.E _ _ e;exact⟨⟨_,_,_,_,dq,own,n,j.a.h.j⟩,acF<|method_call n (y7 hC c j y (je O own).2 (gm (v:=.ref _) dq r) q)⟩
theorem abP(p:Bf):∃g,Fd p.z=dA g:=by cases p<;>exact⟨_,dq⟩
theorem adD(O:W.g)(k:LU W C d u es):SE W C d u (.E f es):=λ{A env l ρ Q X st s p} c H b j=>by
 obtain⟨g,a⟩:=abP f;refine zv<|jh O c H.a (bA b) a ?_;refine Zv (P:=λe=>xT) m6 (λh e=>nM a h)<|re ?_;exact sP (.j _ _) H (k c H (bB b) j) λvs s1 g8 bW i n m q=>⟨oy,lH m<|NC c.g O n.a a i q.2⟩
theorem adF(O:W.g)(j:SE W C d u o)(i:LU W C d u es):SE W C d u (.M o m es):=λ{A env l ρ Q X st s p} c H a h=>by
 refine BG (bA a)<|gT (.j _ _) H (j c H (bA<|bB a) h) λv s1 av bW e b n q=>λx=>?_;refine PU b.a e q.1 ?_;refine callWith_builtin p3<|re ?_;exact sP n b (i c b (bB<|bB a) q.2) λvs w g8 t g r k f=>lH k<|PS O r.a e g f.2
theorem rg{E:qo->qy->Prop}
  (k:qU M A (adl<|ZK pos (xY (em e p::rest) env)) (λvs s'=>Q ⟨vs,[]⟩ s') E s):qU M A (evalArgs f hY (ZK pos<|xY (em e p::rest) env) []) Q E s:=by
 rw[kI]at k⊢;exact evalArgs_plain k
theorem GZ(O:W.g){st:St}{E:qo->qy->Prop}(c:Cx d u A env l)(I:fu W st s):∀{ps:qe qu} {Q:qe qo->qy->Prop},
  cs.all (λc=>oZ c&&gl env.scope c)=hY->Q (cs.map<|nY W) s->qU (vl W.a W.w) A (adl<|ZK pos (xY (emN cs ps) env)) Q E s:=by
 induction cs with
 |nil=>exactλa k=>zA k
 |cons x cs ih=>exactλh k=>ZM (BB O c I (bA<|bA h) (bB<|bA h)<|ih (bB h) k) dq
theorem DG:xY (emC cs p::rest) env=(np,eval (emC cs p) env)::xY rest env:=by
 cases cs with
 |nil=>rfl
 |cons c cs=>cases cs<;>rfl
theorem Ym(O:W.g)(y:SE W C d u e):SE W C d u (.K e cs):=λ{A env l ρ Q X st s p} c H f t=>by
 have g:=bA<|bB (bB f);have i:∀c∈cs,oZ c=hY:=λc hc=>bA<|qV.mp g c hc;refine zv<|jh O c H.a (bA f) dq ?_;refine callWith_builtin (by rw[kI,DG];rfl) ?_
 refine rg<|g4 (gT (.j _ _) H (y c H (bA<|bB f) t) λw s1 av bW j a m q=>?_);obtain⟨b,k,q'⟩:=q;refine ZM ?_ DG
 have aQ:qU (vl W.a W.w) A (eval (.Tuple (emN cs (d7 (cG p 2) 0)) (rT (cG p 2)) (cG p 2).pos) env) (λv s'=>qU (vl W.a W.w) A (adl (ZK p.pos (xY [] env))) (λvs z=>qU (vl W.a W.w) A (call (.builtin "isinstance") (w::v::vs)) (QW W l st s.heap Q) (EW W l st s.heap X) z) (EW W l st s.heap X) s') (EW W l st s.heap X) s1:=by
  refine ahG<|GZ O c a.a g ⟨by rw[qI];exact rP<|bB (bB<|bB f),zA ?_⟩
  have kp:∀b o,s1.heap.get? b=dA o->(s1.heap.push {cls:=.type "tuple",data:=.seq (cs.map (nY W)).toArray}).get? b=dA o:=λr r e=>qQ _ e;have n:fu W bW {s1 with heap:=s1.heap.push {cls:=.type "tuple",data:=.seq (cs.map (nY W)).toArray}}:=⟨a.a.h.m kp,a.a.a⟩
  exact(Bb O n i j k λtk=>QW.r (m.i (Sf.m kp)) (QW.p (s:={s1 with heap:=s1.heap.push {cls:=.type "tuple",data:=.seq (cs.map (nY W)).toArray}}) n dq q')).2 s1.heap.objs.size 0 #[] ft (wt _ dq)
 cases cs with
 |nil=>exact aQ
 |cons x cs=>cases cs with
  |nil=>exact BB O c a.a (i x<|.head _) (bB<|bA g)<|zA ((Bb O a.a i j k λtk=>QW.r m<|QW.p a.a dq q').1 x dq)
  |cons=>exact aQ
end
inductive Qs(h:Heap):qe AV->qo->Prop
 |E{a v}(hv:ab v=dA a):Qs h [a] v
 |i{a b T x y}(hT:h.IsTuple T #[x,y]) (hx:ab x=dA a) (hy:ab y=dA b):Qs h [a,b] (.ref T)
structure JA(W:Wd)(A:xu)(fJ:oF)(t:qu)(items:qe (qe AV))(I:qc)(pv:qe qc)(J:qc->Heap->Prop):Prop where
 R:∀i h h',J i h->(∀b∈pv,∀o,h.get? b=dA o->h'.get? b=dA o)->J i h'
 O:∀i h,J i h->∀b∈pv,∃o,h.get? b=dA o
 U:∀i vs (s:qy) st (Q:qk qo->qy->Prop) (E:qo->qy->Prop),items[i]?=dA vs->J i s.heap->fu W st s->fJ.c st->
  (∀v h1 tk,(∀b o,b∉pv->s.heap.get? b=dA o->h1.get? b=dA o)->
   (∀(Q':Z8->qy->Prop) (E':qo->qy->Prop),(∀h2,(∀b o,b∉pv->s.heap.get? b=dA o->h2.get? b=dA o)->J (i+1) h2->Qs h2 vs v->Q' () {s with heap:=h2,toks:=tk})->
    qU (vl W.a W.w) A (Z4 t (.ref I) v) Q' E' {s with heap:=h1,toks:=tk})->Q (dA v) {s with heap:=h1,toks:=tk})->qU (vl W.a W.w) A (ahU (.ref I)) Q E s
 S:∀(s:qy) st (Q:qk qo->qy->Prop) (E:qo->qy->Prop),J items.length s.heap->fu W st s->fJ.c st->
  (∀h1 tk,(∀b o,b∉pv->s.heap.get? b=dA o->h1.get? b=dA o)->Q ft {s with heap:=h1,toks:=tk})->qU (vl W.a W.w) A (ahU<|.ref I) Q E s
 N:∀(s:qy) st (Q:qo->qy->Prop) (E:qo->qy->Prop),J 0 s.heap->fu W st s->fJ.c st->Q (.ref I) s->qU (vl W.a W.w) A (pyIter<|.ref I) Q E s
section
variable{W:Wd}{A:xu}
noncomputable def VT:qe acr:=["enumerate", "zip", "dict_itemiterator", "dict_reverseitemiterator", "odict_iterator", "itertools.zip_longest", "itertools.pairwise"]
theorem Xb [Decidable c]{E:qo->qy->Prop}(h:¬c)(k:qU M A b Q E s):qU M A (if c then a else b) Q E s:=by rw[if_neg h];exact k
theorem OZ{E:qo->qy->Prop}(e:s.heap.get? I=dA o)(hc:o.cls=.type n)(b:VT.contains n=np)(fin:Q () s):qU (vl W.a W.w) A (Z4 (vE xs p) (.ref I) v) Q E s:=by
 have aQ:∀es k q,qU (vl W.a W.w) A (Z4 (.Tuple es k q) (.ref I) v) Q E s:=λes k q=>by
  unfold letOwnedTupleGo;cases v with
  |ref a=>
   refine qE<|wpAny_load e ?_;rw[hc];cases o.data with
   |fields vs=>exact Xb (λz=>qB<|b.symm.trans (bA z))<|qW fin
   |_=>exact qW fin
  |_=>exact qW fin
 cases xs with
 |nil=>exact qW fin
 |cons x xs=>cases xs with
  |nil=>exact qW fin
  |cons y xs=>exact aQ _ _ _
inductive Wk1(W:Wd)(A:xu)(items:qe (qe AV))(I:qc)(J:qc->Heap->Prop)(s:qy):Prop
 |mk(fp:qe qc)(n:qc)(P:qc->qo->Prop)(St:qc->Heap->Prop)(Wk:Walks W.a W.w A I fp [I] n P St)(hn:n=items.length)(h1:∀i,J i s.heap->St i s.heap)(h2:∀i h',St (i+1) h'->J (i+1) h')(h3:∀i v vs,items[i]?=dA vs->P i v->∃a,vs=[a]/\ab v=dA a)
theorem JA.V(w:VT.contains n=np)(r:∀i h,J i h->∃o,h.get? I=dA o/\o.cls=.type n)
  (z:∀i h h',J i h->(∀o,h.get? I=dA o->h'.get? I=dA o)->J i h')(m:∀(s:qy) st,fu W st s->fJ.c st->Wk1 W A items I J s):JA W A fJ (vE xs p) items I [I] J where
 R:=λi h h' x k=>z i h h' x<|k I (.head _)
 O:=λi h x b hb=>qD.mp hb▸(r i h x).elim λo y=>⟨o,y.1⟩
 U:=λi vs s st Q E hi c hI d j=>by
  cases m s st hI d with|mk t n P St Wk l h1 h2 h3=>
  refine Wk.item i s Q E (l▸(Z7.mp hi).1) (h1 i c) λv h' tk hP f q=>j v h' tk q λB C u=>?_;obtain⟨a,e,ha⟩:=h3 i v vs hi hP;obtain⟨o,g,hc⟩:=r _ _<|h2 i h' f;exact OZ (s:={s with heap:=h',toks:=tk}) g hc w<|u h' q (h2 i h' f) (e▸.E ha)
 S:=λs st Q E c hI d j=>by
  cases m s st hI d with|mk t n P St Wk l h1 h2 h3=>
  exact Wk.done s Q E (h1 _<|l▸c) j
 N:=λs st Q E c hI d j=>by
  cases m s st hI d with|mk t n P St Wk l h1 h2 h3=>
  exact Wk.self 0 s Q E (h1 _ c) j
theorem NJ{l:qe AV}{i:qc}{vs:qe AV}{ws:Array qo}{v:qo}(e:abs ws.toList l)(hi:(l.map λv=>[v])[i]?=dA vs)(d:ws[i]?=dA v):∃a,vs=[a]/\ab v=dA a:=by
 rw[xx]at hi;obtain⟨a,h1,h2⟩:=qS.mp hi;obtain⟨y,b,c⟩:=sy e h1;rw[xF,d]at b;exact⟨a,h2.symm,qA b▸c⟩
variable{xs:qe Nm}{p:qu}
theorem OI(d:A.handled=ft){a I:qc}{l:qe AV}(f:a≠I):JA W A [(a,.F l)] (vE xs p) (l.map λv=>[v]) I [I] (λi h=>h.IsListIter I a i):=by
 refine .V (n:= "list_iterator") (by decide) (λi h ⟨o,e,hc,_⟩=>⟨o,e,hc⟩) (λi h h' ⟨o,e,r⟩ k=>⟨o,k _ e,r⟩) (λs st hI c=>?_)
 obtain⟨ws,n,hl,b⟩:=hI.h.E _ _<|c _ (.head _);exact⟨_,_,_,_,Walks.list d I a f ws,by rw[qI];exact bu b,λi x=>⟨x,IsL.c hl⟩,λi h' x=>x.1,λi v vs hi hP=>NJ b hi hP⟩
theorem Tv(d:A.handled=ft){a I:qc}{l:qe AV}(f:a≠I):JA W A [(a,.H l)] (vE xs p) (l.map λv=>[v]) I [I] (λi h=>h.IsTupleIter I a i):=by
 refine .V (n:= "tuple_iterator") (by decide) (λi h ⟨o,e,hc,_⟩=>⟨o,e,hc⟩) (λi h h' ⟨o,e,r⟩ k=>⟨o,k _ e,r⟩) (λs st hI c=>?_)
 obtain⟨ws,n,hl,b⟩:=hI.h.E _ _<|c _ (.head _);exact⟨_,_,_,_,Walks.tuple d I a f ws,by rw[qI];exact bu b,λi x=>⟨x,IsT.b hl⟩,λi h' x=>x.1,λi v vs hi hP=>NJ b hi hP⟩
theorem Kj(a:A.handled=ft)(c:0<=n):JA W A [] (vE xs p) (wj n) I [I] (λi h=>IsRangeIter h I ((0:qd)+(i:qc)*1) ((n.toNat:qd)-(i:qc)) 1):=by
 refine .V (n:= "range_iterator") (by decide) (λi h x=>⟨_,x,dq⟩) (λi h h' x k=>k _ x) (λs st hI b=>?_)
 refine⟨_,_,_,_,Walks.range a I 0 1 n.toNat,by unfold wj;rw[List.length_map,List.length_range],λi x=>x,λi h' x=>x,λi v vs hi hP=>?_⟩
 obtain⟨tk,rfl⟩:=hP;unfold wj at hi;rw[xx]at hi;obtain⟨j,h1,h2⟩:=qS.mp hi
 have e:j=i:=by
  have lt:=(Z7.mp h1).1;rw[Zp]at lt;rw[aiK lt]at h1;exact(qA h1).symm
 subst e;exact⟨_,h2.symm,by show dA (AV.j<|0+(j:qd)*1)=dA (.j j);rw[Int.zero_add,Int.mul_one]⟩
theorem Tw(d:A.handled=ft){tk:Tok}(a:(nm= "str_ascii_iterator")\/nm= "str_iterator"):JA W A [] (vE xs p) (sK x) I [I] (λi h=>h.IsStrIter I nm x tk i):=by
 have f:Walks W.a W.w A I [I] [I] x.cps.size (SignAt x) (λi h=>h.IsStrIter I nm x tk i):=by
  rcases a with rfl|rfl
  ·exact Walks.strAscii d I x tk
  ·exact Walks.strWide d I x tk
 refine .V (n:=nm) (by rcases a with rfl|rfl<;>decide) (λi h ⟨o,e,hc,_⟩=>⟨o,e,hc⟩) (λi h h' y k=>f.frame i h h' y λb hb=>qD.mp hb▸k) λs st hI g=>?_
 refine⟨_,_,_,_,f,by unfold sK;rw[List.length_map,Array.length_toList],λi y=>y,λi h' y=>y,λi v vs hi hP=>?_⟩
 obtain⟨c,u,hc,rfl⟩:=hP;unfold sK at hi;rw[xx,xF,hc]at hi;exact⟨_,(qA hi).symm,dq⟩
inductive Wk2(W:Wd)(A:xu)(items:qe (qe AV))(I:qc)(pv:qe qc)(J:qc->Heap->Prop)(s:qy):Prop
 |mk(fp wr:qe qc)(n:qc)(Pt:qc->Array qo->Prop)(St:qc->Heap->Prop)(Mid:qc->zM->Heap->Prop)(Wk:WalksT W.a W.w A I fp wr n Pt St Mid)(sub:∀b∈wr,b∈pv)(hn:n=items.length)(h1:∀i,J i s.heap->St i s.heap)(h2:∀i h',St (i+1) h'->J (i+1) h')
   (h3:∀i g9 vs,items[i]?=dA vs->Pt i g9->∃x y a b,g9=#[x,y]/\vs=[a,b]/\ab x=dA a/\ab y=dA b)
theorem JA.X{pv:qe qc}
  (H:∀i h h',J i h->(∀b∈pv,∀o,h.get? b=dA o->h'.get? b=dA o)->J i h')(u:∀i h,J i h->∀b∈pv,∃o,h.get? b=dA o)
  (t:∀(s:qy) st,fu W st s->fJ.c st->Wk2 W A items I pv J s):JA W A fJ (vE (x::y::xs) p) items I pv J where
 R:=H
 O:=u
 U:=λi vs s st Q E hi f hI c d=>by
  cases t s st hI c with|mk w r n C St l Wk sub m h1 h2 h3=>
  have AW:∀{h h':Heap},(∀b o,b∉r->h.get? b=dA o->h'.get? b=dA o)->∀b o,b∉pv->h.get? b=dA o->h'.get? b=dA o:=λk b o n=>k b o λz=>n<|sub b z;refine Wk.item i s Q E (m▸(Z7.mp hi).1) (h1 i f) λT g9 h' tk hP AB K j q=>d (.ref T) h' tk (AW q) λL M G=>?_;obtain⟨x,y,a,b,rfl,rfl,F,D⟩:=h3 i g9 vs hi hP;refine Wk.go _ _ _ i T {s with heap:=h',toks:=tk} L M j λg v B=>G g (λb o n e=>AW B b o n<|AW q b o n e) (h2 i g v)<|.i ?_ F D
  exact K.elim λo e=>⟨o,B T o (Wk.apart _ _ _ j) e.1,e.2⟩
 S:=λs st Q E f hI c d=>by
  cases t s st hI c with|mk w r n C St l Wk sub m h1 h2 h3=>
  exact Wk.done s Q E (h1 _<|m▸f) λh1 tk q=>d h1 tk λb o n e=>q b o (λz=>n<|sub b z) e
 N:=λs st Q E f hI c d=>by
  cases t s st hI c with|mk w r n C St l Wk sub m h1 h2 h3=>
  exact Wk.self 0 s Q E (h1 _ f) d
structure alT(z TI TO i1 i2 l1 l2:qc)(i:qc)(h:Heap):Prop where
 z:IsZip h z TI TO .none
 c:IsPair h TI (.ref i1) (.ref i2)
 d:∃a b,IsPair h TO a b
 a:h.IsListIter i1 l1 i
 b:h.IsListIter i2 l2 i
theorem Tu(M:A.handled=ft)(D:ZipApart z TI TO i1 i2 a b):
  JA W A [(a,.F l),(b,.F m)] (vE (x::y::xs) p) (sW l m) z [z,TI,TO,i1,i2] (alT z TI TO i1 i2 a b):=by
 have I:TI∈[z,TI,TO,i1,i2]:=.tail _<|.head _;have H:TO∈[z,TI,TO,i1,i2]:=.tail _<|.tail _ (.head _);have G:i1∈[z,TI,TO,i1,i2]:=.tail _<|.tail _ (.tail _<|.head _);have F:i2∈[z,TI,TO,i1,i2]:=.tail _<|.tail _ (.tail _<|.tail _ (.head _));refine .X (λi h h' x k=>⟨k z (.head _) _ x.z,k TI I _ x.c,x.d.elim λc w=>w.elim λd w=>⟨c,d,k TO H _ w⟩,x.a.elim λo w=>⟨o,k i1 G _ w.1,w.2⟩,x.b.elim λo w=>⟨o,k i2 F _ w.1,w.2⟩⟩) (λi h x c hc=>?_) λs st hI u=>?_
 ·rcases qG.mp hc with e|hc
  ·exact e▸⟨_,x.z⟩
  ·rcases qG.mp hc with e|hc
   ·exact e▸⟨_,x.c⟩
   ·rcases qG.mp hc with e|hc
    ·exact e▸x.d.elim λC w=>w.elim λC w=>⟨_,w⟩
    ·rcases qG.mp hc with e|hc
     ·exact e▸x.a.elim λo w=>⟨o,w.1⟩
     ·exact qD.mp hc▸x.b.elim λo w=>⟨o,w.1⟩
 ·obtain⟨us,n,hl,v⟩:=hI.h.E _ _<|u _ (.head _);obtain⟨ws,P,N,g⟩:=hI.h.E _ _<|u _ (.tail _<|.head _);refine⟨_,_,_,_,_,_,WalksT.zip2 M z TI TO i1 i2 a b D us ws,λb hb=>?_,by unfold sW;rw[List.length_map,List.length_zip,bu v,bu g],λi x=>⟨x.z,x.c,x.d,x.a,x.b,IsL.c hl,IsL.c N⟩,λi h' x=>⟨x.1,x.2.1,x.2.2.1,x.2.2.2.1,x.2.2.2.2.1⟩,λi g9 vs hi hP=>?_⟩
  ·exact(qG.mp hb).elim (λe=>e▸.head _) λhb=>.tail _<|.tail _ hb
  ·obtain⟨x,y,K,J,rfl⟩:=hP;unfold sW at hi;rw[xx]at hi;obtain⟨t,L,e⟩:=qS.mp hi;obtain⟨q,j⟩:=List.getElem?_zip_eq_some.mp L;obtain⟨O,B,E⟩:=sy v q;obtain⟨y',f,r⟩:=sy g j;rw[xF,K]at B;rw[xF,J]at f;exact⟨x,y,t.1,t.2,dq,e.symm,qA B▸E,qA f▸r⟩
theorem s7{E:qo->qy->Prop}(d:s.heap.IsTupleIter it t i)(f:s.heap.IsTuple t items)(e:items[i]?=dA x)
  (g:∀h',h'.IsTupleIter it t (i+1)->amx it s.heap h'->Q x {s with heap:=h'}):qU (vl W.a W.w) A (acz<|.ref it) Q E s:=by
 obtain⟨o,a,hc,hd⟩:=id d;obtain⟨h,b,_,j,c⟩:=f;unfold Builtin.SmallTypes.nextOf
 refine qE (acy (name:=Zq "__next__") d.typeIs Zb
  (ahA Zb d.typeIs ahK ?_ (ahF _)))
 show qU _ _ (field (.ref it) 0>>=_) _ _ s;refine qE<|zW a hd (x:=.ref t) dq ?_;show qU _ _ (if(Bn t==ace)=hY then _ else _) _ _ s
 rw[if_neg (show¬((Bn t==ace)=hY)from qB)];show qU _ _ (field (.ref it) 1>>=_) _ _ s;refine qE<|zW a hd (x:=.int i 0) dq ?_;show qU _ _ (seqItems? (.ref t)>>=_) _ _ s;refine qE<|ah1 b c ?_;simp only[Int.toNat_natCast,e];refine wpAny_bind<|wpAny_setField a hd (by simp) (wpAny_pure ⟨x,rfl,wpAny_pure<|g _ ?_ (Heap.SameBut.update ..)⟩)
 exact⟨_,aie _ a (aik (acT hd _)),(Obj.cls_mapFields ..).trans hc,by
  rw[Obj.data_mapFields hd];simp[rawInt]⟩
theorem uL{E:qo->qy->Prop}(g:A.handled=ft)(f:s.heap.IsTupleIter it t i)(j:s.heap.IsTuple t items)(h:items[i]?=ft)
  (k:∀h' e,Heap.ExtBut it s.heap h'->(∃o,h'.get? e=dA o/\o.cls=.type "StopIteration")->E (.ref e) {s with heap:=h'}):qU (vl W.a W.w) A (acz (.ref it)) Q E s:=by
 obtain⟨o,c,hc,hd⟩:=id f;obtain⟨l,b,_,n,d⟩:=j;unfold Builtin.SmallTypes.nextOf
 refine qE (acy (name:=Zq "__next__") f.typeIs Zb
  (ahA Zb f.typeIs ahK ?_ (ahF _)))
 show qU _ _ (field (.ref it) 0>>=_) _ _ s;refine qE<|zW c hd (x:=.ref t) dq ?_;show qU _ _ (if(Bn t==ace)=hY then _ else _) _ _ s
 rw[if_neg (show¬((Bn t==ace)=hY)from qB)];show qU _ _ (field (.ref it) 1>>=_) _ _ s;refine qE<|zW c hd (x:=.int i 0) dq ?_;show qU _ _ (seqItems? (.ref t)>>=_) _ _ s;refine qE<|ah1 b d ?_;simp only[Int.toNat_natCast,h];refine wpAny_bind<|wpAny_rule (wpAny_bind<|wpAny_setField c hd (by simp) ?_)
 show qU _ _ (newExc (.type "StopIteration") []>>=_) _ _ _;refine qE ?_;simp only[newExc,newTuple];refine qE (af2 ?_ (by size_fits))
 refine wpAny_bind (m:=firstArgMember _ _)<|wpAny_of_eq (a:=Value.none) (by first|rfl|(simp only[firstArgMember];rfl)) ?_
 refine af2 ?_ (by size_fits)
 refine qE<|wpAny_handled ?_
 first|rw[show A.in1.handled=ft from g]|rw[g]
 refine qE<|qW (wpAny_throw ?_);exact k _ _ (((Heap.SameBut.update ..).extBut.push _).push _) ⟨_,wt _ dq,dq⟩
theorem EV(g:A.handled=ft)(it l:zM)(m:l≠it)(items:Array qo):
  Draws W.a W.w A it [it,l] items.size (λi v=>items[i]?=dA v) (λi h=>h.IsTupleIter it l i/\h.IsTuple l items)where
 live:=λb b st=>let⟨o,f,_⟩:=st.1;⟨o,f⟩
 frame:=λb b b st d=>⟨st.1.at λo e=>d it (by simp) o e,st.2.at λo e=>d l (by simp) o e⟩
 item:=λi s Q E hi st j=>by
  refine s7 st.1 st.2 (x:=items[i]) (by simp[hi]) λh' c a=>?_
  exact j _ h' s.toks (by simp[hi]) ⟨c,st.2.at λo e=>(a.2 l m).trans e⟩ a
 done:=λs Q E st k=>uL g st.1 st.2 (by simp) k
theorem OJ(u:A.handled=ft)(h1:e≠it)(h2:e≠a)(h3:a≠it):
  JA W A [(a,.H l)] (vE (x::y::xs) p) (uW l) e [e,it] (λi h=>(∃old,IsEnum h e it i old)/\h.IsTupleIter it a i):=by
 have j:it∈[e,it]:=.tail _<|.head _;refine .X (λi h h' x k=>⟨x.1.elim λo w=>⟨o,k e (.head _) _ w⟩,x.2.elim λo w=>⟨o,k it j _ w.1,w.2⟩⟩) (λi h x c hc=>?_) λs st hI t=>?_
 ·rcases qG.mp hc with e|hc
  ·exact e▸x.1.elim λv w=>⟨_,w⟩
  ·exact qD.mp hc▸x.2.elim λo w=>⟨o,w.1⟩
 ·obtain⟨us,n,hl,d⟩:=hI.h.E _ _ (t _ (.head _));refine⟨_,_,_,_,_,_,WalksT.enumerateD (EV (A:=A.in1) u it a h3 us) e h1 (λz=>(List.mem_cons.mp z).elim h1 λz=>h2 (List.mem_singleton.mp z)) (.head _),λb hb=>hb,by unfold uW;rw[List.length_map,List.length_zipIdx];exact bu d,λi x=>⟨x.1,x.2,IsT.b hl⟩,λi h' x=>⟨x.1,x.2.1⟩,λi g9 vs hi hP=>?_⟩
  obtain⟨tk,x,m,rfl⟩:=hP;unfold uW at hi;rw[xx,List.getElem?_zipIdx,ZS]at hi;obtain⟨q,r,e⟩:=qS.mp hi;obtain⟨B,f,g⟩:=sy d r;rw[xF,m]at f;exact⟨_,x,_,_,dq,e.symm,by show dA (AV.j (i:qd))=dA (.j ((0+i:qc):qd));rw[vu],qA f▸g⟩
set_option tactic.hygienic true in
theorem o9(l:zM)(items:Array qo)(n:qc):
  Meets (Builtin.«enumerate.__new__» ⟨[.type "enumerate",.ref l],[]⟩) (λf R s=>s.heap.get? l=dA {cls:=.type "tuple",dict:=ft,data:=.seq items n,slots:=#[]}/\
   R (.ok (.ret (.ref (s.heap.push {cls:=.type "tuple_iterator",data:=.fields #[.ref l,.int 0 0]}).objs.size)))
    {s with heap:=(s.heap.push {cls:=.type "tuple_iterator",data:=.fields #[.ref l,.int 0 0]}).push {cls:=.type "enumerate",data:=.fields #[.none,.bool np,.ref s.heap.objs.size,rawInt 0,.none,.none]}}):=
 .of_wp λprog w A R s h=>by
  obtain⟨c,g,d,tk,os⟩:=s;obtain⟨hl,h⟩:=h;have e:=sub_enumerate;have a:Heap.IsTuple (Shared.heap ⟨c,g,d,tk,os⟩) l items:=⟨_,hl,dq,n,dq⟩
  wp_walk using AutoSeq1.wpAny_loadPart' hl
  refine wpAny_stack_any λst=>qW ?_;generalize acS (λ_=>qw) (List.drop 1 st) _ _=b;cases b
  ·wp_walk using AutoSeq1.wpAny_loadPart' hl,wpAny_pyIter_tuple a
   exact⟨_,dq,h⟩
  ·wp_walk using AutoSeq1.wpAny_loadPart' hl,wpAny_pyIter_tuple a
   exact⟨_,dq,h⟩
theorem pC{E:qo->qy->Prop}(hl:IsT s.heap l items n)
  (h:∀h',IsEnum h' (s.heap.objs.size+1) s.heap.objs.size 0 .none->h'.IsTupleIter s.heap.objs.size l 0->(∀b o,s.heap.get? b=dA o->h'.get? b=dA o)->Q (.ref<|s.heap.objs.size+1) {s with heap:=h'}):
  qU (vl W.a W.w) A (call (.type "enumerate") [.ref l]) Q E s:=by
 refine callType_new F.called_enumerate (by decide) (F.typeCall_enumerate_1 _) (F.newCall_enumerate_1 _) (λobj=>F.args_object_init_2 obj _) F.entry_enumerate_new
  (o9 l items n) ⟨hl,?_⟩
 have a:(s.heap.push {cls:=.type "tuple_iterator",data:=.fields #[.ref l,.int 0 0]}).objs.size=s.heap.objs.size+1:=Bi ..;show _/\_;rw[a]
 have c:IsEnum ((s.heap.push {cls:=.type "tuple_iterator",data:=.fields #[.ref l,.int 0 0]}).push
   {cls:=.type "enumerate",data:=.fields #[.none,.bool np,.ref s.heap.objs.size,rawInt 0,.none,.none]}) (s.heap.objs.size+1) s.heap.objs.size 0 .none:=by
  have:=wt (s.heap.push {cls:=.type "tuple_iterator",data:=.fields #[.ref l,.int 0 0]})
   (o:={cls:=.type "enumerate",data:=.fields #[.none,.bool np,.ref s.heap.objs.size,rawInt 0,.none,.none]}) dq
  rw[a]at this;exact this
 exact⟨⟨_,c,dq⟩,h _ c ⟨_,qQ _<|wt _ dq,dq,dq⟩ λb o x=>qQ _<|qQ _ x⟩
inductive Vf(W:Wd)(A:xu)(l:qe Env)(t:qu)(st:St)(h:Heap)(Q:oF->qe (qe AV)->St->Prop)(it:qo)(s2:qy):Prop
 |mk(fJ:oF)(items:qe (qe AV))(I:qc)(pv:qe qc)(J:qc->Heap->Prop)(bW:St)(h1:Heap)(e:it=.ref I)(wv:JA W A fJ t items I pv J)(j0:J 0 s2.heap)(I1:eM W bW h1)(sh:Sh W s2)(S:Sf l st h bW h1)(T6:∀b∈pv,h1.get? b=ft)(kp:∀b o,h1.get? b=dA o->s2.heap.get? b=dA o)(q:Q fJ items bW)
end
theorem JD(l1:a<n)(l2:b<n):ZipApart (n+4) (n+2) (n+3) n (n+1) a b:=by
 refine⟨?_,?_,?_,?_,?_,?_,?_,?_,?_,?_,?_,?_,?_,?_,?_,?_,?_,?_⟩<;>(intro z;have c:(_:qc)=_:=z;grind)
def QS(W:Wd)(C:dG)(d u:qc)(it:It):Prop:=∀{A:xu} {env:Env} {l:qe Env} {ρ:dz} {Q:oF->qe (qe AV)->St->Prop} {X:St->Prop} {st:St} {s:qy} {p t:qu} {xs:qe Nm},
 Cx d u A env l->dY W env l ρ st s->okI env.scope it p=hY->NM xs it=hY->ac0 W.T C it ρ Q X st->
 qU (vl W.a W.w) A (eval (Ud it p) env) (λx s1=>qU (vl W.a W.w) A (pyIter x) (Vf W A l (vE xs t) st s.heap Q) (EW W l st s.heap X) s1) (EW W l st s.heap X) s
section
variable{W:Wd}{C:dG}{d u:qc}
theorem Mk(h:(xs.length==2)=hY):∃x y,xs=[x,y]:=by
 cases xs with
 |nil=>cases h
 |cons x xs=>cases xs with
  |nil=>cases h
  |cons y xs=>cases xs with
   |nil=>exact⟨x,y,dq⟩
   |cons=>exact qH (eq_of_beq h) (λz=>by cases z)
theorem yr{h:Heap}{b:qc}(hb:b∈[h.objs.size]):h.get? b=ft:=qD.mp hb▸cO h
theorem DK{e:Ex}(k:SE W C d u e):QS W C d u (.F e):=λc H j m i=>by
 refine gT (.j _ _) H (k c H j i) λv s1 av bW f a g q=>?_;induction q with
 |F e1 q=>
  obtain rfl:=bT f;obtain⟨us,hl,l⟩:=IsL.N<|a.a.h.E _ _ e1;exact amq hl ⟨_,_,s1.heap.objs.size,_,_,_,s1.heap,dq,OI c.g<|zy (hl.elim λo x=>zc x.1),⟨_,wt _ dq,dq,dq⟩,a.a.h,a.a.a,g,λb=>yr,λb o e=>qQ _ e,q⟩
 |H e1 q=>
  obtain rfl:=bT f;obtain⟨us,n,hl,l⟩:=a.a.h.E _ _ e1;exact wpAny_pyIter_tuple (IsT.b hl) ⟨_,_,s1.heap.objs.size,_,_,_,s1.heap,dq,Tv c.g<|zy (zc hl),⟨_,wt _ dq,dq,dq⟩,a.a.h,a.a.a,g,λb=>yr,λb o e=>qQ _ e,q⟩
 |t q=>
  obtain⟨tk,rfl⟩:=Qd f;exact wpAny_pyIter_strU ⟨_,_,s1.heap.objs.size,_,_,_,s1.heap,rfl,Tw (tk:=tk) c.g (by unfold strIterType;split;exact .inl rfl;exact .inr rfl),⟨_,Heap.get?_push_size _ rfl,rfl,rfl⟩,a.a.h,a.a.a,g,λb=>yr,λb o e=>Heap.get?_push_of_some _ e,q⟩
theorem AP(O:W.g)(k:SE W C d u e):QS W C d u (.c e):=λ{A env l ρ Q X st s p t xs} c H f a i=>by
 refine zv<|jh O c H.a (bA f) dq ?_;refine Zv (P:=λa=>xT) (by rw[kI];rfl) (λh a=>nM (p:=⟨135⟩) dq h)<|rg ?_
 refine g4<|gT (.j _ _) H (k c H (bB f) i) λw s1 av bW j g m q=>?_;induction q with
 |@mk n Q st h0 h1 q=>
  obtain⟨tk,rfl⟩:=fI j;refine zA ⟨oy,call_range_1 ?_⟩;have h1:n<1000000:=h1;have hr:=IsRange.new s1.heap 0 n 1 s1.toks tk<|s1.toks+1;refine wpAny_pyIter_range hr (small_one (by grind) (by grind) (by grind) (by grind)) ?_
  have AB:adW 0 n 1=n.toNat:=by rw[rangeSize_one];split<;>grind
  refine⟨_,_,(s1.heap.objs.size+1),_,_,_,s1.heap,by rw[Bi],Kj c.g h0,?_,g.a.h,g.a.a,m,λb hb=>qD.mp hb▸iT (xO _),λb o e=>Ny _ _ _ b o e,q⟩
  show IsRangeIter _ _ _ _ _;have:=wt (s1.heap.push {cls:=.type "range",data:=.fields #[.int 0 s1.toks,.int n tk,.int 1 (s1.toks+1)]}) (o:={cls:=.type "range_iterator",data:=.fields #[rawInt 0,rawInt (adW 0 n 1),rawInt 1]}) dq;rw[Bi,AB]at this;rw[AB];simpa using this
theorem HK(O:W.g)(K:SE W C d u e)(J:SE W C d u f):QS W C d u (.d e f):=λ{A env l ρ Q X st s p t xs} c H j I o=>by
 obtain⟨x,y,rfl⟩:=Mk I;refine zv<|jh O c H.a (bA j) dq ?_;refine Zv (P:=λk=>xT) (by rw[kI,kI];rfl) (λh k=>nM (p:=⟨41⟩) dq h)<|rg ?_
 refine g4<|gT (.j _ _) H (K c H (bA<|bB j) o) λw s1 av bW G v N q=>g4<|gT N v (J c v (bB<|bB j) q) λS a aw T i b M g=>?_;clear q o;induction g with
 |mk e1 e2 g=>
  obtain rfl:=bT G;obtain rfl:=bT i;obtain⟨us,n,hl,V⟩:=b.a.h.E _ _ e1;obtain⟨ws,U,r,L⟩:=b.a.h.E _ _ e2;have l1:=zc hl;have l2:=zc r;refine zA ⟨oy,call_zip_2 (IsL.c hl) (IsL.c r) λh' m F E D B R z=>wpAny_pyIter_zip m ?_⟩;refine⟨_,_,a.heap.objs.size+4,_,_,_,a.heap,dq,Tu c.g (TI:=a.heap.objs.size+2) (TO:=a.heap.objs.size+3) (i1:=a.heap.objs.size) (i2:=a.heap.objs.size+1)<|JD l1 l2,⟨m,F,⟨_,_,E⟩,D,B⟩,b.a.h,b.a.a,M,λc hc=>iT ?_,z,g⟩;have:∀c∈[4,2,3,0,1],a.heap.objs.size<=a.heap.objs.size+c:=λc k=>qj _ _;exact List.forall_mem_map.mpr this c hc
theorem DM(O:W.g)(r:SE W C d u e):QS W C d u (.f e):=λ{A env l ρ Q X st s p t xs} c H f o k=>by
 obtain⟨x,y,rfl⟩:=Mk o;refine zv<|jh O c H.a (bA f) dq ?_;refine Zv (P:=λg=>xT) (by rw[kI];rfl) (λh g=>nM (p:=⟨240⟩) dq h)<|rg ?_
 refine g4<|gT (.j _ _) H (r c H (bB f) k) λw s1 av bW m a v q=>?_;induction q with
 |mk e1 q=>
  obtain rfl:=bT m;obtain⟨us,n,hl,B⟩:=a.a.h.E _ _ e1;have l1:=zc hl;refine zA ⟨oy,pC hl λh' b j i=>wpAny_pyIter_enum b ?_⟩;refine⟨_,_,s1.heap.objs.size+1,_,_,_,s1.heap,dq,OJ c.g (it:=s1.heap.objs.size) (aj7 _) (ah2<|xW l1)<|zy l1,⟨⟨_,b⟩,j⟩,a.a.h,a.a.a,v,λc hc=>iT ?_,i,q⟩;exact(qG.mp hc).elim (λz=>z▸xO _) λz=>qD.mp z▸qm _
end
section
variable{W:Wd}{st dX:St}{h:Heap}{l:qe Env}{env:Env}{ρ:dz}
theorem lV{h':Heap}{P:qe qc}(I:eM W st h)(k:∀b o,b∉P->h.get? b=dA o->h'.get? b=dA o)(n:∀p∈P,¬b5 st p)(z:∀p∈P,W.b.heap.get? p=ft):eM W st h':=
 ⟨λb o e=>k b o (λq=>aP (z b q) ⟨o,e⟩)<|I.i b o e,λa a e=>p6 (I.E _ _ e) λb hb o=>k b o λw=>n b w<|yn e hb,I.f,I.r,I.g⟩
theorem j7{h0 h':Heap}{P:qe qc}(S:Sf l dX h0 st h)(k:∀b o,b∉P->h.get? b=dA o->h'.get? b=dA o)(z:∀p∈P,h0.get? p=ft):Sf l dX h0 st h':=
 ⟨λb o n e=>(S.r b o n e).elim λa g=>⟨a,k b _ (λq=>aP (z b q) ⟨o,e⟩) g.1,g.2⟩,S.G,S.s⟩
theorem jk.C{h':Heap}{P:qe qc}(x:jk W st h l)(k:∀b o,b∉P->h.get? b=dA o->h'.get? b=dA o)(z:∀p∈P,p∉dm l):jk W st h' l:=x.u (λa a n a=>n) λL o c a e a=>⟨o.slots,k L o (λq=>z L q c) e⟩
theorem LR.C{h':Heap}{P:qe qc}(x:LR W env st h ρ)(k:∀b o,b∉P->h.get? b=dA o->h'.get? b=dA o)(d:env.locals∉P)(c:∀p∈env.cells,p.2∉P):LR W env st h' ρ:=x.u (λa a a n a=>n) λb o f a e a=>⟨o.slots,k b o (λq=>f.elim (λw=>d<|w▸q) λw=>(xf.mp w).elim λp w=>c p w.1<|w.2▸q) e⟩
theorem AZ{h':Heap}{a:qc}(c:∀b,b≠a->h'.get? b=h.get? b):∀b o,b∉[a]->h.get? b=dA o->h'.get? b=dA o:=λb d w e=>(c b λz=>w<|z▸.head _).trans e
theorem eS{a:qc}{p:qc->Prop}(h:p a):∀b∈[a],p b:=λc hb=>qD.mp hb▸h
theorem H9(h:b≠a):b∉[a]:=λz=>h<|qD.mp z
end
structure TB(xs:qe Nm)(m m':Str->qk qo)(ρ aI:dz):Prop where
 p:∀x∈xs,∃v,aI x=dA v/\(m' x.t).map ab=dA (dA v)
 a:∀n,(∀x∈xs,n≠x.t)->m' n=m n
 H:∀x,x∉xs->aI x=ρ x
theorem rY(h:lc sc x=hY):sc.names.lookup x.t=dA .local:=eq_of_beq<|bA h
theorem A1{sc:zE}{xs:qe Nm}(h:LF sc xs=hY){P:qe Nm->Prop}(cM:∀x,lc sc x=hY->P [x])(mI:∀x y,lc sc x=hY->lc sc y=hY->x≠y->P [x,y]):P xs:=by
 cases xs with
 |nil=>exact qH h qB
 |cons x xs=>cases xs with
  |nil=>exact cM x h
  |cons y xs=>cases xs with
   |nil=>
    have h:(lc sc x&&lc sc y&&x !=y)=hY:=h;exact mI x y (bA<|bA h) (bB<|bA h)<|zJ.mp (bB h)
   |cons=>exact qH h qB
section
variable{W:Wd}
theorem sq{E:qo->qy->Prop}(e:env.scope.kind=.function)(a:lc env.scope x=hY)(d:s.heap.Ns env.locals m)
  (k:∀h',(∀b,b≠env.locals->h'.get? b=s.heap.get? b)->h'.Ns env.locals (λn=>if n=x.t then dA v else m n)->∀tk,Q () {s with heap:=h',toks:=tk}):qU (vl W.a W.w) A (ae6 (.Name x.t pos) env v) Q E s:=
 amr (ajN (rY a) d (λh' f c=>k h' c.2 f _) (by rw[e];rfl))
theorem Ac{A:xu}{env:Env}{st:St}{s:qy}{E:qo->qy->Prop}{xs:qe Nm}{t:qu}{v:qo}{vs:qe AV}{ρ:dz}{m:Str->qk qo}{R:dz->Prop}{Q:Z8->qy->Prop}
  (U:A.handled=ft)(G:env.scope.kind=.function)(I:fu W st s)(N:LF env.scope xs=hY)(j:Qs s.heap vs v)(F:s.heap.Ns env.locals m)(hb:mr xs vs ρ st R)
  (k:∀h' tk m' aI,(∀b o,b≠env.locals->s.heap.get? b=dA o->h'.get? b=dA o)->h'.Ns env.locals m'->TB xs m m' ρ aI->R aI->Q () {s with heap:=h',toks:=tk}):
  qU (vl W.a W.w) A (ae6 (vE xs t) env v) Q E s:=by
 revert hb k;refine A1 (P:=λxs=>mr xs vs ρ st R->(∀h' tk m' aI,(∀b o,b≠env.locals->s.heap.get? b=dA o->h'.get? b=dA o)->h'.Ns env.locals m'->TB xs m m' ρ aI->R aI->Q () {s with heap:=h',toks:=tk})->qU (vl W.a W.w) A (ae6 (vE xs t) env v) Q E s) N (λx p=>?_) λx y p q l=>?_<;>intro hb k
 ·cases j with
  |i=>exact hb.elim
  |@E a _ j=>
   refine sq G p F λh' O Y tk=>k h' tk _ (ρ.H x a) (λb o hb e=>(O b hb).trans e) Y ⟨λz f=>?_,λn f=>if_neg<|f x (.head _),λz f=>if_neg λ(e:z=x)=>f<|e▸.head _⟩ hb;rw[qD.mp f];exact⟨a,qK dq,(qh (q0 ab)<|qK dq).trans (qh dA j)⟩
 ·have mI:∃T c d i g,v=.ref T/\s.heap.IsTuple T #[i,g]/\ab i=dA c/\ab g=dA d/\R ((ρ.H x c).H y d):=by
   cases j with
   |i H p q=>exact⟨_,_,_,_,_,dq,H,p,q,hb⟩
   |E j=>
    obtain⟨a,c,d,rfl,e1,J⟩:=hb;obtain⟨ws,n,hl,V⟩:=I.h.E _ _ e1;obtain⟨i,g,e2,e3,e4⟩:=De V;cases(ajI.mp e2:ws=#[i,g]);exact⟨_,c,d,i,g,bT j,IsT.b hl,e3,e4,J⟩
  clear j hb;obtain⟨T,c,dd,i,g,rfl,H,hc,hd,J⟩:=mI;refine wpAny_assign_Tuple U H (by rfl) (by rfl) λh1 K=>?_
  have X:env.locals≠s.heap.objs.size:=(mQ F).elim λo S=>zy<|zc S;have D:h1.Ns env.locals m:=F.at' λo e=>K _ o X e;show qU _ A (assignInOrder [ae6 (.Name x.t _) env,ae6 (.Name y.t _) env] [i,g]) Q E _;refine qE<|zG (sq G p D λh2 u C M=>qE<|zG (sq G q C λh3 r B L=>?_));refine qW<|k h3 _ _ _ (λb o hb e=>(r b hb).trans ((u b hb).trans (K b o (zy<|zc e) e))) B ⟨λz f=>?_,λn f=>(if_neg<|f y (.tail _<|.head _)).trans (if_neg<|f x (.head _)),λz f=>(if_neg λ(e:z=y)=>f<|e▸.tail _ (.head _)).trans (if_neg λ(e:z=x)=>f<|e▸.head _)⟩ J;rcases qG.mp f with e|e
  ·rw[e];exact⟨c,(if_neg l).trans (qK dq),(qh (q0 ab)<|(if_neg λe=>l<|Nm.hV.mp e).trans (qK dq)).trans (qh dA hc)⟩
  ·rw[qD.mp e];exact⟨dd,qK dq,(qh (q0 ab)<|qK dq).trans (qh dA hd)⟩
end
theorem yf(scope:zE)(env:Env)(n:Str):(relabel scope env).names.lookup n=(scope.names.lookup n).map λk=>if(k==.free&&env.scope.kind==.function&&env.kindOf n==dA .cell)then .cell else k:=by
 show(scope.names.map λ(n,k)=>if(k==xJ&&env.scope.kind==.function&&env.kindOf n==dA .cell)then(n,ZX)else(n,k)).lookup n=_
 induction scope.names with
 |nil=>rfl
 |cons p r ih=>
  obtain⟨a,k⟩:=p;show List.lookup n ((if(k==xJ&&env.scope.kind==.function&&env.kindOf a==dA .cell)=hY then(a,ZX)else(a,k))::_)=_
  by_cases q:n=a
  ·subst q;by_cases z:(k==xJ&&env.scope.kind==.function&&env.kindOf n==dA .cell)=hY
   ·rw[qK z,xz,xz,qZ];exact qh dA (qK z).symm
   ·rw[if_neg z,xz,xz,qZ];exact qh dA (if_neg z).symm
  ·have q':(n==a)=false:=by simpa using q
   by_cases z:(k==xJ&&env.scope.kind==.function&&env.kindOf a==dA .cell)=hY
   ·rw[qK z,xz,xz,q'];exact ih
   ·rw[if_neg z,xz,xz,q'];exact ih
noncomputable def y2(env:Env)(p:Str×Ze)(acc:qe (Str×zM)):qe (Str×zM):=bif p.2==.free then(p.1,(env.cells.lookup p.1).getD 0)::acc else acc
def r9(env:Env)(l:qe (Str×Ze))(acc:qe (Str×zM)):qe (Str×zM):=l.foldl (λacc p=>y2 env p acc) acc
theorem y3(env:Env)(l:qe (Str×Ze)):∀(acc:qe (Str×zM)) (p:Str×zM),p∈r9 env l acc->p∈acc\/((p.1,xJ)∈l/\p.2=(env.cells.lookup p.1).getD 0):=by
 induction l with
 |nil=>exactλacc p h=>.inl h
 |cons q r ih=>
  intro acc p h;rcases ih (y2 env q acc) p h with h|h
  ·unfold y2 at h;cases e:q.2==xJ with
   |true=>
    rw[e]at h;rcases qG.mp h with rfl|h
    ·exact .inr ⟨zK.mp e▸.head _,dq⟩
    ·exact .inl h
   |false=>rw[e]at h;exact .inl h
  ·exact .inr ⟨.tail _ h.1,h.2⟩
theorem E8(env:Env)(q:Str×Ze)(h:p∈acc):p∈y2 env q acc:=by
 unfold y2;cases q.2==xJ with
 |true=>exact .tail _ h
 |false=>exact h
theorem E9(env:Env)(l:qe (Str×Ze)):∀{acc:qe (Str×zM)} {p:Str×zM},p∈acc->p∈r9 env l acc:=by
 induction l with
 |nil=>exactλh=>h
 |cons q r ih=>exactλh=>ih<|E8 env q h
theorem G3(env:Env)(l:qe (Str×Ze))(n:Str):∀(acc:qe (Str×zM)),(n,xJ)∈l->(n,(env.cells.lookup n).getD 0)∈r9 env l acc:=by
 induction l with
 |nil=>exactλacc h=>qH h qX
 |cons q r ih=>
  intro acc h;rcases qG.mp h with h|h
  ·exact h▸E9 env r (.head _)
  ·exact ih _ h
theorem yE{cs:qe (Str×zM)}{f:Str->zM}(h:∀p∈cs,p.2=f p.1){n:Str}{c:zM}(d:(n,c)∈cs):cs.lookup n=dA (f n):=by
 induction cs with
 |nil=>cases d
 |cons p r ih=>
  obtain⟨a,b⟩:=p;rw[xz];by_cases q:n=a
  ·subst q;rw[qZ];exact qh dA<|h _ (.head _)
  ·have q':(n==a)=false:=by simpa using q
   rw[q'];rcases qG.mp d with e|d
   ·cases e;exact qH dq q
   ·exact ih (λp g=>h p<|.tail _ g) d
theorem G0{env:Env}{scope:zE}(hc:∀p∈scope.names,p.2=.free->(env.cells.lookup p.1).isSome=hY):
  ∃cl,closureFor scope env=pure cl/\(∀p∈cl,env.cells.lookup p.1=dA p.2)/\∀n,(n,xJ)∈scope.names->cl.lookup n=env.cells.lookup n:=by
 refine⟨r9 env scope.names [],?_,λp a=>?_,λn d=>?_⟩
 ·unfold closureFor
  have key:∀(l:qe (Str×Ze)) (acc:qe (Str×zM)),(∀p∈l,p.2=.free->(env.cells.lookup p.1).isSome=hY)->
    (forIn l acc λ(x:Str×Ze) (cs:qe (Str×zM))=>(match x with|(name,kind)=>if(kind==xJ)=hY then do let c←cellOf env name;pure (zB<|(name,c)::cs)else pure (zB cs):Sem _))=pure (r9 env l acc):=by
   intro l;induction l with
   |nil=>intro acc _;rfl
   |cons p r ih=>
    intro acc h;obtain⟨n,k⟩:=p;rw[List.forIn_cons];refine aiN (b:=((if(k==xJ)=hY then(cellOf env n>>=λc=>pure<|zB ((n,c)::acc))else pure (zB acc):Sem (ForInStep<|qe (Str×zM)))>>=_)) dq ?_
    show _=pure (r9 env r<|bif k==xJ then(n,(env.cells.lookup n).getD 0)::acc else acc)
    by_cases q:(k==xJ)=hY
    ·rw[q];obtain⟨c,e⟩:=xq.mp (h _ (.head _) (zK.mp q));have:cellOf env n=pure c:=by unfold cellOf;rw[e]
     rw[qK dq,this,e];exact ih _ λp a=>h p<|.tail _ a
    ·rw[if_neg q,aaD.mpr q];exact ih _ λp a=>h p<|.tail _ a
  have:=key scope.names [] hc;exact(qh (λm:Sem (qe<|Str×zM)=>m>>=λcs=>pure cs) this).trans dq
 ·rcases y3 env _ _ _ a with h|⟨h1,h2⟩
  ·cases h
  ·obtain⟨c,e⟩:=xq.mp<|hc _ h1 rfl;rw[h2,e];rfl
 ·obtain⟨c,e⟩:=xq.mp (hc _ d rfl)
  have:=yE (cs:=r9 env scope.names []) (f:=λn=>(env.cells.lookup n).getD 0) (λp a=>by
   rcases y3 env _ _ _ a with h|⟨h1,h2⟩
   ·cases h
   ·exact h2) (G3 env _ _ [] d)
  rw[this,e];rfl
theorem SK(x:Nm):x.t≠(".0" :Str):=by
 by_cases h:x.i<278
 ·exactλz=>qH (qV.mp (show(J2.all λx=>!(x==(".0" :Str)))=hY by decide+kernel) _ (xX (Nm.wX h))) (by rw[z,qZ];exact qB)
 ·rw[Nm.sJ h];exactλz=>qH (qh (λs:Str=>s.cps.size) z) (by decide+kernel:¬1=(".0" :Str).cps.size)
structure Hq(xs:qe Nm)(scope:zE)(env:Env):Prop where
 b:scope.kind=.function
 c:∀p∈scope.names,p.2=.local->p.1=(".0" :Str)\/∃x∈xs,x.t=p.1
 E:∀p∈scope.names,p.2≠.cell
 j:∀p∈scope.names,p.2=.free->env.kindOf p.1=dA .cell
 a:∀p∈scope.names,p.2=.local->scope.names.lookup p.1=dA .local
theorem Gp(h:yu xs scope env.scope=hY):Hq xs scope env:=by
 unfold yu at h;simp only[Bool.and_eq_true,beq_iff_eq,List.all_eq_true,Bool.or_eq_true,bne_iff_ne,ne_eq,List.any_eq_true]at h;obtain⟨⟨⟨⟨h1,h2⟩,h3⟩,h4⟩,b⟩:=h;exact⟨h1,λp a e=>(h2 p a).elim (λz=>z.elim (λz=>qH e z) .inl) .inr,λp a=>h3 p a,λp a e=>(h4 p a).elim (λz=>qH e z) id,λp a e=>(b p a).elim (λz=>qH e z) id⟩
section
variable{W:Wd}{env:Env}{st:St}{h:Heap}{ρ aI:dz}{xs:qe Nm}{scope:zE}{m m':Str->qk qo}
theorem jw{α:Type}{l:qe (Str×α)}{n:Str}{k:α}(q:l.lookup n=dA k):(n,k)∈l:=by
 induction l with
 |nil=>cases q
 |cons p r ih=>
  rw[xz]at q;by_cases z:n=p.1
  ·rw[z,qZ]at q;exact z▸qA q▸.head _
  ·rw[zN z]at q;exact .tail _<|ih q
theorem UB{cl:qe (Str×zM)}{C:qc}(H:LR W env st h ρ)(J:env.scope.kind=.function)(O:Hq xs scope env)(r:∀p∈cl,env.cells.lookup p.1=dA p.2)(u:∀n,(n,xJ)∈scope.names->cl.lookup n=env.cells.lookup n)
  (I:h.Ns C m')(hb:TB xs m m' ρ aI)(hC:¬b5 st C)(t:W.b.heap.get? C=ft)(s:∀x∈xs,(relabel scope env).names.lookup x.t=dA .local):LR W (ZT scope cl C env) st h aI:=by
 obtain⟨⟨L,cm,a,b,c⟩,d,e,f,g⟩:=H
 have kd:∀{n k},(relabel scope env).names.lookup n=dA k->(k=.local->(n,NameKind.local)∈scope.names)/\(k=.cell->(n,xJ)∈scope.names/\env.kindOf n=dA .cell):=λ{n k} q=>by
  rw[yf]at q;obtain⟨E,hl,i⟩:=qS.mp q;have j:=jw hl;cases E with
  |free=>
   have l:=O.j _ j dq;rw[qK (by rw[J,l];rfl)]at i
   exact⟨λz=>(by rw[z]at i;cases i),λA=>⟨j,l⟩⟩
  |cell=>exact qH dq<|O.E _ j
  |«local»=>exact⟨λA=>j,λz=>by rw[z]at i;cases i⟩
  |_=>exact⟨λz=>(by rw[z]at i;cases i),λz=>by rw[z]at i;cases i⟩
 refine⟨⟨m',cm,I,λn c' q=>b n c'<|r _ (jw q),λx v q=>⟨λo=>?_,λo=>?_⟩⟩,λn D c' q q'=>d n D c' (r _<|jw q)<|r _ (jw q'),λn q=>?_,⟨hC,t⟩,λp G=>g _<|jw (r p G)⟩
 ·obtain⟨y,F,K⟩:=(O.c _ ((kd o).1 rfl) rfl).resolve_left (SK x);obtain⟨w,h1,h2⟩:=hb.p y F;rw[Nm.hV.mp K]at h1 h2;exact h2.trans<|qh dA (h1.symm.trans q)
 ·obtain⟨j,l⟩:=(kd o).2 rfl;have B:x∉xs:=λz=>by have:=(s x z).symm.trans o;cases this
  rw[hb.H x B]at q;obtain⟨r1,r2⟩:=(c x v q).2 l;exact⟨by show(cl.lookup _).isSome=hY;rw[u _ j];exact r1,r2⟩
 ·obtain⟨j,l⟩:=(kd q).2 rfl;show(cl.lookup n).isSome=hY;rw[u _ j];exact e n l
end
theorem AE{B f h h':Heap}{C:qc}(hB:∀b o,f.get? b=dA o->B.get? b=dA o)(i:∀b,b≠C->h'.get? b=h.get? b){l:qe Env}(hl:∀a∈dm l,a≠C)(x:h.FunFrames B l):h'.FunFrames f l:=by
 induction l with
 |nil=>trivial
 |cons env l ih=>
  obtain⟨a,⟨L,o,b,c,d,e⟩,r⟩:=x;have g:L≠C:=hl L<|xD.mpr ⟨env,.head _,b⟩;exact⟨a,⟨L,o,b,eY λ⟨o,q⟩=>aP c ⟨o,hB _ _ q⟩,(i L g).trans d,e⟩,ih (λa ha=>hl a<|(xD.mp ha).elim λj z=>xD.mpr ⟨j,.tail _ z.1,z.2⟩) r⟩
theorem T8{B h h':Heap}{l:qe Env}{e C:qc}{v:Str->qk qo}(x:Ah B l e h)(w:h.Ns C v)(hl:∀a∈dm l,a≠C)(c:∀b,b≠C->h'.get? b=h.get? b):Ah (ZB B [C]) l e h':=by
 cases x with|mk f1 f2 y a0 fl t vs T u ts m s h0 hd h1 f i n r h3=>
 have j:∀{b:qc} {o:Obj} {vs:Array qo},h.get? b=dA o->o.data=.fields vs->b≠C:=λhb k z=>by
  obtain⟨A,es,D,d,g,_⟩:=w;rw[z,d]at hb;cases hb;rw[g]at k;cases k
 have AW:∀b o,(ZB B [C]).get? b=dA o->B.get? b=dA o:=λb o q=>ahY _ q;have p:∀b,B.get? b=ft->(ZB B [C]).get? b=ft:=λb q=>eY λ⟨o,z⟩=>aP q ⟨o,AW _ _ z⟩;refine⟨λb o q=>(c b λz=>?_).trans (f1 b o<|AW _ _ q),p _ f2,AE AW c hl y,a0,fl,t,vs,T,u,ts,(c e<|j m hd).trans m,s,h0,hd,h1,p _ f,i,(c T<|j n r).trans n,r,h3⟩;exact aP (afY _<|z▸.head _) ⟨o,q⟩
theorem AG.i{st:St}(x:AG st h ba h')(z:h.get? C=ft)(d:∀b,b≠C->a.get? b=h'.get? b):AG st h ba a:=
 ⟨λb o n e q=>(x.r b o n e q).elim λc w=>⟨c,(d b λy=>aP z ⟨o,y▸e⟩).trans w⟩,x.G⟩
section
variable{W:Wd}{d:qc}{A:xu}{env:Env}{l:qe Env}{st bW:St}{s:qy}
theorem PF{u:qc}{afR:Env}{X:St->Prop}{s1:qy}{use:qk (qo->Sem Z8)}{Q0:qo->qy->Prop}{acc:qo}{Cc:qc}{h:Str->qk qo}(t:Cx d u A afR l)(F:jk W st s.heap l)(S:Sf l st s.heap bW s1.heap)(hC:s1.heap.Ns Cc h)(p:¬b5 bW Cc)(C:W.b.heap.get? Cc=ft)(m:s.heap.get? Cc=ft){e:qo}{s':qy}
  (x:EW W l bW s1.heap X e s'):afw (vl W.a W.w) A afR (λe N=>aj1 (vl W.a W.w) A (EW W l st s.heap X) use Q0 acc Cc (.error e) N) e s':=by
 cases x with|mk J B ba H sh O ex U K I=>
 subst H;obtain⟨fe,outer,L,rfl,i,j⟩:=t.c;unfold notedBy;refine tP t.a i j ex λh2 Q E=>?_;have v:AG bW s1.heap ba h2:=U.u E;have g:¬b5 ba Cc:=λq=>(mQ hC).elim λo G=>U.v p G q;have c:h2.Ns Cc h:=VV hC λo e q=>v.r _ _ p e q;have k:∀a∈dm (fe::outer),a≠Cc:=λa ha z=>aP m<|z▸F.O ha;refine⟨h,c,λh3 r M R=>GO (s:={s' with heap:=h3}) (T8 Q c k r.2) λh4 P D=>?_⟩
 have y:=Kp.r S K;exact⟨J,_,ba,dq,sh,O.v (eS C)<|eS g,.inl P,((AG.j S v).i m r.2).u D,⟨λb o n e f=>zX _ (y.1 b o n e f) λq=>aP m<|qD.mp q▸⟨o,e⟩,y.2⟩,I⟩
end
def WX(W:Wd)(A:xu)(t elt:qu)(ifs:qe qu)(it acc:qo)(env:Env)(N:qo->qy->Prop)(i go:qy->Prop)(s:qy):Prop:=
 qU (vl W.a W.w) A (ahU it) (λr d=>r.elim (i d) λv=>
  qU (vl W.a W.w) A (Z4 t it v) (λa e=>qU (vl W.a W.w) A (ae6 t env v) (λa h=>
   qU (vl W.a W.w) A (forIn ifs hY λc r=>if r=hY then do let ok←isTrue c env (eval c env);pure (zB ok)else pure (zB r)) (λok b=>
    if ok=hY then qU (vl W.a W.w) A (eval elt env) (λx g=>qU (vl W.a W.w) A (call (.builtin "list.append") [acc,x]) (λa f=>go f) N g) N b else go b) N h) N e) N d) N s
theorem CY{R:Result->qy->Prop}(I:qc->qy->Prop)
  (cy:∀n s,I n s->WX W A t elt ifs it acc env (afw (vl W.a W.w) A env λe s'=>R (.error e) s') (R<|.ok .next) (λs=>∃m,m<n/\I m s) s)
  (n:qc)(h:I n s):acn (vl W.a W.w) A (.compLoop (.ListComp elt [⟨t,iter,ifs,0⟩] scope pos) 0 it acc env) R s:=by
 refine codeAny_loop dq I (λn s hI=>?_) n h;show qU _ A ((compTurn (.ListComp elt [⟨t,iter,ifs,0⟩] scope pos) 0 it acc env).onRaise (λx=>do noteFrame x env;theTreesLotGoes x)) _ _ s
 refine wpAny_noted ?_;rw[compTurn_list];refine qE<|ZR (qE<|wx (cy n s hI) (λr i jG=>?_) λa a h'=>h');cases r with
 |none=>exact qW jG
 |some v=>
  exact qE (wx jG (λa j d=>qE (wx d (λa o tH=>qE (wx tH (λok g f=>by
   cases ok with
   |false=>exact qW ⟨dq,f⟩
   |true=>exact qE (qE (wx f (λx l b=>qE (wx b (λa k c=>qW (qW ⟨dq,c⟩)) λa a h'=>h')) λa a h'=>h'))) λa a h'=>h')) λa a h'=>h')) λa a h'=>h')
theorem Oq{st bW:St}(I:eM W bW h1)(S:Sf l st h bW h1)(n:¬b5 bW D)(f:h.get? D=ft)(hc:jD W h1 D c)(hd:v4 c=[])(i:young W D c):eM W (bW.H D c) h1/\Sf l st h (bW.H D c) h1:=by
 have cM:∀{b},b∈foot D c->b=D:=λhb=>tO hb hd;have g:bW D=ft:=eY λ⟨_,e⟩=>n<|sX e
 exact⟨Cd (D:=[]) I (λb o a e=>e) (λa z=>nomatch z) (λx d e a b hb=>⟨(λz=>nomatch z),λz=>n ⟨x,d,e,cM z▸hb⟩⟩) (hd▸(λz=>nomatch z)) hc i,
  S.r,λb ⟨x,d,e,hb⟩=>(kK e).elim (λe=>.inr<|cM (e.1▸e.2▸hb)▸f) λe=>S.G b ⟨x,d,e.2,hb⟩,
  λb o=>(S.s b o).elim λx z=>z.elim λd z=>⟨x,d,(Ce _ _ λw=>by rw[w,g]at z;cases z.1).trans z.1,z.2⟩⟩
theorem A0(h:LF sc xs=hY):∀x∈xs,sc.names.lookup x.t=dA .local:=
 A1 (P:=λxs=>∀x∈xs,sc.names.lookup x.t=dA .local) h (λa c a b=>qD.mp b▸rY c) λa a c d a a b=>(qG.mp b).elim (λe=>e▸rY c) λb=>qD.mp b▸rY d
def Jy(W:Wd)(d u:qc)(X:St->Prop)(tw:dz->(qk AV->St->Prop)->St->Prop)(elt:qu)(ifs:qe qu)(env:Env):Prop:=∀{A:xu} {l:qe Env} {ρ:dz} {K:qk AV->St->Prop} {st:St} {s:qy} {G:qk qo->qy->Prop} {E:qo->qy->Prop},
 Cx d u A env l->dY W env l ρ st s->tw ρ K st->(∀e s',EW W l st s.heap X e s'->E e s')->
 (∀x a av sM,ab x=dA av->dY W env l ρ sM a->Sf l st s.heap sM a.heap->K (dA av) sM->G (dA x) a)->
 (∀a sM,dY W env l ρ sM a->Sf l st s.heap sM a.heap->K ft sM->G ft a)->
 qU (vl W.a W.w) A (forIn ifs hY λc r=>if r=hY then do let ok←isTrue c env (eval c env);pure (zB ok)else pure (zB r)) (λok b=>
  if ok=hY then qU (vl W.a W.w) A (eval elt env) (λx f=>G (dA x) f) E b else G ft b) E s
section
variable{W:Wd}{C:dG}{d u:qc}{X:St->Prop}{env:Env}{e c:Ex}{p:qu}
theorem Ml(h:SE W C d u e)(c:ok env.scope e p=hY):Jy W d u X (λρ K st=>Lz W.T C e ρ (λv st=>K (dA v) st) X st) (em e p) [] env:=λj H g i k1 a=>
 wpAny_tests_nil (wx (gT (.j _ _) H (h j H c g) λx b av sM f l k q=>k1 x b av sM f l k q) (λa a q=>q) i)
theorem Rb(B:SE W C d u e)(hc:ST W C d u c)(o:ok env.scope e p=hY)(r:ok env.scope c pc=hY):
  Jy W d u X (λρ K st=>Lz W.T C c ρ (λv st=>jl v λt=>if t then Lz W.T C e ρ (λv st=>K (dA v) st) X st else K ft st) X st) (em e p) [em c pc] env:=λ{A l ρ K st s G E} i H z h k1 k2=>by
 refine wpAny_tests_one<|wx (MV (.j _ _) H (hc (Q:=λt st=>if t then Lz W.T C e ρ (λv st=>K (dA v) st) X st else K ft st) i H r z) (k:=λok g=>if ok=hY then qU (vl W.a W.w) A (eval (em e p) env) (λx I=>G (dA x) I) E g else G ft g) λb n D f j q=>?_) (λa a q=>q) h
 cases b with
 |false=>exact k2 n D f j q
 |true=>exact wx (gT j f (B i f o q) λx m av sM y J F q=>k1 x m av sM y J F q) (λa a q=>q) h
end
structure CF(W:Wd)(l:qe Env)(env:Env)(ρ:dz)(st:St)(h:Heap)(vg:St)(hb:Heap)(Cc D:qc)(pv:qe qc):Prop where
 S:Sf l st h vg hb
 j:jk W vg hb l
 b:LR W env vg hb ρ
 I:eM W vg hb
 m:∀p∈Cc::D::pv,hb.get? p=ft
 e:∀p∈Cc::D::pv,h.get? p=ft
 a:D≠Cc
 d:D∉pv
 i:Cc∉pv
inductive CLI(W:Wd)(l:qe Env)(vg:St)(hb:Heap)(J:qc->Heap->Prop)(Cc D:qc)(pv:qe qc)(N:qc)(F:qc->qe AV->St->Prop)(n:qc)(s1:qy):Prop
 |mk(bW:St)(i:qc)(acc:qe AV)(ys:Array qo)(k:qc)(m:Str->qk qo)(IE:i+n=N)(I1:fu W bW s1)(S1:Sf l vg hb bW s1.heap)(hn:s1.heap.Ns Cc m)(hl:IsL s1.heap D ys k)(al:abs ys.toList acc)(hJ:J i s1.heap)(vR:∀p∈Cc::D::pv,¬b5 bW p)(hf:F i acc bW)
theorem yG{W:Wd}{A:xu}{E:qo->qy->Prop}{s:qy}{D:qc}{items:Array qo}{n:qc}{x:qo}{Q:qo->qy->Prop}(hl:IsL s.heap D items n)(a:items.size<=ahV)
  (k:Q .none {s with heap:=s.heap.update D (Z0 λxs=>xs.push x)}):qU (vl W.a W.w) A (call (.builtin "list.append") [.ref D,x]) Q E s:=
 aby aeC ⟨_,hl,dq⟩ ajX (ajH _ _) (list_append _ items n x a) ⟨hl,k⟩
section
variable{W:Wd}{d u:qc}{A:xu}{env:Env}{l:qe Env}{X:St->Prop}{st vg:St}{s s1:qy}{ρ:dz}{hb:Heap}{Cc D I:qc}{pv:qe qc}{xs:qe Nm}{scope:zE}{J:qc->Heap->Prop}{fJ:oF}{items:qe (qe AV)}{tw:dz->(qk AV->St->Prop)->St->Prop}{p elt:qu}{ifs:qe qu}{Q:AV->St->Prop}{use:qk (qo->Sem Z8)}{Q0:qo->qy->Prop}{n:qc}
def CZ(tw:dz->(qk AV->St->Prop)->St->Prop)(xs:qe Nm)(ρ:dz)(fJ:oF)(items:qe (qe AV))(Q:AV->St->Prop)(i:qc)(acc:qe AV)(st:St):Prop:=Bo fJ (λvs K st=>mr xs vs ρ st λaI=>tw aI K st) (items.drop i) acc (λl st=>dW (.F l) Q st) st
theorem KW(H:dY W env l ρ st s)(F:CF W l env ρ st s.heap vg hb Cc D pv)(O:JA W A fJ (vE xs p) items I pv J)(hI:CLI W l vg hb J Cc D pv items.length (CZ tw xs ρ fJ items Q) 0 s1)
  {N:qo->qy->Prop}{M:qy->Prop}{g:qo->qy->Prop}
  (fin:∀ba s',dY W env l ρ ba s'->Sf l st s.heap ba s'.heap->Q (.d D) ba->¬b5 ba Cc->(∃m,s'.heap.Ns Cc m)->M s'):qU (vl W.a W.w) A (ahU<|.ref I) (λr G=>r.elim (M G) λv=>g v G) N s1:=by
 cases hI with|mk bW i acc ys k m V E U t u y K j f=>
 have hi:i=items.length:=V;rw[hi]at f K;unfold CZ at f;rw[ajV]at f;obtain⟨T,Z,f⟩:=f;have C:∀{b},b∈pv->b∈Cc::D::pv:=λhb=>.tail _<|.tail _ hb;have Y:Cc∈Cc::D::pv:=.head _;have q:D∈Cc::D::pv:=.tail _<|.head _;have old:∀{p},p∈Cc::D::pv->W.b.heap.get? p=ft:=λa=>F.I.p<|F.m _ a;refine O.S s1 bW _ _ K E T λh2 tk n=>?_;have B:IsL h2 D ys k:=n _ _ F.d u;obtain⟨X,L⟩:=Oq (c:=.F acc) (lV E.h n (λp a=>j p<|C a) λp a=>old<|C a) (j7 (F.S.i U) n λp a=>F.e p<|C a) (j D q) (F.e D q) ⟨ys,k,B,y⟩ rfl<|old q;have P:bW D=ft:=eY λ⟨_,z⟩=>j D q<|sX z;have R:¬b5 (bW.H D<|.F acc) Cc:=λ⟨x,d,e,hb⟩=>(kK e).elim (λe=>F.a (tO (e.1▸e.2▸hb) rfl).symm) λe=>j Cc Y ⟨x,d,e.2,hb⟩;unfold dW at f;exact fin _ {s1 with heap:=h2,toks:=tk} (H.g (s':={s1 with heap:=h2,toks:=tk}) L ⟨X,E.a⟩) L (f D P) R ⟨m,t.at' λo e=>n _ _ F.i e⟩
theorem UA{cl:qe (Str×zM)}(t:Cx d u A env l)(H:dY W env l ρ st s)(O:Hq xs scope env)(EG:∀p∈cl,env.cells.lookup p.1=dA p.2)(Kz:∀n,(n,xJ)∈scope.names->cl.lookup n=env.cells.lookup n)(ht:LF (Au scope env.scope) xs=hY)
  (F:CF W l env ρ st s.heap vg hb Cc D pv)(N:JA W A fJ (vE xs p) items I pv J)(T:Jy W d u X tw elt ifs (ZT scope cl Cc env))(hI:CLI W l vg hb J Cc D pv items.length (CZ tw xs ρ fJ items Q) (n+1) s1){B1:qy->Prop}:
  WX W A (vE xs p) elt ifs (.ref I) (.ref D) (ZT scope cl Cc env) (afw (vl W.a W.w) A (ZT scope cl Cc env) λe s'=>aj1 (vl W.a W.w) A (EW W l st s.heap X) use Q0 (.ref D) Cc (.error e) s') B1
   (λs=>∃m,m<n+1/\CLI W l vg hb J Cc D pv items.length (CZ tw xs ρ fJ items Q) m s) s1:=by
 cases hI with|mk bW i acc ys k m IE I1 S1 hn1 hl1 K hJ L U=>
 have Kv:i+1+n=items.length:=(xQ i 1 n).trans IE;have LJ:i<items.length:=q9 (xS i)<|Kv▸qj _ _;unfold CZ at U;rw[ahE LJ]at U;obtain⟨ho,Ku,U⟩:=U;have Sk:∀{b},b∈pv->b∈Cc::D::pv:=λhb=>.tail _<|.tail _ hb;have g:Cc∈Cc::D::pv:=.head _;have DL:D∈Cc::D::pv:=.tail _<|.head _;have old:∀{p},p∈Cc::D::pv->W.b.heap.get? p=ft:=λa=>F.I.p<|F.m _ a;refine N.U i _ s1 bW _ _ (xe LJ) hJ I1 ho λv ha tk hka IG=>IG _ _ λh2 TP hJ2 aaH=>?_;have I2:eM W bW h2:=lV I1.h TP (λp a=>L p<|Sk a) λp a=>old<|Sk a;refine Ac (env:=ZT scope cl Cc env) (s:={s1 with heap:=h2,toks:=tk}) t.g O.b ⟨I2,I1.a⟩ ht aaH (hn1.at' λo e=>TP _ _ F.i e) U λh3 P m3 aI (C:∀b o,b≠Cc->h2.get? b=dA o->h3.get? b=dA o) (f:h3.Ns Cc m3) htb hR=>?_
 have Y:∀b o,b∉[Cc]->h2.get? b=dA o->h3.get? b=dA o:=λb o w=>C b o λz=>w<|z▸.head _;have I3:eM W bW h3:=lV I2 Y (eS<|L _ g)<|eS (old g);have S3:Sf l vg hb bW h3:=j7 (j7 S1 TP λp a=>F.m p<|Sk a) Y<|eS (F.m _ g);have y:IsL h3 D ys k:=C _ _ F.a<|TP _ _ F.d hl1;have E:J (i+1) h3:=N.R _ _ _ hJ2 λb hb o e=>C b o (λz=>F.i<|z▸hb) e;have V:Cx d u A (ZT scope cl Cc env) l:=⟨t.a,t.c,t.g,t.f,t.e,t.B,t.h,O.b⟩;have HC:dY W (ZT scope cl Cc env) l aI bW {s1 with heap:=h3,toks:=P}:=⟨UB (F.b.s S3) t.b O EG Kz f htb (L Cc g) (old g)<|A0 ht,F.j.s S3,⟨I3,I1.a⟩⟩
 have XG:∀p∈Cc::D::pv,∃o,h3.get? p=dA o:=λp a=>(qG.mp a).elim (λe=>e▸mQ f) λa=>(qG.mp a).elim (λe=>e▸⟨_,y⟩) λa=>N.O _ _ E p a;have YZ:∀{sM:St} {h4:Heap},Sf l bW h3 sM h4->∀p∈Cc::D::pv,¬b5 sM p:=λc p a q=>(XG p a).elim λo e=>c.v (L p a) e q;have M:∀{sM:St} {h4:Heap},Sf l bW h3 sM h4->∀p∈Cc::D::pv,∀o,h3.get? p=dA o->h4.get? p=dA o:=λc p a o e=>c.A (L p a) e λz=>aP (F.m p a)<|F.j.O z
 refine T (G:=λr j=>r.elim (∃m,m<n+1/\CLI W l vg hb J Cc D pv items.length (CZ tw xs ρ fJ items Q) m j) λx=>qU (vl W.a W.w) A (call (.builtin "list.append") [.ref D,x]) (λzz Rq=>∃m,m<n+1/\CLI W l vg hb J Cc D pv items.length (CZ tw xs ρ fJ items Q) m Rq) _ j)
  V HC hR (λe s' x=>PF (s1:={s1 with heap:=h3,toks:=P}) V H.j (F.S.i S3) f (L Cc g) (old g) (F.e Cc g) x) (λx j av sM hx H4 c q4=>?_) λj sM H4 c q4=>?_
 ·have R:IsL j.heap D ys k:=M c D DL _ y;have B:∀b o,b≠D->j.heap.get? b=dA o->(j.heap.update D (Z0 λxs=>xs.push x)).get? b=dA o:=λb o w e=>(acq _ _ w.symm).trans e;have Z:∀b o,b∉[D]->j.heap.get? b=dA o->(j.heap.update D (Z0 λxs=>xs.push x)).get? b=dA o:=λb o w=>B b o λz=>w (z▸.head _)
  refine yG R (by rw[bu K];exact gp Ku) ⟨n,xS n,sM,i+1,acc++[av],ys.push x,_,m3,Kv,⟨lV H4.a.h Z (eS (YZ c _ DL)) (eS (old DL)),H4.a.a⟩,j7 (S3.i c) Z (eS (F.m _ DL)),
   f.at' λo e=>B _ _ F.a.symm (M c Cc g o e),R.update _,?_,N.R _ _ _ E λb hb o e=>B b o (λz=>F.d (z▸hb)) (M c b (Sk hb) o e),YZ c,q4⟩
  rw[aiO];exact n8 K<|gm hx mw
 ·exact⟨n,xS n,sM,i+1,acc,ys,k,m3,Kv,H4.a,S3.i c,f.at' λo e=>M c Cc g o e,M c D DL _ y,K,N.R _ _ _ E λb hb o e=>M c b (Sk hb) o e,YZ c,q4⟩
theorem VX(it:It)(p:qu)(env:Env)(x:qo):agc (Ud it p) env x=pure x:=by
 cases it with
 |F e=>exact(nV e p).F env x
 |_=>rfl
def Fin(W:Wd)(A:xu)(env:Env)(l:qe Env)(ρ:dz)(Q:AV->St->Prop)(X:St->Prop)(use:qk (qo->Sem Z8))(Q0:qo->qy->Prop)(st:St)(s:qy):Prop:=∀D Cc ba s',dY W env l ρ ba s'->Sf l st s.heap ba s'.heap->Q (.d D) ba->¬b5 ba Cc->W.b.heap.get? Cc=ft->s.heap.get? Cc=ft->(∃m,s'.heap.Ns Cc m)->
 aj1 (vl W.a W.w) A (EW W l st s.heap X) use Q0 (.ref D) Cc (.ok .next) s'
theorem EM:Fin W A env l ρ Q X ft (QW W l st s.heap Q) st s:=λD Cc ba s' c d q n z f a=>a.elim λm a=>
 ⟨m,a,λh' b=>⟨_,ba,dq,⟨lV c.a.h (AZ b.2) (eS n)<|eS z,c.a.a⟩,j7 d (AZ b.2)<|eS f,q⟩⟩
theorem yY(hi:QS W C d u it)(cx:Cx d u A env l)(H:dY W env l ρ st s)(ok:yu xs scope env.scope=hY)(ht:LF (Au scope env.scope) xs=hY)(mo:NM xs it=hY)(mi:okI env.scope it B=hY)
  (T:∀cl Cc,Jy W d u X tw elt ifs<|ZT scope cl Cc env)(hw:ac0 W.T C it ρ (λfJ items st=>Bo fJ (λvs K st=>mr xs vs ρ st λaI=>tw aI K st) items [] (λl st=>dW (.F l) Q st) st) X st)(fin:Fin W A env l ρ Q X use Q0 st s):
  qU (vl W.a W.w) A (comprehension (.ListComp elt [⟨vE xs p,Ud it B,ifs,0⟩] scope pos) scope env Y (newList []) np (eval (Ud it B) env) use) Q0 (EW W l st s.heap X) s:=by
 have O:=Gp ok;obtain⟨cl,Z,EG,Kz⟩:=G0 (env:=env) (scope:=scope) λp a e=>H.b.t _<|O.j p a e;refine wpAny_comprehension_free (g:=⟨vE xs p,Ud it B,ifs,0⟩) (gs:=[]) dq (VX it B env) Z O.b O.a<|wx (hi (t:=p) (xs:=xs) cx H mi mo hw) (λx s1 h1=>wx h1 (λitv c V=>?_) λv v e=>e) λv v e=>e;cases V with|mk fJ items I pv J vg hb e f P M G Sb T6 keep q=>
 subst e;refine af2 (wpAny_newFunctionEnv O.E (λy hy=>nomatch hy) (λjG S U=>?_) O.b)
 dsimp only at S U⊢;generalize i:c.heap.push {cls:=.type "list",dict:=ft,data:=.seq ([]:qe qo).toArray}=E at S U⊢;have k:IsL E c.heap.objs.size #[] 0:=by rw[←i];exact wt _ dq
 have k2:∀b o,c.heap.get? b=dA o->E.get? b=dA o:=λb o e=>by rw[←i];exact qQ _ e
 have r:c.heap.get? E.objs.size=ft:=iT (by rw[←i,Bi];exact xO _)
 have m:c.heap.get? c.heap.objs.size=ft:=cO _;have j:c.heap.objs.size≠E.objs.size:=zy<|zc k;have k3:∀b o,E.get? b=dA o->jG.get? b=dA o:=λb o e=>(U.2 b<|zy (zc e)).trans (qQ _ e);generalize c.heap.objs.size=D at k m j⊢;generalize E.objs.size=Cc at S U r j⊢;have k1:∀b o,hb.get? b=dA o->jG.get? b=dA o:=λb o e=>k3 b o<|k2 b o (keep b o e);have fr:∀{b},c.heap.get? b=ft->hb.get? b=ft:=λz=>eY λ⟨_,e⟩=>aP z ⟨_,keep _ _ e⟩;have N:∀p∈Cc::D::pv,hb.get? p=ft:=λp a=>(qG.mp a).elim (λe=>e▸fr r) λa=>(qG.mp a).elim (λe=>e▸fr m) λa=>T6 p a;have vR:∀p∈Cc::D::pv,¬b5 vg p:=λp a=>M.s<|N p a;have F:CF W l env ρ st s.heap vg hb Cc D pv:=⟨Sb,H.j.s Sb,H.b.s Sb,M,N,λp a=>eY λ⟨_,z⟩=>(Sb.t (λw=>vR p a<|Sb.s p w) z).elim λv z=>aP (N p a) ⟨_,z⟩,j,λh=>aP m<|f.O 0 _ P _ h,λh=>aP r<|f.O 0 _ P _ h⟩
 have L:=CY (R:=aj1 (vl W.a W.w) A (EW W l st s.heap X) use Q0 (.ref D) Cc) (elt:=elt) (iter:=Ud it B) (scope:=scope) (pos:=pos) (s:={c with heap:=jG,toks:=c.toks+([]:qe (Str×qo)).length}) (CLI W l vg hb J Cc D pv items.length (CZ tw xs ρ fJ items Q))
  (λn s1 hI=>by
   cases n with
   |zero=>exact KW H F f hI λba s' H' S' q n' hn=>fin D Cc ba s' H' S' q n' (F.I.p<|N _ (.head _)) (F.e _<|.head _) hn
   |succ n=>exact UA cx H O EG Kz ht F f (T cl Cc) hI)
  items.length ⟨vg,0,[],#[],0,_,Nat.zero_add _,⟨M.m k1,G⟩,Sf.m k1,S,k3 _ _ k,mw,f.R _ _ _ P λb v o e=>k3 b o (k2 b o e),vR,by unfold CZ;rw[List.drop_zero];exact q⟩
 refine codeAny_compStart_list L<|f.N _ vg _ _ (f.R _ _ _ P λb v o e=>k3 b o<|k2 b o e) ⟨M.m k1,G⟩ ?_ L;cases items with
 |nil=>exact q.1
 |cons=>exact q.1
end
section
variable{W:Wd}{C:dG}{d u:qc}
def SU(W:Wd)(C:dG)(d u:qc)(e:Ex):Prop:=∀{A:xu} {env:Env} {l:qe Env} {ρ:dz} {Q:AV->St->Prop} {X:St->Prop} {st:St} {s:qy} {p elt:qu} {gens:qe Comprehension} {scope:zE} {pos:Pos} {use:qk (qo->Sem Z8)} {Q0:qo->qy->Prop},
 em e p=.ListComp elt gens scope pos->Cx d u A env l->dY W env l ρ st s->ok env.scope e p=hY->Lz W.T C e ρ Q X st->Fin W A env l ρ Q X use Q0 st s->
 qU (vl W.a W.w) A (comprehension (.ListComp elt gens scope pos) scope env (firstIterPos gens pos) (newList []) (firstAsync gens) (firstIter gens env) use) Q0 (EW W l st s.heap X) s
theorem HF(f:SE W C d u e)(hi:QS W C d u it):SU W C d u (.z e xs it):=λ{A env l ρ Q X st s p elt gens scope pos use Q0} h c H a b fin=>by
 cases h;exact yY hi c H (bA a) (bA<|bB a) (bA<|bB (bB a)) (bA<|bB (bB<|bB a)) (λcl Cc=>Ml (env:=ZT (HQ p) cl Cc env) f (show ok (Au (HQ p) env.scope) e (cG p 0)=hY from bB<|bB (bB<|bB a))) b fin
theorem AN(f:SE W C d u e)(hc:ST W C d u c)(hi:QS W C d u it):SU W C d u (.O e xs it c):=λ{A env l ρ Q X st s p elt gens scope pos use Q0} h g H a b fin=>by
 cases h;exact yY hi g H (bA<|bA a) (bA<|bB (bA a)) (bA<|bB (bB<|bA a)) (bA<|bB (bB<|bB (bA a))) (λcl Cc=>Rb (env:=ZT (HQ p) cl Cc env) f hc (show ok (Au (HQ p) env.scope) e (cG p 0)=hY from bB<|bB (bB<|bB (bA a))) (show ok (Au (HQ p) env.scope) c (cG p 3)=hY from bB a)) b fin
end
section
variable{W:Wd}{C:dG}{d u:qc}(O:W.g)(hC:lK W C (d+1) (u+1))(hu:u+300<ZI)
include O hC hu
def SP(W:Wd)(C:dG)(d u:qc)(e:Ex):Prop:=SE W C d u e/\ST W C d u e
omit O hC hu in
theorem gG(b:∀p env a,isTrue (em e p) env a=(do let v←a;standAt (em e p).pos;holding [v] (truthy v)))(h:SE W C d u e):SP W C d u e:=⟨h,adt b h⟩
theorem yc:∀e:Ex,SP W C d u e:=
 @Ex.rec (SP W C d u) (λl=>(LU W C d u l/\Ls W C d u l/\SOr W C d u l)/\SDs W C d u l/\∀k,SE W C d u k->SDs W C d u (.o k l)) (QS W C d u)
  (gG (λf f f=>dq) RO) (λf=>gG (λf f f=>dq) RU) (λf=>gG (λf f f=>dq) Yn) (λf=>gG (λf f f=>dq) Ye) (λf=>gG (λf f f=>dq) Yk) (λf=>gG (λf f f=>dq)<|RR O)
  (λf f f a b=>gG (λf f f=>dq)<|Yq a.1 b.1) (λf a=>gG (λf f f=>dq)<|Yj a.1) (λf a=>⟨Yh a.1,XS a.2⟩) (λf f f a b=>⟨Yp O hu a.1 b.1,XV O hu a.1 b.1⟩) (λf l=>⟨Yr l.1.2.1,XW l.1.2.1⟩) (λf l=>⟨adE l.1.2.2,ads l.1.2.2⟩)
  (λf f f c a b=>⟨Yl c.2 a.1 b.1,XT c.2 a.2 b.2⟩) (λf l=>gG (λf f f=>dq)<|RQ l.1.1) (λf l=>gG (λf f f=>dq)<|Yd l.1.1) (λf f l=>gG (λf f f=>dq)<|RS l.2.1)
  (λf f f e i=>gG (λf f f=>dq) λc H h g=>HF e.1 i dq c H h g EM) (λf f f f e i c=>gG (λf f f=>dq) λj H h g=>AN e.1 c.2 i dq j H h g EM) (λf f e=>gG (λf f f=>dq)<|RV O e.1) (λf f e i=>gG (λf f f=>dq)<|Yo O e.1 i.1) (λf f f e a b=>gG (λf f f=>dq)<|MX e.1 a.1 b.1)
  (λf e=>gG (λf f f=>dq)<|Yg e.1) (λf f l=>gG (λf f f=>dq)<|RT O hC l.1.1) (λf f l=>gG (λf f f=>dq)<|Yi O hC l.1.1) (λf f f o l=>gG (λf f f=>dq)<|RP O hC o.1 l.1.1) (λf f l=>gG (λf f f=>dq)<|MY O hC l.1.1)
  (λf f l=>gG (λf f f=>dq)<|adD O l.1.1) (λf f e=>gG (λf f f=>dq)<|Ym O e.1) (λf f f o l=>gG (λf f f=>dq)<|adF O o.1 l.1.1) (λf f e=>e)
  ⟨⟨RN,M3,RD⟩,RX,λf f=>RW⟩ (λf f e l=>⟨⟨MU e.1 l.1.1,JO e.1 e.2 l.1.2.1,MN e.1 e.2 l.1.2.2⟩,l.2.2 _ e.1,λf k=>MZ k e.1 l.2.1⟩)
  (λf e=>DK e.1) (λf e=>AP O e.1) (λf f a b=>HK O a.1 b.1) (λf e=>DM O e.1)
theorem sIt:∀it:It,QS W C d u it
 |.F e=>DK (yc O hC hu e).1
 |.c e=>AP O (yc O hC hu e).1
 |.d a b=>HK O (yc O hC hu a).1 (yc O hC hu b).1
 |.f e=>DM O (yc O hC hu e).1
theorem sU:∀e:Ex,LI e=hY->SU W C d u e:=by
 have z:∀e,LI e=np->LI e=hY->SU W C d u e:=λe h k=>qH (h.symm.trans k) qB
 exact @Ex.rec (λe=>LI e=hY->SU W C d u e) (λa=>xT) (λa=>xT) (z _ dq) (λa=>z _ dq) (λa=>z _ dq) (λa=>z _ dq) (λa=>z _ dq) (λa=>z _ dq) (λa a a a a=>z _ dq) (λa a=>z _ dq) (λa a=>z _ dq) (λa a a a a=>z _ dq) (λa a=>z _ dq) (λa a=>z _ dq) (λa a a a a a=>z _ dq) (λa a=>z _ dq) (λa a=>z _ dq) (λa a a=>z _ dq)
  (λe xs it a a a=>HF (yc O hC hu e).1<|sIt O hC hu it) (λe xs it c a a a a=>AN (yc O hC hu e).1 (yc O hC hu c).2<|sIt O hC hu it) (λa a a=>z _ dq) (λa a a a=>z _ dq) (λa a a a a a=>z _ dq) (λa a=>z _ dq) (λa a a=>z _ dq) (λa a a=>z _ dq) (λa a a a a=>z _ dq) (λa a a=>z _ dq) (λa a a=>z _ dq) (λa a a=>z _ dq) (λa a a a a=>z _ dq) (λa a x=>x) oy (λa a a a=>oy) (λa a=>oy) (λa a=>oy) (λa a a a=>oy) (λa a=>oy)
end
structure AI(env:Env)(l:qe Env)(h0:Heap):Prop where
 s:h0.get? env.locals=ft
 H:∀p∈env.cells,h0.get? p.2=ft
 f:∀b∈dm l,∀o,h0.get? b=dA o->∀vs,o.data≠.fields vs
inductive QF(W:Wd)(env:Env)(l:qe Env)(dX:St)(h0:Heap)(Q:dz->St->Prop)(R:AV->St->Prop):Flow->qy->Prop
 |w{s'}(aI:dz)(ba:St)(H:dY W env l aI ba s')(S:Sf l dX h0 ba s'.heap)(q:Q aI ba):QF W env l dX h0 Q R .next s'
 |f{v s'}(x:QW W l dX h0 R v s'):QF W env l dX h0 Q R (.ret v) s'
inductive Lf(W:Wd)(env:Env)(l:qe Env)(X:dz->St->Prop)(h:Heap)(ba:St):Prop
 |mk(aI:dz)(L:LR W env ba h aI)(F:jk W ba h l)(x:X aI ba)
def ES(W:Wd)(env:Env)(l:qe Env)(dX:St)(h0:Heap)(X:dz->St->Prop)(e:qo)(s':qy):Prop:=EW W l dX h0 (Lf W env l X s'.heap) e s'
section
variable(W:Wd)(C:dG)(d u:qc)
def SS(sm:Sm):Prop:=∀{A:xu} {env:Env} {l:qe Env} {ρ:dz} {Q:dz->St->Prop} {R:AV->St->Prop} {X:dz->St->Prop} {st:St} {s:qy} {dX:St} {h0:Heap} {p:xC},
 Cx d u A env l->AI env l h0->Sf l dX h0 st s.heap->dY W env l ρ st s->okS env.scope sm p=hY->wpS W.T C sm ρ Q R X st->qU (vl W.a W.w) A (exec (emS sm p) env) (QF W env l dX h0 Q R) (ES W env l dX h0 X) s
def Qp(a:iH):Prop:=∀{A:xu} {env:Env} {l:qe Env} {ρ:dz} {Q:dz->St->Prop} {R:AV->St->Prop} {X:dz->St->Prop} {st:St} {s:qy} {dX:St} {h0:Heap} {ps:qe xC},
 Cx d u A env l->AI env l h0->Sf l dX h0 st s.heap->dY W env l ρ st s->yt env.scope a ps=hY->JE W.T C a ρ Q R X st->qU (vl W.a W.w) A (execs (yU a ps) env) (QF W env l dX h0 Q R) (ES W env l dX h0 X) s
end
section
variable{W:Wd}{C:dG}{d u:qc}{A:xu}{env:Env}{l:qe Env}{ρ:dz}{X:dz->St->Prop}{st:St}{s:qy}{dX:St}{h0:Heap}{Q:dz->St->Prop}{R:AV->St->Prop}
theorem Mv(H:dY W env l ρ st s)(S:Sf l dX h0 st s.heap)(x:EW W l st s.heap (X ρ) e s'):ES W env l dX h0 X e s':=by
 cases x with|mk c B ba a sh d ex U K b=>
 exact⟨c,B,ba,a,sh,d,ex,AG.j S U,Kp.r S K,ρ,H.b.J U,H.j.J U,b⟩
theorem oQ(S:Sf l dX h0 st s.heap)(H:dY W env l ρ st s)(h:qU (vl W.a W.w) A m (QW W l st s.heap b) (EW W l st s.heap (X ρ)) s)
  (f:∀v s1 av bW,ab v=dA av->dY W env l ρ bW s1->Sf l dX h0 bW s1.heap->b av bW->k v s1):qU (vl W.a W.w) A m k (ES W env l dX h0 X) s:=
 wx h (λv s1 y=>by cases y with|mk av bW d I a q=>exact f v s1 av bW d (H.g a I) (S.i a) q) λc c e=>Mv H S e
theorem adm(S:Sf l dX h0 st s.heap)(H:dY W env l ρ st s)(h:qU (vl W.a W.w) A m (BW W l st s.heap c) (EW W l st s.heap (X ρ)) s)
  (f:∀b s1 bW,dY W env l ρ bW s1->Sf l dX h0 bW s1.heap->c b bW->k b s1):qU (vl W.a W.w) A m k (ES W env l dX h0 X) s:=
 wx h (λv s1 y=>by cases y with|mk bW I a q=>exact f v s1 bW (H.g a I) (S.i a) q) λd d e=>Mv H S e
theorem NQ{h:Heap}{a:qc}{m:Str->qk qo}(c:h.Ns a m):∃o,h.get? a=dA o/\∀vs,o.data≠.fields vs:=c.elim λo x=>x.elim λb x=>x.elim λb x=>⟨o,x.1,λb z=>nomatch x.2.1.symm.trans z⟩
theorem UF{h:Heap}{a:qc}{v:qk qo}(b:h.IsCell a v):∃o,h.get? a=dA o/\∀vs,o.data≠.fields vs:=b.elim λo x=>⟨o,x.1,λc z=>nomatch x.2.symm.trans z⟩
theorem C1{h:Heap}{a b:qc}{m:Str->qk qo}{v:qk qo}(d:h.Ns a m)(hc:h.IsCell b v):b≠a:=λz=>by
 obtain⟨o,es,i,c,hd,_⟩:=d;obtain⟨g,e,f⟩:=hc;rw[z,c]at e;cases e;cases hd.symm.trans f
theorem yJ{tk:qc}(H:dY W env l ρ st s)(S:Sf l dX h0 st s.heap)(z:h0.get? a=ft)(i:¬b5 st a)(e:W.b.heap.get? a=ft)(d:∀b o,b≠a->s.heap.get? b=dA o->h'.get? b=dA o)
  (m:∃o,h'.get? a=dA o/\∀vs,o.data≠.fields vs)(L:LRn env h' aI m' cm')(hc:∀p∈env.cells,∃v,h'.IsCell p.2 v):dY W env l aI st {s with heap:=h',toks:=tk}/\Sf l dX h0 st h':=by
 have k:∀b o,b∉[a]->s.heap.get? b=dA o->h'.get? b=dA o:=λb o n=>d b o λz=>n<|z▸.head _;refine⟨⟨⟨⟨m',cm',L⟩,H.b.r,H.b.t,H.b.B,λp c=>⟨(H.b.z p c).1,(H.b.z p c).2.1,hc p c⟩⟩,λj r=>?_,lV H.a.h k (eS i)<|eS e,H.a.a⟩,j7 S k<|eS z⟩;obtain⟨L,o,f⟩:=H.j j r;by_cases q:L=a
 ·exact m.elim λg y=>⟨L,g,f.b,f.j,f.i,f.p,q▸y.1,y.2⟩
 ·exact⟨L,o,f.b,f.j,f.i,f.p,d L o q f.u,f.t⟩
theorem Nk(hr:∀y w,ρ y=dA w->Rd m cm env y.t w)(h1:∀y:Nm,y≠x->m' y.t=m y.t)(h2:∀y:Nm,y≠x->cm' y.t=cm y.t)(h3:Rd m' cm' env x.t av):∀y w,(ρ.H x av) y=dA w->Rd m' cm' env y.t w:=λy w q=>by
 by_cases z:y=x
 ·rw[z,show(ρ.H x av) x=dA av from qK dq]at q;rw[z,←qA q];exact h3
 ·unfold Rd;rw[h1 y z,h2 y z];exact hr y w (by rwa [show(ρ.H x av) y=ρ y from if_neg z]at q)
theorem j5{K:xu}(c:Cx d u A env l)(B:AI env l h0)(S:Sf l dX h0 st s.heap)(H:dY W env l ρ st s){x:Nm}(a:env.scope.names.lookup x.t=dA .local\/env.scope.names.lookup x.t=dA .cell){v:qo}{av:AV}(G:ab v=dA av)
  {E:qo->qy->Prop}{Q:Z8->qy->Prop}(k:∀h' tk,(∀b o,b≠env.locals->(∀p∈env.cells,b≠p.2)->s.heap.get? b=dA o->h'.get? b=dA o)->dY W env l (ρ.H x av) st {s with heap:=h',toks:=tk}->Sf l dX h0 st h'->Q () {s with heap:=h',toks:=tk}):
  qU (vl W.a W.w) K (storeName env x.t v) Q E s:=by
 obtain⟨m,cm,j,hc,hr⟩:=H.b.A;have ne:∀{y:Nm},y≠x->¬y.t=x.t:=λz e=>z<|Nm.hV.mp e;rcases a with a|a
 ·refine ajN a j (λh' I f=>?_) (by rw[c.b];rfl)
  have up:∀{b v},s.heap.IsCell b v->h'.IsCell b v:=λhc=>hc.elim λo e=>⟨o,(f.2 _<|C1 j hc).trans e.1,e.2⟩;obtain⟨F,D⟩:=yJ (tk:=s.toks+1) (aI:=ρ.H x av) H S B.s H.b.B.1 H.b.B.2 (λb o hb e=>(f.2 b hb).trans e) (NQ I) ⟨I,λn c' q=>up<|hc n c' q,Nk hr (λy z=>if_neg<|ne z) (λg g=>rfl) ⟨λg=>(qh (q0 ab)<|qK rfl).trans (qh dA G),λz=>nomatch a.symm.trans z⟩⟩ λp r=>(H.b.z p r).2.2.elim λv e=>⟨v,up e⟩
  exact k h' _ (λb o hb g e=>(f.2 b hb).trans e) F D
 ·obtain⟨ca,i⟩:=xq.mp (H.b.t x.t a);have t:=aiA i;have pc:=H.b.z _ t;refine wpAny_storeName_cell c.b a i (hc _ _ i) λh' h f=>?_;have up:∀{b v},b≠ca->s.heap.IsCell b v->h'.IsCell b v:=λn hc=>hc.elim λo e=>⟨o,(f.2 _ n).trans e.1,e.2⟩
  have J:∀n c',env.cells.lookup n=dA c'->h'.IsCell c' (if n=x.t then dA v else cm n):=λn c' q=>by
   by_cases z:n=x.t
   ·rw[z,i]at q;rw[qK z,←qA q];exact h
   ·rw[if_neg z];exact up (λe=>z<|H.b.r _ _ _ q (e▸i))<|hc n c' q
  have C:∀p∈env.cells,∃v,h'.IsCell p.2 v:=λp r=>by
   by_cases z:p.2=ca
   ·exact⟨_,z▸h⟩
   ·exact(H.b.z p r).2.2.elim λv e=>⟨v,up z e⟩
  obtain⟨F,D⟩:=yJ (tk:=s.toks) (aI:=ρ.H x av) (m':=m) (cm':=λn=>if n=x.t then dA v else cm n) H S (B.H _ t) pc.1 pc.2.1 (λb o hb e=>(f.2 b hb).trans e) (UF h) ⟨j.at' λo e=>(f.2 _ (C1 j<|hc _ _ i).symm).trans e,J,Nk hr (λg g=>rfl) (λy z=>if_neg<|ne z) ⟨λz=>(nomatch a.symm.trans z),λg=>⟨H.b.t x.t a,(qh (q0 ab)<|qK rfl).trans (qh dA G)⟩⟩⟩ C
  exact k h' _ (λb o g hb e=>(f.2 b<|hb _ t).trans e) F D
theorem AM(c:Cx d u A env l)(B:AI env l h0)(S:Sf l dX h0 st s.heap)(H:dY W env l ρ st s){xs:qe Nm}{t:qu}{v:qo}{vs:qe AV}{R:dz->Prop}(f:LF env.scope xs=hY)(j:Qs s.heap vs v)(hb:mr xs vs ρ st R)
  {E:qo->qy->Prop}{Q:Z8->qy->Prop}(k:∀h' tk aI,(∀b o,b≠env.locals->s.heap.get? b=dA o->h'.get? b=dA o)->dY W env l aI st {s with heap:=h',toks:=tk}->Sf l dX h0 st h'->R aI->Q () {s with heap:=h',toks:=tk}):
  qU (vl W.a W.w) A (ae6 (vE xs t) env v) Q E s:=by
 obtain⟨m,cm,g,hc,hr⟩:=H.b.A;refine Ac c.g c.b H.a f j g hb λh' tk m' aI a h tb C=>?_;have up:∀{b v},s.heap.IsCell b v->h'.IsCell b v:=λhc=>hc.elim λo e=>⟨o,a _ _ (C1 g hc) e.1,e.2⟩
 have rd:∀y w,aI y=dA w->Rd m' cm env y.t w:=λy w q=>by
  by_cases z:y∈xs
  ·obtain⟨w',h1,h2⟩:=tb.p y z;exact⟨λG=>qA (h1.symm.trans q)▸h2,λe=>nomatch (A0 f y z).symm.trans e⟩
  ·unfold Rd;rw[tb.a y.t λx i e=>z<|Nm.hV.mp e▸i];exact hr y w<|(tb.H y z).symm.trans q
 obtain⟨F,D⟩:=yJ (tk:=tk) (aI:=aI) H S B.s H.b.B.1 H.b.B.2 a (NQ h) ⟨h,λn c' q=>up<|hc n c' q,rd⟩ λp r=>(H.b.z p r).2.2.elim λv e=>⟨v,up e⟩;exact k h' tk aI a F D C
theorem wW(h:LI e=np):aaE (em e p) t n env=pure np:=
 (nV e p).f h
theorem nE(h:(!b)=hY):b=np:=xc _▸h
theorem X0(g:SE W C d u e):SS W C d u (.f e):=λc B S H f a=>
 qE (ZR<|qE (oQ S H (g c H f a) λv s1 av bW b i h q=>qW<|.f ⟨av,bW,b,i.a,h,q⟩))
theorem adz(f:SE W C d u e):SS W C d u (.l e):=λ{A env l ρ Q R X st s dX h0 p} c B S H a b=>by
 show qU _ A (exec (.Expr (em e<|sk p 0) p.pos) env) _ _ _;rw[arm_exec_Expr];refine qE<|ZR ?_;rw[show interactive env=false from by unfold interactive;rw[c.b];rfl]
 exact qE<|wpAny_of_eq (wW<|nE (bA a)) (qE<|oQ S H (f c H (bB a) b) λv s1 av bW i h g q=>wpAny_dropValue<|.w ρ bW h g q)
theorem FX(O:W.g)(m:SE W C d u o)(n:SE W C d u e):SS W C d u (.h o x e):=λ{A env l ρ Q R X st s dX h0 p} c B S H b j=>
 plainObj_wpAny_Assign_Attribute (oQ S H (n c H (bB (bB b)) j) λv s1 av bW k h t q=>oQ t h (m c h (bA (bB b)) q) λD z E y a g r i=>
  Aw O g.a (bA b) a k i λba h' tk w f q'=>.w ρ ba (g.g f w) (r.i f) q') ((nV e (sk p 0)).d)
theorem JL(w:SE W C d u o)(hi:SE W C d u i)(x:SE W C d u e):SS W C d u (.n o i e):=λ{A env l ρ Q R X st s dX h0 p} c B S H b r=>
 wpAny_Assign_Subscript (oQ S H (x c H (bB (bB b)) r) λv s1 av bW t k D q=>oQ D k (w c k (bA b) q) λJ I L F a j z n=>oQ z j (hi c j (bA (bB b)) n) λK G M N f h y m=>
  Cg h.a a f t m λba h' tk E g q'=>.w ρ ba (h.g g E) (y.i g) q') ((nV e (sk p 0)).r)
theorem X1(hc:ST W C d u c)(ha:Qp W C d u a)(hb:Qp W C d u b):SS W C d u (.v c a b):=λ{A env l ρ Q R X st s dX h0 p} f B S H e i=>
 wpAny_If (adm S H (hc (Q:=λt st=>if t then JE W.T C a ρ Q R X st else JE W.T C b ρ Q R X st) f H (bA e) i) λt s1 bW h g q=>by
  cases t with
  |false=>exact hb f B g h (bB<|bB e) q
  |true=>exact ha f B g h (bA (bB e)) q)
theorem RB:Qp W C d u .t:=λc B S H b a=>Z3<|.w _ _ H S a
theorem MJ(h1:SS W C d u sm)(h2:Qp W C d u a):Qp W C d u (.o sm a):=λ{A env l ρ Q R X st s dX h0 ps} c B S H b h=>
 wpAny_execs_cons (wx (h1 c B S H (bA b) h) (λf s1 q=>by
  cases q with
  |w aI ba j i q=>exact h2 c B i j (bB b) q
  |f x=>exact .f x) λg g e=>e)
end
theorem X2(T:SE W C d u e)(hU:LI e=hY->SU W C d u e):SS W C d u (.g x e):=λ{A env l ρ Q R X st s dX h0 p} c B S H t I=>by
 have J:=L7<|bA t
 have plain:aaE (em e (sk p 0)) (dA (.Name x.t (sk p 1).pos)) p.pos.line env=pure np->qU (vl W.a W.w) A (exec (.Assign [.Name x.t (sk p 1).pos] (em e (sk p 0)) p.pos) env) (QF W env l dX h0 Q R) (ES W env l dX h0 X) s:=λf=>
  ams (oQ S H (T c H (bB t) I) λw s1 av bW P Y U q=>j5 c B U Y J P λh' tk a i G=>.w _ bW i G q) f
 cases hc:LI e with
 |false=>exact plain<|wW hc
 |true=>
  obtain⟨elt,gens,scope,pos,hl⟩:=(nV e<|sk p 0).z hc;have hb:∃b,aaE (em e<|sk p 0) (dA<|.Name x.t (sk p 1).pos) p.pos.line env=pure b:=by rw[hl];exact⟨_,dq⟩
  obtain⟨b,hb⟩:=hb;cases b with
  |false=>exact plain hb
  |true=>
   show qU _ A (exec (.Assign [.Name x.t (sk p 1).pos] (em e<|sk p 0) p.pos) env) _ _ _;rw[exec_Assign_Name_used _ _ _ _ hb,hl,arm_evalThenUse_ListComp];refine qE<|ZR (qE<|qE (wx (hU hc hl c H (bB t) I (use:=dA<|ae6 (.Name x.t (sk p 1).pos) env) (Q0:=λa K=>QF W env l dX h0 Q R .next K) λD Cc ba s' Z V q O N j r=>?_) (λa K q=>qW<|qW q) λa a e=>Mv H S e));obtain⟨m,r⟩:=r;have L:env.locals≠Cc:=λz=>H.b.A.elim λa y=>y.elim λa y=>aP j<|z▸mQ y.A;have M:∀p∈env.cells,Cc≠p.2:=λp n z=>(H.b.z p n).2.2.elim λa y=>aP j<|z.symm▸si y;refine amr<|j5 c B (S.i V) Z J (v:=.ref D) dq λh' tk F i G=>⟨m,r.at' λo e=>F _ _ L.symm M e,λWu f=>?_⟩;have E:h0.get? Cc=ft:=eY λ⟨o,z⟩=>zQ (λk:b5 dX Cc=>aP j<|H.a.h.u (S.s _ k)) λk=>(S.t k z).elim λsl g=>aP j ⟨_,g⟩;exact .w _ ba ⟨i.b.C (AZ f.2) (H9 L) λp n=>H9 (M p n).symm,i.j.C (AZ f.2)<|eS λz=>aP j<|H.j.O z,lV i.a.h (AZ f.2) (eS O)<|eS N,i.a.a⟩ (j7 G (AZ f.2)<|eS E) q
theorem JK(h:SE W C d u e):SS W C d u (.q x y e):=λ{A env l ρ Q R X st s dX h0 p} c B S H a f=>
 Assign_Tuple (oQ S H (h c H (bB (bB a)) f) λw s1 av bW g m j q=>AM (t:=sk p 1) c B j m (bA a) (.E g) q λh' tk aI n k i b=>.w aI bW k i b)
  (show aaE (em e<|sk p 0) (dA<|.Tuple [.Name x.t (cG (sk p 1) 0).pos,.Name y.t (cG (sk p 1) 1).pos] (rT<|sk p 1) (sk p 1).pos) p.pos.line env=pure np from wW<|nE (bB<|bA (bB a))) ((nV e<|sk p 0).e (nE<|bA (bA<|bB a)))
theorem Sl{ρ:dz}{x y:Nm}(h:x≠y)(v w:AV):(ρ.H y w).H x v=(ρ.H x v).H y w:=by
 funext z;show(if z=x then dA v else if z=y then dA w else ρ z)=if z=y then dA w else if z=x then dA v else ρ z
 by_cases a:z=x
 ·rw[qK a,if_neg λe=>h<|a.symm.trans e,qK a]
 ·rw[if_neg a,if_neg a]
theorem DH:DI (em e p)=np:=(nV e p).h
noncomputable def ad8(env:Env)(line:qc)(q:qu):qk Str:=ajK (λa=>qk Str) q (λid pos=>if(env.kindOf id==dA .local&&pos.line==line)=hY then dA id else ft) λa=>ft
noncomputable def adf(v w:qu)(ns:qe Str):Sem (qk (qe Str)):=if(ns.length !=2||ns.eraseDups.length !=ns.length)=hY then pure ft else if([v,w].all (foldedForSure 8))=hY then pure ft else
 if([v,w].all (constantsAlone 8))=hY then unsupported "assign.tuple-of-constant-expressions:order-of-the-stores" else pure (dA ns)
theorem RC{W:Wd}{C:dG}{d u:qc}{x y:Nm}{a b:Ex}(ha:SE W C d u a)(hb:SE W C d u b):SS W C d u (.r x y a b):=λ{A env l ρ Q R X st s dX h0 p} c B S H i G=>by
 have f:=bA i;have g1:=rY<|bA (bA f);have g2:=rY<|bB (bA f);have g3:=zJ.mp<|bB f
 have k:swappedStores [.Tuple [.Name x.t (cG (sk p 1) 0).pos,.Name y.t (cG (sk p 1) 1).pos] (rT (sk p 1)) (sk p 1).pos] (.Tuple [em a (cG (sk p 0) 0),em b (cG (sk p 0) 1)] (rT (sk p 0)) (sk p 0).pos) env=pure (dA [x.t,y.t]):=by
  have n:=bA<|bB i;have ne:(y.t==x.t)=np:=zN λe=>g3<|Nm.hV.mp e.symm;have e1:env.kindOf x.t=dA .local:=g1;have e2:env.kindOf y.t=dA .local:=g2;unfold swappedStores;refine(if_neg (by unfold Env.blockKind;rw[c.b];exact Bool.false_ne_true)).trans ((if_neg λh=>?_).trans ?_)
  ·have h':(DI (em a<|cG (sk p 0) 0)||(DI (em b<|cG (sk p 0) 1)||np))=hY:=h;rw[DH,DH]at h';exact qB h'
  show adf (em a<|cG (sk p 0) 0) (em b<|cG (sk p 0) 1) ([.Name x.t (cG (sk p 1) 0).pos,.Name y.t (cG (sk p 1) 1).pos].filterMap (ad8 env (cG (sk p 1) 0).pos.line))=_;have n1:∀{z:Str} {q:Pos},env.kindOf z=dA .local->(cG (sk p 1) 0).pos.line=q.line->ad8 env (cG (sk p 1) 0).pos.line (.Name z q)=dA z:=λh1 h2=>qK (by rw[h1,h2,qZ,qZ];rfl)
  rw[ahJ (n1 e1 dq),ahJ<|n1 e2 (eq_of_beq<|bA n)];refine(if_neg λh=>?_).trans ((if_neg λh=>?_).trans ((if_neg λh=>?_).trans dq))
  ·have h':(np||([x.t,y.t].eraseDups.length !=2))=hY:=h;rw[List.eraseDups_cons,ahL (by rw[ne];rfl)]at h'
   exact qB h'
  ·exact qB<|(nE<|bA (bB n)).symm.trans (bA h)
  ·exact qB<|(nE<|bB (bB n)).symm.trans (bA h)
 refine Assign_Tuple_swapped (names:=[x.t,y.t]) (ahG ?_) (by rfl) k
 refine g4<|oQ S H (ha c H (bA<|bB (bB i)) G) λv' s1 av bW I v O q=>?_;refine g4<|oQ O v (hb c v (bB<|bB (bB i)) q) λw' g aw t j r N F=>?_;refine zA ⟨by rw[sizeLine_eq];exact(by decide:2<=16777216),?_⟩
 have J:(g.heap.push {cls:=.type "tuple",data:=.seq [v',w'].toArray}).IsTuple g.heap.objs.size #[v',w']:=⟨_,wt _ dq,dq,_,dq⟩;refine wpAny_unpackItems_tuple (items:=#[v',w']) c.g J λh' K=>?_;have m:∀b o,g.heap.get? b=dA o->h'.get? b=dA o:=λb o e=>K b o (by rw[Bi];exact zy (xW (zc e))) (qQ _ e)
 have U:dY W env l ρ t {g with heap:=h'}:=r.g (Sf.m m) ⟨r.a.h.m m,r.a.a⟩
 show qU _ A (assignInOrder [bindName env y.t,bindName env x.t] [w',v']) _ _ _;refine qE<|zG (wpAny_bindName<|j5 c B (N.i<|Sf.m m) U (.inl g2) j λh4 E w T M=>?_);exact qE<|zG (wpAny_bindName<|j5 c B M T (.inl g1) I λV D w P L=>qW<|.w _ t P L (Sl g3 av aw▸F))
theorem MK(O:W.g):SS W C d u .m:=λ{A env l ρ Q R X st s dX h0 p} c B S H k j=>by
 refine wpAny_Raise_call PySem.F.excCall_ValueError aeZ c.g dq<|jh O c H.a k dq ⟨dq,PyProof.Rows.evalArgs_none ⟨dq,qP _,λh' e i=>?_⟩⟩;obtain⟨m,RA,a⟩:=jk.v H.a.h H.j;have kp:∀b o,s.heap.get? b=dA o->h'.get? b=dA o:=i.keeps;exact⟨e,_,st,dq,H.a.a,m,.inr ⟨s.heap,i,RA,a⟩,(S.i<|Sf.m kp).J,⟨λb o n g f=>zX _ (S.A n g f) f,S.s⟩,ρ,H.b.s<|Sf.m (l:=l) kp,H.j.s<|Sf.m (l:=l) kp,j⟩
section
variable{W:Wd}{C:dG}{d u:qc}
theorem FJ{R:Result->qy->Prop}
  (cy:qU (vl W.a W.w) A (isTrue a env<|eval a env) G (afw (vl W.a W.w) A env λe s'=>R (.error e) s') s)
  (i:∀s,G np s->R (.ok .next) s)(go:∀s,G hY s->qU (vl W.a W.w) A (execs body env) (λf d=>(f=.next/\acn (vl W.a W.w) A (.whileLoop a body [] env) R d)\/∃v,f=.ret v/\R (.ok<|.ret v) d) (afw (vl W.a W.w) A env λe s'=>R (.error e) s') s):acn (vl W.a W.w) A (.whileLoop a body [] env) R s:=by
 refine codeAny_of_tree ?_;rw[Around.under_of_weight dq];show qU _ A ((whileTurn a body [] env).onRaise (λx=>do noteFrame x env;theTreesLotGoes x)) _ _ s
 refine wpAny_noted<|qE (wx cy (λb j tH=>?_) λc c h'=>h');cases b with
 |false=>exact qE<|Z3 (qW<|i _ tH)
 |true=>exact qE<|wx (go _ tH) (λf d g=>g.elim (λh=>by rw[h.1];exact qW ⟨dq,h.2⟩) λh=>h.elim λv h=>by rw[h.1];exact qW h.2) λc c h'=>h'
theorem XZ(hc:ST W C d u c)(hb:Qp W C d u b):SS W C d u (.p c b):=λ{A env l ρ Q R X st s dX h0 p} y B S H v D=>by
 refine wpAny_While<|(show ac3 (wE W.T C c λa=>qp) (FK W.T C b R λa a=>qp) Q ρ st from D) (λρ st=>∀s,dY W env l ρ st s->Sf l dX h0 st s.heap->acn (vl W.a W.w) A (.whileLoop (em c<|sk p 0) (yU b<|sb p 0) [] env) (λr s'=>match r with|.ok f=>QF W env l dX h0 Q R f s'|.error e=>ahZ (vl W.a W.w) A env (ES W env l dX h0 X) e s') s) (λi bW step s1 k z=>?_) s H S
 refine FJ (wx (hc (X:=λa=>qp) (Q:=λt st=>if t then JE W.T C b i (λρ st=>∀s,dY W env l ρ st s->Sf l dX h0 st s.heap->acn (vl W.a W.w) A (.whileLoop _ _ [] env) _ s) R (λa a=>qp) st else Q i st) y k (bA v) step) (λbb o q=>q) λe s' q=>by cases q with|mk _ _ _ _ _ _ _ _ _ q=>exact q.elim) (λo q=>?_) λo q=>?_
 ·cases q with|mk m j h q=>exact .w i m (k.g h j) (z.i h) q
 ·cases q with|mk m j h q=>
  refine wx (hb y B (z.i h) (k.g h j) (bB v) q) (λf n g=>?_) λe n g=>by cases g with|mk _ _ _ _ _ _ _ _ _ q=>cases q with|mk _ _ _ q=>exact q.elim
  cases g with
  |w ρ3 G F E g=>exact .inl ⟨dq,g n F E⟩
  |f x=>exact .inr ⟨_,dq,.f x⟩
theorem Lf.J{st:St}(x:Lf W env l X h st)(u:h.UpToSlots h'):Lf W env l X h' st:=by
 cases x with|mk ρ L F x=>exact⟨ρ,L.J<|.f u,F.J<|.f u,x⟩
theorem GP{dX:St}(g:Cx d u A env l)(x:ES W env l dX h0 X e s'):
  afw (vl W.a W.w) A env (λe j=>ahZ (vl W.a W.w) A env (ES W env l dX h0 X) e j) e s':=by
 cases x with|mk i B ba h sh k ex U K q=>
 subst h;obtain⟨fe,outer,Lf,rfl,a,b⟩:=g.c;unfold notedBy;exact tP g.a a b ex λh2 n f=>CM (s:={s' with heap:=h2}) n λh3 m c=>⟨i,B,ba,dq,sh,k,.inl m,(U.u f).u c,K,q.J<|f.trans c⟩
noncomputable def IF(env:Env):qe qc:=env.locals::env.cells.map (·.2)
theorem Be{env:Env}{P:qc->Prop}(h1:P env.locals)(h2:∀p∈env.cells,P p.2):∀p∈IF env,P p:=λp a=>(qG.mp a).elim (λe=>e▸h1) λa=>(xf.mp a).elim λq h=>h.2▸h2 q h.1
section
variable{l:qe Env}{dX bW:St}{h0 B:Heap}
theorem vi(S:Sf l dX h0 bW h3)(z:∀p∈LK,h0.get? p=ft)(q:(ZB h3 LK).get? b=ft):b5 dX b\/h0.get? b=ft:=
 zQ .inl λob=>.inr<|eY λ⟨o,e⟩=>(S.t ob e).elim λa g=>aP q ⟨_,zX _ g λw=>aP (z b w) ⟨o,e⟩⟩
theorem Sf.E(S:Sf l dX h0 bW h3)(z:∀p∈LK,h0.get? p=ft)(T:Sf l bW (ZB h3 LK) sM h4):Sf l dX h0 sM h4:=
 ⟨λb o n e=>(S.r b o n e).elim λc g=>(T.r b {o with slots:=c} (S.v n e)<|zX _ g.1 λw=>aP (z b w) ⟨o,e⟩).elim λa g'=>⟨a,g'.1,λf=>(g'.2 f).trans (g.2 f)⟩,λb q=>(T.G b q).elim (S.G b) (vi S z),λb o=>T.s b<|S.s b o⟩
theorem EX.E(S:Sf l dX h0 bW h3)(z:∀p∈LK,h0.get? p=ft)(x:EX W F l bW (ZB h3 LK) X e s'):EX W F l dX h0 X e s':=by
 cases x with|mk d B ba c sh h ex U K q=>
 exact⟨d,B,ba,c,sh,h,ex,⟨λb o n e nf=>(S.t n e).elim λa g=>U.r b {o with slots:=a} (S.v n e) (zX _ g λw=>aP (z b w) ⟨o,e⟩) nf,λb q=>(U.G b q).elim (S.G b) (vi S z)⟩,
  ⟨λb o n e f=>K.1 b o (S.v n e) (zX _ (S.A n e f) λw=>aP (z b w) ⟨o,e⟩) f,λb o=>K.2 b (S.s b o)⟩,q⟩
theorem AI.v{st:St}(F:jk W st h l):AI env l (ZB h (IF env))where
 s:=afY _<|.head _
 H:=λp a=>afY _<|.tail _ (zg a)
 f:=λb hb o e vs=>(F.A hb).2.2.elim λc y=>qA (y.1.symm.trans<|ahY _ e)▸y.2 vs
theorem Sf.F{st:St}(LK:qe qc):Sf l st (ZB h LK) st h:=⟨λb o a e=>⟨o.slots,ahY _ e,λa=>dq⟩,λa o=>.inl o,λa o=>o⟩
end
inductive FLI(W:Wd)(env:Env)(l:qe Env)(dX:St)(h0:Heap)(J:qc->Heap->Prop)(pv:qe qc)(N:qc)(F:qc->dz->St->Prop)(n:qc)(s1:qy):Prop
 |mk(bW:St)(QE:dz)(i:qc)(IE:i+n=N)(H1:dY W env l QE bW s1)(S1:Sf l dX h0 bW s1.heap)(hJ:J i s1.heap)(vR:∀p∈pv,¬b5 bW p)(hf:F i QE bW)
structure PV(W:Wd)(env:Env)(l:qe Env)(h0:Heap)(pv:qe qc):Prop where
 i:∀p∈pv,W.b.heap.get? p=ft
 z:∀p∈pv,h0.get? p=ft
 j:∀p∈pv,p∉dm l
 K:∀p∈pv,p∉IF env
section
variable{A:xu}{env:Env}{l:qe Env}{ρ:dz}{Q:dz->St->Prop}{R:AV->St->Prop}{X:dz->St->Prop}{st dX bW:St}{s s1:qy}{h0:Heap}{pv:qe qc}
theorem PV.g(P:PV W env l h0 pv)(e:∀p∈pv,¬b5 bW p)(d:dY W env l ρ bW s1)(f:Sf l dX h0 bW s1.heap)(a:∀b o,b∉pv->s1.heap.get? b=dA o->h2.get? b=dA o){tk:qc}:dY W env l ρ bW {s1 with heap:=h2,toks:=tk}/\Sf l dX h0 bW h2:=
 ⟨⟨d.b.C a (λz=>P.K _ z<|.head _) λc hc z=>P.K _ z<|.tail _ (zg hc),d.j.C a P.j,lV d.a.h a e P.i,d.a.a⟩,j7 f a P.z⟩
theorem Pc{b:iH}(hb:Qp W C d u b)(H:Cx d u A env l)(B:AI env l h0)(P:PV W env l h0 pv){xs:qe Nm}{t:qu}{ps:qe xC}{fJ:oF}{items:qe (qe AV)}{I:qc}{J:qc->Heap->Prop}(q:JA W A fJ (vE xs t) items I pv J)(ht:LF env.scope xs=hY)(hm:yt env.scope b ps=hY){n:qc}
  (hI:FLI W env l dX h0 J pv items.length (λi ρ st=>Pd fJ (λvs K ρ st=>mr xs vs ρ st λρ=>FK W.T C b R X K ρ st) (items.drop i) Q ρ st) (n+1) s1){G:qk qo->qy->Prop}{K:Flow->qy->Prop}{N:qo->qy->Prop}(hN:∀e s',afw (vl W.a W.w) A env (λe QJ=>ahZ (vl W.a W.w) A env (ES W env l dX h0 X) e QJ) e s'->N e s')
  (k1:∀s,(∃m,m<n+1/\FLI W env l dX h0 J pv items.length (λi ρ st=>Pd fJ (λvs K ρ st=>mr xs vs ρ st λρ=>FK W.T C b R X K ρ st) (items.drop i) Q ρ st) m s)->K .next s)(k2:∀v s,QF W env l dX h0 Q R (.ret v) s->K (.ret v) s)
  (hG:∀v h,qU (vl W.a W.w) A (Z4 (vE xs t) (.ref I) v) (λY DE=>qU (vl W.a W.w) A (ae6 (vE xs t) env v) (λY rN=>qU (vl W.a W.w) A (execs (yU b ps) env) K N rN) N DE) N h->G (dA v) h):qU (vl W.a W.w) A (ahU<|.ref I) G N s1:=by
 cases hI with|mk bW QE i IE V S1 hJ y E=>
 have S:i+1+n=items.length:=(xQ i 1 n).trans IE;have O:i<items.length:=q9 (xS i)<|S▸qj _ _;rw[ahE O]at E;refine q.U i _ s1 bW _ _ (xe O) hJ V.a E.1 λv ha tk hka IG=>hG _ _<|IG _ _ λh2 TP F L=>?_;obtain⟨H2,S2⟩:=P.g (tk:=tk) y V S1 TP;refine AM H B S2 H2 ht L E.2 λh3 Z ρ3 D U M hR=>?_;have j:J (i+1) h3:=q.R _ _ _ F λb hb o e=>D b o (λz=>P.K b hb<|z▸.head _) e;have g:=Be (P:=λp=>h0.get? p=ft) B.s B.H;have kp:∀{sM:St} {h4:Heap},Sf l bW (ZB h3<|IF env) sM h4->∀p∈pv,∀o,h3.get? p=dA o->h4.get? p=dA o:=λT p c o e=>T.A (y p c) (zX _ e<|P.K p c) (P.j p c);refine wx (hb H (AI.v U.j) (Sf.F _) U hm hR) (λf s4 a=>?_) λe s4 a=>hN _ _<|GP H (EX.E M g a);cases a with
 |w r sM H4 k a=>exact k1 _ ⟨n,xS n,sM,r,i+1,S,H4,M.E g k,q.R _ _ _ j λb hb=>kp k b hb,λp c=>(q.O _ _ j p c).elim λo e=>k.v (y p c)<|zX _ e (P.K p c),a⟩
 |f x=>cases x with|mk av sM hv I4 k a=>exact k2 _ _<|.f ⟨av,sM,hv,I4,M.E g k,a⟩
theorem ady{xs:qe Nm}{it:It}{b:iH}(hi:QS W C d u it)(hb:Qp W C d u b):SS W C d u (.j xs it b):=λ{A env l ρ Q R X st s dX h0 p} Z B S H r hw=>by
 refine wpAny_For ?_ (VX it (sk p 1) env);refine wx (hi (t:=sk p 0) (xs:=xs) Z H (bA<|bB (bB r)) (bA<|bB r) hw) (λx s1 L=>wx L (λitv s2 G=>?_) λa a e=>Mv H S e) λa a e=>Mv H S e;cases G with|mk fJ items I pv J vg j e O J0 D E Sb m keep q=>
 subst e;have Fb:jk W vg j l:=H.j.s Sb;have M:LR W env vg j ρ:=H.b.s Sb;have k:Sf l dX h0 vg j:=S.i Sb
 have P:PV W env l h0 pv:=⟨λp f=>D.p (m p f),λp f=>eY λ⟨_,z⟩=>zQ (λF=>D.s (m p f) (k.s _ F)) λF=>(k.t F z).elim λa g=>aP (m p f) ⟨_,g⟩,λp f h=>aP (m p f) (Fb.O h),
  λp f h=>Be (P:=λp=>∃o,j.get? p=dA o) (M.A.elim λa y=>y.elim λa y=>mQ y.A) (λc hc=>(M.z c hc).2.2.elim λa y=>si y) p h|>aP (m p f)⟩
 refine codeAny_forLoop_any (FLI W env l dX h0 J pv items.length λi ρ st=>Pd fJ (λvs K ρ st=>mr xs vs ρ st λρ=>FK W.T C b R X K ρ st) (items.drop i) Q ρ st) (λn s1 hI=>?_) items.length ⟨vg,ρ,0,vu _,⟨M.s<|Sf.m (l:=l) keep,Fb.s<|Sf.m (l:=l) keep,⟨D.m keep,E⟩⟩,k.i<|Sf.m keep,J0,λp f=>D.s<|m p f,by rw[List.drop_zero];exact q⟩
 cases n with
 |zero=>
  cases hI with|mk bW QE i IE N S1 Y U w=>
  have hi:i=items.length:=IE;rw[hi]at w Y;rw[ajV]at w;exact O.S s1 bW _ _ Y N.a w.1 λh2 tk V=>Z3<|.w QE bW (P.g (tk:=tk) U N S1 V).1 (P.g (tk:=tk) U N S1 V).2 w.2
 |succ n=>
  refine Pc hb Z B P O (bA r) (bB<|bB (bB r)) hI ?_ ?_ ?_ λv s1' h=>h
  ·exactλa a h=>h
  ·exactλa h=>h
  ·exactλa a h=>h
end
end
section
variable{W:Wd}{C:dG}{d u:qc}
theorem Ah.i(x:Ah B l e h):B.StaysIn h:=by cases x with|mk f1=>exact f1
theorem Ah.g{B:Heap}{l:qe Env}{e:qc}{s:qy}(x:Ah B l e s.heap):s.TypeIs (.ref e) "ValueError" :=by cases x with|mk f1 f2 f a0 fl b vs T d ts c a=>exact⟨b,c,a⟩
theorem abE{dX:St}(h:AI env l h0)(sh:Sh W s')(d:eM W ba B)(ex:Ah B l c h')(U:AG dX h0 ba s'.heap)(K:Kp l dX h0 ba B)(L:LR W env ba s'.heap aI)(F:jk W ba s'.heap l)(u:s'.heap.UpToSlots h'){tk:qc}:
  dY W env l aI ba {s' with heap:=h',toks:=tk}/\Sf l dX h0 ba h':=
 ⟨⟨L.J<|.f u,F.J<|.f u,d.m ex.i,sh⟩,λb o n e=>zQ (λhb:b∈dm l=>((U.u u).r b o n e (h.f b hb o e)).elim λa g=>⟨a,g,λf=>qH hb f⟩) λhb=>⟨o.slots,ex.i _ _<|K.1 b o n e hb,λi=>dq⟩,(U.u u).G,K.2⟩
theorem adx(O:W.g){b:iH}{x D dv G:Nm}(hb:Qp W C d u b):SS W C d u (.C b x D dv G):=λ{A env l ρ Q R X st s dX h0 p} c B S H g hw=>by
 refine wpAny_Try_except<|wx (hb c B S H (bB g) hw) (λf s1 q=>?_) λe s1 q=>?_
 ·cases q with
  |w aI ba H1 S1 q=>exact Z3<|.w aI ba H1 S1 q
  |f x=>exact .f x
 cases q with|mk ea Bh ba he sh M ex U K q=>
 cases q with|mk aI L F hX=>
 subst he;obtain⟨fe,outer,Lf,rfl,o,v⟩:=c.c;refine tP c.a o v ex λh2 F2 Y=>iO (s:={s1 with heap:=h2}) F2 ft λh3 z V=>?_
 refine wpAny_handleBy_builtin (X:= "ValueError") (T:= "ValueError") (b:=hY) aeZ.isExc (by rw[isSubtype_type];kernel_rfl) PySem.F.self_ValueError (jh O c (show fu W ba {s1 with heap:=h3}from⟨M.m z.i,sh⟩) (bA (bA g)) dq ⟨dq,z.g,?_⟩)
 rw[qK dq];refine iO (s:={s1 with heap:=h3}) z ft λh4 F4 P=>?_
 obtain⟨y,S5⟩:=abE (tk:=s1.toks+1) B sh M F4 U K L F<|(Y.trans V).trans P;refine wpAny_execs_cons<|ams (ahG<|ZM (ae7 ?_)) (by rfl)
 cases hX with|mk j m n q=>
 refine ZM<|ah0 (uu c y (bB<|bB (bA g)) j λdv' t=>ae7 ?_);refine wx (Bc (fl:=fe::outer) (E:=λa a=>qp) (Q:=λw st=>w=_/\ba=st) O (y.a.H<|s1.toks+1+1) t (i:=.t G.t) dq ⟨_,.j m n,dq,dq⟩ dq) (λr h q6=>?_) λa a q=>q.elim;cases q6 with|mk w st6 hr I6 J e6=>
 obtain⟨e6,rfl⟩:=e6;subst e6;have N:dY W env (fe::outer) aI ba h:=y.g (s':=h) J I6;refine zA ⟨by rw[sizeLine_eq];exact(by decide:2<=16777216),?_⟩
 cases QW.H (l:=fe::outer) (tk:=h.toks) (vs:=[.str D.t s1.toks,r]) N.a (gm dq<|gm hr mw) q with|mk w7 st7 k I7 I q7=>
 exact j5 c B ((S5.i J).i I) (N.g I I7) (.inl<|rY (bA<|bB (bA g))) k λh8 Z a H8 S8=>Z3<|.w _ _ H8 S8 q7
variable(O:W.g)(hC:lK W C (d+1) (u+1))(hu:u+300<ZI)
include O hC hu
theorem sSs:∀l:iH,Qp W C d u l:=
 have e:∀e:Ex,SE W C d u e:=λe=>(yc O hC hu e).1
 @iH.rec (SS W C d u) (Qp W C d u) (λf a=>X2 (e a) (sU O hC hu a)) (λo f a=>FX O (e o) (e a)) (λo i a=>JL (e o) (e i) (e a)) (λf f a=>JK (e a)) (λf f a b=>RC (e a) (e b)) (λa=>adz (e a)) (λc f f a b=>X1 (yc O hC hu c).2 a b)
  (λc f b=>XZ (yc O hC hu c).2 b) (λf it f b=>ady (sIt O hC hu it) b) (λa=>X0<|e a) (MK O) (λf f f f f b=>adx O b) RB λf f a b=>MJ a b
end
structure JB(D:m8)(fn:Fn):Prop where
 a:yU fn.a D.a=D.a
 c:yt D.c fn.a D.a=hY
 d:∀pm cd doc vs,vs.length=fn.b.length->bindArgs (Z9 D.e D.d D.b D.a D.c pm cd doc) ⟨vs,[]⟩=pure ((fn.b.map Nm.t).zip vs)
 b:D.c.kind=.function
 f:D.c.isGenerator=np
 g:D.c.isCoroutine=np
 h:(D.c.names.map (·.1)).Nodup
 e:∀x∈fn.b,D.c.names.lookup x.t=dA .local\/D.c.names.lookup x.t=dA .cell
theorem rK:∀{k:qc} {acc:qe (Str×zM)} {n:Str},((n,ZX)∈l\/(acc.lookup n).isSome=hY)->((cellsFrom k l acc).lookup n).isSome=hY:=by
 induction l with
 |nil=>exactλh=>h.elim (λh=>nomatch h) id
 |cons p r ih=>
  intro k acc n h;unfold cellsFrom;by_cases q:(p.2==ZX)=hY
  ·rw[qK q];refine ih ?_;rw[xz];by_cases z:n=p.1
   ·rw[z,qZ];exact .inr dq
   ·rw[zN z];exact h.imp (λh=>(qG.mp h).elim (λe=>qH (qh akg e) z) id) id
  ·rw[if_neg q];exact ih<|h.imp (λh=>(qG.mp h).elim (λe=>qH (e▸dq) q) id) id
theorem y6:∀{k:qc} {acc:qe (Str×zM)},(∀p∈l,p.1∉acc.map (·.1))->(l.map (·.1)).Nodup->(acc.map (·.1)).Nodup->((cellsFrom k l acc).map (·.1)).Nodup:=by
 induction l with
 |nil=>exactλc c h=>h
 |cons p r ih=>
  intro k acc h1 h2 h3;obtain⟨h4,b⟩:=xi.mp h2;unfold cellsFrom;by_cases q:(p.2==ZX)=hY
  ·rw[qK q];exact ih (λx a z=>(qG.mp z).elim (λe:x.1=p.1=>h4 (show p.1∈r.map (·.1)from e▸(zg a:x.1∈r.map (·.1)))) (h1 x<|.tail _ a)) b<|xi.mpr ⟨h1 p<|.head _,h3⟩
  ·rw[if_neg q];exact ih (λp d=>h1 p<|.tail _ d) b h3
theorem Cr{l:qe (Str×zM)}{p:Str×zM}(h:(l.map (·.1)).Nodup)(a:p∈l):l.lookup p.1=dA p.2:=by
 induction l with
 |nil=>cases a
 |cons q r ih=>
  obtain⟨h4,b⟩:=xi.mp h;rw[xz];rcases qG.mp a with e|a
  ·rw[e,qZ]
  ·rw[zN λe:p.1=q.1=>h4 (show q.1∈r.map (·.1)from e▸(zg a:p.1∈r.map (·.1)))];exact ih b a
def RdK(kd:Str->qk Ze)(m cm:Str->qk qo)(n:Str)(v:AV):Prop:=(kd n=dA .local->(m n).map ab=dA (dA v))/\(kd n=dA .cell->(cm n).map ab=dA (dA v))
theorem PR:∀{vs:qe AV} {sF:qe qo} {m cm:Str->qk qo} {Di ρ:dz},(∀x∈xs,kd x.t=dA .local\/kd x.t=dA .cell)->abs sF vs->rL xs vs Di=dA ρ->
  (∀x v,Di x=dA v->RdK kd m cm x.t v)->∀x v,ρ x=dA v->RdK kd (bindL kd ((xs.map Nm.t).zip sF) m) (bindC kd ((xs.map Nm.t).zip sF) cm) x.t v:=by
 induction xs with
 |nil=>
  intro vs sF m cm Di ρ _ ha hb h0;cases vs with
  |nil=>exact qA hb▸h0
  |cons=>cases hb
 |cons x xs ih=>
  intro vs sF m cm Di ρ g ha hb h0;cases vs with
  |nil=>cases hb
  |cons a vs=>
   obtain⟨v,ws,rfl,d,f⟩:=jF ha;refine ih (λy b=>g y<|.tail _ b) f hb λy w b=>?_;by_cases z:y=x
   ·rw[z,show(Di.H x a) x=dA a from qK dq]at b;rw[z,←qA b];exact⟨λq=>by rw[qK q];exact(qh (q0 ab)<|qK dq).trans (qh dA d),λq=>by rw[if_neg (q▸λe=>nomatch e)];exact(qh (q0 ab)<|qK dq).trans (qh dA d)⟩
   ·have c:¬y.t=x.t:=λe=>z (Nm.hV.mp e);have:=h0 y w (by rwa [show(Di.H x a) y=Di y from if_neg z]at b)
    by_cases q:kd x.t=dA .local
    ·rw[qK q,qK q];exact⟨λe=>(qh (q0 ab)<|if_neg c).trans (this.1 e),this.2⟩
    ·rw[if_neg q,if_neg q];exact⟨this.1,λe=>(qh (q0 ab)<|if_neg c).trans (this.2 e)⟩
theorem Lh:∀{vs:qe AV} {Di ρ:dz},rL xs vs Di=dA ρ->vs.length=xs.length:=by
 induction xs with
 |nil=>intro vs _ _ h;cases vs with|nil=>rfl|cons=>cases h
 |cons x xs ih=>intro vs _ _ h;cases vs with|nil=>cases h|cons=>exact qh xZ<|ih h
theorem GN{env:Env}{l:qe Env}{h0:Heap}{L b:qc}{o:Obj}(c:env.frame=dA L)(z:h0.get? L=ft)(e:h0.get? b=dA o)(f:b∉dm l):b∉dm (env::l):=λw=>by
 obtain⟨d,a,q⟩:=xD.mp w;rcases qG.mp a with h|a
 ·rw[h,c]at q;exact aP z ⟨o,qA q▸e⟩
 ·exact f<|xD.mpr ⟨d,a,q⟩
theorem Sf.D{env:Env}{l:qe Env}{dX st:St}{h0 h:Heap}{L:qc}(c:env.frame=dA L)(z:h0.get? L=ft)(S:Sf (env::l) dX h0 st h):Sf l dX h0 st h:=
 ⟨λb o n e=>(S.r b o n e).elim λa g=>⟨a,g.1,λf=>g.2<|GN c z e f⟩,S.G,S.s⟩
structure amb(W:Wd)(D:m8)(env:Env)(l:qe Env)(ρ:dz)(st:St)(s lu:qy):Prop where
 a:AI env (env::l) s.heap
 c:∀b o,s.heap.get? b=dA o->lu.heap.get? b=dA o
 p:dY W env (env::l) ρ st lu
 j:env.frame=dA s.heap.objs.size
theorem afH{W:Wd}{fn:Fn}{D:m8}(r:JB D fn){env:Env}{l:qe Env}{ρ:dz}{st:St}{s w:qy}{vs:qe AV}{sF:qe qo}(A:jk W st s.heap l)(hI:fu W st s)(B:abs sF vs)(j:rL fn.b vs (λa=>ft)=dA ρ)
  (e1:env.locals=s.heap.objs.size)(e2:env.frame=dA s.heap.objs.size)(e3:env.scope=D.c)(e6:env.cells=cellsFrom (s.heap.objs.size+1) D.c.names [])
  (x:InCallC s env.locals (bindL env.kindOf ((fn.b.map Nm.t).zip sF) λa=>ft) env.cells (bindC env.kindOf ((fn.b.map Nm.t).zip sF) λa=>ft) w):amb W D env l ρ st s w:=by
 have fL:s.heap.get? env.locals=ft:=e1▸cO _;have t:∀p∈env.cells,s.heap.get? p.2=ft:=λp g=>iT<|e1▸xB (x.above p.1 p.2 g);have i:∀y,env.kindOf y=dA .cell->(env.cells.lookup y).isSome=hY:=λy q=>e6▸rK (.inl<|jw (e3▸q:D.c.names.lookup y=dA .cell));have k:(env.cells.map (·.1)).Nodup:=e6▸y6 (λa a=>nofun) r.h .nil;obtain⟨⟨⟨h',tk,E⟩,ns,kp,_⟩,cell,apart,_⟩:=x;have d:=PR (kd:=env.kindOf) (m:=λa=>ft) (cm:=λa=>ft) (λx C=>show env.scope.names.lookup x.t=dA .local\/env.scope.names.lookup x.t=dA .cell from e3▸r.e x C) B j λa a h=>nomatch h
 refine⟨⟨fL,t,λb hb o e=>?_⟩,kp,⟨⟨⟨_,_,ns,cell,λy v q=>⟨(d y v q).1,λz=>⟨i _ z,(d y v q).2 z⟩⟩⟩,λn H c q q'=>name_of_addr apart (jw q)<|jw q',i,⟨hI.h.s fL,hI.h.p fL⟩,λp g=>⟨hI.h.s<|t p g,hI.h.p<|t p g,_,cell p.1 p.2<|Cr k g⟩⟩,λF u=>?_,hI.h.m kp,E▸hI.a⟩,e2⟩
 ·exactλvs z=>zQ (λf:b∈dm l=>(A.A f).2.2.elim λG y=>y.2 vs<|qA (y.1.symm.trans e)▸z) λf=>GN e2 (e1▸fL) e f hb
 ·rcases qG.mp u with h|u
  ·exact(NQ ns).elim λo y=>h▸⟨_,o,(by rw[e3,r.b];exactλz=>nomatch z),e2,hI.h.p<|e1▸fL,hI.h.s<|e1▸fL,e1▸y.1,y.2⟩
  ·exact(A.s<|Sf.m (l:=l) kp) F u
theorem K5{W:Wd}(O:W.g){P:lS->qk Fn}(hP:∀f fn,P f=dA fn->JB (W.i f) fn){n d u:qc}(v:d<1000)(TK:u+303<9900)(ih:lK W (callW W.T P n) (d+2) (u+4)):lK W (callW W.T P (n+1)) d u:=
  λ{f vs Q X st A l s sF R} c m V hd r hF hI G w k1 k2=>by
 have c:∃fn ρ,P f=dA fn/\rL fn.b vs (λp=>ft)=dA ρ/\JE W.T (callW W.T P n) fn.a ρ (λp st=>Q .u st) Q (λp st=>X st) st:=by
  unfold callW at c;cases e:P f with
  |none=>rw[e]at c;exact c.elim
  |some fn=>
   rw[e]at c;have c:fnW W.T (callW W.T P n) fn vs Q X st:=c;unfold fnW at c;cases z:rL fn.b vs (λp=>ft)with
   |none=>rw[z]at c;exact c.elim
   |some ρ=>rw[z]at c;exact⟨fn,ρ,dq,z,c⟩
 obtain⟨fn,ρ,t,j,c⟩:=c;have D:=hP f fn t;obtain⟨o,g,i,doc,S,yK,C,FA⟩:=w;refine codeAny_call_cells (fd:=Z9 (W.i f).e (W.i f).d (W.i f).b (W.i f).a (W.i f).c g i doc) (qi hd v) (hI.h.i _ _ S) C (O.i.keeps hI.h.i) (FA.keeps hI.h.i) dq (D.d g i doc sF<|(ud G).trans (Lh j)) dq (λx M=>?_) (λlu x=>?_) D.g D.f D.b
 ·obtain⟨y,J,ey⟩:=xf.mp (aka (a:=x.1) (b:=x.2) M).1;rw[←ey];exact(D.e y J).imp id λq=>⟨q,rK<|.inl (jw q)⟩
 have B:=afH (ρ:=ρ) D hF hI G j dq dq dq dq x
 have hc:Cx (d+1) (u+3) (A.deeper (ahX (Z9 (W.i f).e (W.i f).d (W.i f).b (W.i f).a (W.i f).c g i doc) s.heap.objs.size (W.d f))) (ahX (Z9 (W.i f).e (W.i f).d (W.i f).b (W.i f).a (W.i f).c g i doc) s.heap.objs.size (W.d f)) (ahX (Z9 (W.i f).e (W.i f).d (W.i f).b (W.i f).a (W.i f).c g i doc) s.heap.objs.size (W.d f)::l):=
  ⟨qh (q0 _) m,⟨_,l,_,dq,dq,dq⟩,V,qN hd,qF r 3,dq,dq,D.b⟩
 have k:yt (ahX (Z9 (W.i f).e (W.i f).d (W.i f).b (W.i f).a (W.i f).c g i doc) s.heap.objs.size<|W.d f).scope fn.a (W.i f).a=hY:=D.c;generalize ahX (Z9 (W.i f).e (W.i f).d (W.i f).b (W.i f).a (W.i f).c g i doc) s.heap.objs.size (W.d f)=env at x B hc k⊢;have fL:=cO s.heap;rw[←D.a];refine wx (sSs O ih (show u+3+300<9900 from TK) fn.a hc B.a (Sf.m B.c) B.p k c) (λfl I q=>?_) λe I q=>?_
 ·cases q with
  |w aI ba H' E q=>exact k1 _ _ ⟨_,ba,dq,H'.a,E.D B.j fL,q⟩
  |f x=>cases x with|mk av ba N I' E q=>exact k1 _ _ ⟨av,ba,N,I',E.D B.j fL,q⟩
 ·cases q with|mk ea B' ba Y sh IB ex U K q=>
  cases q with|mk aI L F Z=>
  exact Y▸KG (A:=A.deeper env) (outer:=l) (qh (q0 _) m) B.j ex λh3 F3 H=>k2 _ _ ⟨ea,B',ba,dq,sh,IB,F3,U.u H,⟨λb o n e f=>K.1 b o n e<|GN B.j fL e f,K.2⟩,Z⟩
theorem G8(O:W.g)(hP:∀f fn,P f=dA fn->JB (W.i f) fn)(n:qc):∀d u,d+2*n<=999->u+4*n<=9500->lK W (callW W.T P n) d u:=by
 induction n with
 |zero=>exactλd u a a=>λh=>h.elim
 |succ n ih=>exactλd u h1 h2=>K5 O hP (by exact alF h1) (by exact alE h2)<|ih (d+2) (u+4) (by exact alD h1) (by exact alC h2)
def okB(D:m8)(fn:Fn):qw:=yt D.c fn.a D.a&&((D.c.kind==.function)&&(!D.c.isGenerator&&(!D.c.isCoroutine&&(decide ((D.c.names.map (·.1)).Nodup)&&
 fn.b.all λx=>D.c.names.lookup x.t==dA .local||D.c.names.lookup x.t==dA .cell))))
theorem Ld:(yj.map λq=>yU q.2.a (mP q.1).a)=yj.map λq=>(mP q.1).a:=by kernel_rfl
theorem ab2:(yj.all λq=>okB (mP q.1) q.2)=hY:=by decide+kernel
def UO(q:lS×Fn)(a b doc:qo)(g:qc->qo):Sem (qe (Str×qo)):=bindArgs (Z9 (mP q.1).e (mP q.1).d (mP q.1).b (mP q.1).a (mP q.1).c a b doc) ⟨(zL q.2.b.length).map g,[]⟩
theorem PY:(yj.map UO)=yj.map λq a b doc g=>pure ((q.2.b.map Nm.t).zip ((zL q.2.b.length).map g)):=by kernel_rfl
theorem Kc{vs:qe qo}{n:qc}(h:vs.length=n):vs=(zL n).map λi=>vs.getD i .none:=by
 refine List.ext_getElem? λi=>?_;rw[xx];by_cases k:i<n
 ·rw[aiK k,xe<|h▸k];exact qh dA (by show vs[i]=vs.getD i .none;rw[xy,xe<|h▸k];rfl)
 ·rw[acw (h▸FB k),acw (by rw[Zp];exact FB k)];rfl
theorem YD:∀f fn,jo f=dA fn->JB (mP f) fn:=λf fn h=>by
 obtain⟨q,c,e2⟩:=qS.mp h;have e1:decide (q.1=f)=hY:=akd (p:=λp:lS×Fn=>decide<|p.1=f) c;replace e1:=qC e1;have a:=zI c;have o:okB (mP q.1) q.2=hY:=qV.mp ab2 q a;have b:=adU.mp PY q a;rw[←e1,←e2];refine⟨adU.mp Ld q a,bA o,λd g doc vs hl=>?_,eq_of_beq<|bA (bB o),nE<|bA (bB<|bB o),nE<|bA (bB<|bB (bB o)),qC<|bA (bB<|bB (bB<|bB o)),λx e=>(acN.mp<|qV.mp (bB<|bB (bB<|bB (bB o))) x e).imp eq_of_beq eq_of_beq⟩;rw[Kc hl];exact ahW (ahW (ahW (ahW b d) g) doc) _
end
section
open PySem
section
set_option genInjectivity false
inductive Uh where
 |F|i|H|d (ks:qe qd)|j (ks:qe Nm)|f (c:Nm) (xs:qe Nm)|y (c m:Nm)
noncomputable def Uh.ctorIdx(a:Uh):qc:=@Uh.casesOn (λa=>qc) a 0 1 2 (λa=>3) (λa=>4) (λa a=>5) (λa a=>6)
set_option genCtorIdx true in
inductive Sx where|d|e|a deriving xt
inductive U where
 |u|q (b:qw)|j (i:qd)|t (s:Str)|z (n:Nm)|d (a:qc)|K (k:Sx)|A (h:Uh) (l:qe U)
noncomputable def U.ctorIdx(a:U):qc:=@U.casesOn (λa=>qc) a 0 (λa=>1) (λa=>2) (λa=>3) (λa=>4) (λa=>5) (λa=>6) (λa a=>7)
structure Mc where
 j:qw
 h:Uh
 l:qe U
abbrev Mu:=qc->qk Mc
abbrev UL:=Nm->qk U
abbrev UQ:=U->Mu->Prop
abbrev rj:=qe U->Mu->Prop
abbrev Hl:=qe (qe U)->Mu->Prop
abbrev ce:=UL->Mu->Prop
noncomputable def Mu.H(μ:Mu)(a:qc)(c:Mc):Mu:=λb=>if b=a then dA c else μ b
noncomputable def UL.H(ρ:UL)(x:Nm)(v:U):UL:=λy=>if y=x then dA v else ρ y
def dB{α:Type}(o:qk α)(K:α->Prop):Prop:=@Option.casesOn α (λa=>Prop) o qp K
inductive rdO(o:qk Mc)(K:Uh->qe U->Prop):Prop
 |mk{b h l}(e:o=dA ⟨b,h,l⟩)(q:K h l):rdO o K
noncomputable def spT(k:Sx):U:=.z<|@Sx.casesOn (λa=>Nm) k ⟨115⟩ ⟨266⟩ ⟨256⟩
def F5(v:U)(μ:Mu)(K:Uh->qe U->Prop):Prop:=
 @U.casesOn (λb=>Prop) v qp (λb=>qp) (λb=>qp) (λb=>qp) (λb=>qp) (λa=>rdO (μ a) K) (λk=>K (.f .bM [.cX]) [spT k]) λh l=>K h l
inductive wrO(o:qk Mc)(K:Uh->qe U->Prop):Prop
 |mk{h l}(e:o=dA ⟨np,h,l⟩)(q:K h l):wrO o K
def QX(v:U)(μ:Mu)(K:qc->Uh->qe U->Prop):Prop:=
 @U.casesOn (λb=>Prop) v qp (λb=>qp) (λb=>qp) (λb=>qp) (λb=>qp) (λa=>wrO (μ a)<|K a) (λb=>qp) λb b=>qp
noncomputable def OP{α:Sort _}(h:Uh)(z a:α):α:=@Uh.casesOn (λb=>α) h a z z (λb=>z) (λb=>z) (λb b=>z) λb b=>z
def rdL(v:U)(μ:Mu)(K:qe U->Prop):Prop:=F5 v μ λh l=>OP h qp<|K l
noncomputable def kE(v:U):qk qd:=@U.casesOn (λa=>qk qd) v xM (λa=>xM) (λi=>dA i) (λa=>xM) (λa=>xM) (λa=>xM) (λa=>xM) λa a=>xM
noncomputable def SL(v:U):qk Nm:=@U.casesOn (λa=>qk Nm) v xM (λa=>xM) (λa=>xM) (λa=>xM) (λn=>dA n) (λa=>xM) (λa=>xM) λa a=>xM
def uy(v:U)(K:qw->Prop):Prop:=@U.casesOn (λa=>Prop) v qp (λb=>K b) (λa=>qp) (λa=>qp) (λa=>qp) (λa=>qp) (λa=>qp) λa a=>qp
def d9(m:qw)(h:Uh)(l:qe U)(Q:UQ)(μ:Mu):Prop:=xU m (∀a,μ a=ft->Q (.d a) (μ.H a ⟨np,h,l⟩))<|Q (.A h l) μ
def Er{κ:Type} [xt κ](ks:qe κ)(l:qe U)(k:κ):qk U:=eA (ks.zip l) k
def vY(xs:qe Nm)(l:qe U)(x:Nm):qk U:=@List.rec Nm (λa=>qe U->qk U) (λa=>ft) (λy a ih l=>xU (y==x) l.head?<|ih l.tail) xs l
def P9(c:Nm)(v:U)(x:Nm)(Q:UQ)(μ:Mu):Prop:=xU (x==.w) (dB (eK c) λk=>Q (.j k) μ)<|dB (cR c x) λf=>@lS.casesOn (λa=>Prop) f (λa=>qp) λk m=>Q (.A (.y k m) [v]) μ
def af9(h:Uh)(l:qe U)(v:U)(x:Nm)(Q:UQ)(μ:Mu):Prop:=
 @Uh.casesOn (λa=>Prop) h qp qp qp (λa=>qp) (λa=>qp) (λc xs=>@Option.casesOn U (λa=>Prop) (vY xs l x) (P9 c v x Q μ) λw=>Q w μ) λa a=>qp
def Ju(v:U)(x:Nm)(Q:UQ)(μ:Mu):Prop:=F5 v μ λh l=>af9 h l v x Q μ
def rI(v:U)(m:Nm)(μ:Mu)(K:lS->Prop):Prop:=F5 v μ λh l=>@Uh.casesOn (λa=>Prop) h qp qp qp (λa=>qp) (λa=>qp) (λc xs=>xU (vY xs l m).isNone (dB (cR c m) K) qp) λa a=>qp
def aaz(h:Uh)(l:qe U)(i:U):qk U:=
 @Uh.casesOn (λa=>qk U) h ((kE i).bind (u1 l)) xM ((kE i).bind (u1 l)) (λks=>(kE i).bind (Er ks l)) (λks=>(SL i).bind (Er ks l)) (λa a=>xM) λa a=>xM
def EE(v i:U)(Q:UQ)(μ:Mu):Prop:=F5 v μ λh l=>dB (aaz h l i) λw=>Q w μ
def y1(n d:qc)(v:U)(K:qc->Prop):Prop:=@U.casesOn (λa=>Prop) v (K d) (λa=>qp) (λi=>K<|acD n i) (λa=>qp) (λa=>qp) (λa=>qp) (λa=>qp) λa a=>qp
@[irreducible] def iA(m:qw)(v lo hi:U)(Q:UQ)(μ:Mu):Prop:=F5 v μ λh l=>@Uh.casesOn (λa=>Prop) h (y1 l.length 0 lo λx=>y1 l.length l.length hi λy=>d9 m .F ((l.take y).drop x) Q μ) (y1 l.length 0 lo λx=>y1 l.length l.length hi λy=>d9 m .F ((l.take y).drop x) Q μ) qp (λa=>qp) (λa=>qp) (λa a=>qp) λa a=>qp
def adL(m:qw)(v:U)(Q:UQ)(μ:Mu):Prop:=rdL v μ λl=>d9 m .F l.reverse Q μ
def WN(op:Fy)(i j:qd)(Q:UQ)(μ:Mu):Prop:=@Fy.casesOn (λa=>Prop) op (Q (.j<|i+j) μ) (Q (.j<|i-j) μ) ((jn i\/jn j)/\Q (.j<|i*j) μ) ((0<j/\j<1000000)/\Q (.j<|i.fdiv j) μ) (0<j/\Q (.j<|i.fmod j) μ)<|(i=10/\j=18)/\Q (.j 1000000000000000000) μ
def abF(op:Fy)(m:qw)(a b:U)(Q:UQ)(μ:Mu):Prop:=@Fy.casesOn (λc=>Prop) op (rdL a μ λl=>rdL b μ λk=>l.length+k.length<aH/\d9 m .F (l++k) Q μ) qp qp qp qp qp
def UT(op:Fy)(m:qw)(a b:U)(Q:UQ)(μ:Mu):Prop:=@Option.casesOn qd (λc=>Prop) (kE a) (abF op m a b Q μ) λi=>dB (kE b) λj=>WN op i j Q μ
def eqK(v w:U)(E:Prop)(K:qw->Prop):Prop:=@Option.casesOn qd (λa=>Prop) (kE v) (@Option.casesOn Nm (λa=>Prop) (SL v) E λn=>@Option.casesOn Nm (λa=>Prop) (SL w) E λm=>K<|decide (n=m)) λi=>@Option.casesOn qd (λa=>Prop) (kE w) E λj=>K<|i==j
inductive oG(E:U->U->qw->Prop)(μ:Mu):U->U->qw->Prop
 |g{a b}:oG E μ (.q a) (.q b) (a==b)
 |c{a b}:oG E μ (.j a) (.j b) (a==b)
 |t{a b}:oG E μ (.q a) (.j b) (UX a==b)
 |v{a b}:oG E μ (.j a) (.q b) (a==UX b)
 |o{a b}:oG E μ (.z a) (.z b) (decide<|a=b)
 |z{s n}:oG E μ (.t s) (.z n) (s==n.t)
 |F{l m r}(hl:l.length=m.length)(h:Hp E l m r):oG E μ (.A .F l) (.A .F m) r
 |f{l m}(hl:l.length≠m.length):oG E μ (.A .F l) (.A .F m) np
 |j{a b l}(e:μ a=dA ⟨b,.F,l⟩):oG E μ (.d a) (.A .F []) l.isEmpty
 |H{l m r}(h:Hp E l m r):oG E μ (.A .H l) (.A .H m) (r&&l.length==m.length)
 |y{a b xs l}(e:μ a=dA ⟨b,.f .N xs,l⟩):oG E μ (.d a) (.d a) hY
 |u{a b a' b' xs l W9 l'}(ne:a≠b)(e:μ a=dA ⟨a',.f .N xs,l⟩)(e':μ b=dA ⟨b',.f .N W9,l'⟩):oG E μ (.d a) (.d b) np
 |p{a b xs l m}(e:μ a=dA ⟨b,.f .N xs,l⟩):oG E μ (.d a) (.A .H m) np
 |k{a b xs l m}(e:μ a=dA ⟨b,.f .N xs,l⟩):oG E μ (.A .H m) (.d a) np
 |w{i m}:oG E μ (.j i) (.A .H m) np
 |q{i m}:oG E μ (.A .H m) (.j i) np
 |x{i m}:oG E μ (.z i) (.A .H m) np
 |d{i m}:oG E μ (.A .H m) (.z i) np
def BM(μ:Mu)(n:qc):U->U->qw->Prop:=@Nat.rec (λa=>U->U->qw->Prop) (λa a a=>qp) (λa E=>oG E μ) n
inductive NeU(μ:Mu):U->U->qw->Prop
 |F{l m r}(hl:l.length=m.length)(h:Hp (BM μ 199) l m r):NeU μ (.A .F l) (.A .F m) r
 |f{l m}(hl:l.length≠m.length):NeU μ (.A .F l) (.A .F m) np
 |j{a b l}(e:μ a=dA ⟨b,.F,l⟩):NeU μ (.d a) (.A .F []) l.isEmpty
 |d{i m}:NeU μ (.A .H m) (.z i) np
def canon(v:U):Prop:=@U.casesOn (λa=>Prop) v qp (λa=>qp) (λa=>xT) (λa=>qp) (λa=>qp) (λa=>qp) (λa=>qp) λa a=>xT
def eqU(v w:U)(μ:Mu)(K:qw->Prop):Prop:=eqK v w (∃b,BM μ eU v w b/\K b) K
def neU(v w:U)(μ:Mu)(K:qw->Prop):Prop:=eqK v w (∃b,NeU μ v w b/\K !b) λb=>K !b
def Fj(E:Prop)(v:U)(l:qe U):(qw->Prop)->Prop:=@List.rec U (λa=>(qw->Prop)->Prop) (λK=>K np) (λw a ih K=>eqK w v E λb=>ih λc=>K<|b||c) l
def S9(v:U)(l:qe U)(μ:Mu)(K:qw->Prop):Prop:=Fj (∃g:U->qw,(∀w∈l,canon w/\BM μ eU w v (g w))/\K (l.any g)) v l K
def SZ(v w:U)(μ:Mu)(K:qw->Prop):Prop:=F5 w μ λh l=>@Uh.casesOn (λa=>Prop) h (S9 v l μ K) qp (S9 v l μ K) (λks=>dB (kE v) λk=>K (Er ks l k).isSome) (λa=>qp) (λa a=>qp) λa a=>qp
def hdI(h:Uh)(P:Prop):Prop:=@Uh.casesOn (λa=>Prop) h P qp qp (λa=>qp) (λa=>qp) (λa a=>P) λa a=>qp
def aeM(v:U)(k:Sx)(μ:Mu)(K:qw->Prop):Prop:=@U.casesOn (λb=>Prop) v qp (λb=>K np) (λb=>K np) (λb=>qp) (λb=>qp) (λa=>rdO (μ a) λh b=>hdI h<|K np) (λj=>K<|decide (j=k)) λh b=>hdI h<|K np
def TA(v w:U)(μ:Mu)(K:qw->Prop):Prop:=@U.casesOn (λa=>Prop) w qp (λa=>qp) (λa=>qp) (λa=>qp) (λa=>qp) (λa=>qp) (λk=>aeM v k μ K)
 λh' c=>@U.casesOn (λa=>Prop) v qp (λa=>qp) (λa=>qp) (λa=>qp) (λa=>qp) (λa=>qp) (λa=>qp) λh l=>hdI h (∀b:qw,(b=hY->(.A h l:U)=.A h' c)->K b)
def NG(v w:U)(K:qd->qd->Prop):Prop:=dB (kE v) λi=>dB (kE w) λj=>K i j
def UC(op:aeN)(v w:U)(Q:UQ)(μ:Mu):Prop:=
 @CmpOp.casesOn (λa=>Prop) op (eqU v w μ λb=>Q (.q b) μ) (neU v w μ λb=>Q (.q b) μ) (NG v w λi j=>Q (.q (decide (i<j))) μ) (NG v w λi j=>Q (.q (decide (i<=j))) μ) (NG v w λi j=>Q (.q (decide (i>j))) μ) (NG v w λi j=>Q (.q (decide (i>=j))) μ)
  (TA v w μ λb=>Q (.q b) μ) (TA v w μ λb=>Q (.q !b) μ) (SZ v w μ λb=>Q (.q b) μ) (SZ v w μ λb=>Q (.q !b) μ)
def Tz(cs:qe Nm)(h:Uh)(K:qw->Prop):Prop:=@Uh.casesOn (λa=>Prop) h (K<|cs.any λk=>k==.B) qp (K<|cs.any λa=>np) (λa=>qp) (λa=>qp) (λc a=>K<|cs.any λk=>k==c||(iq c&&k==.X)) λa a=>qp
def Kk(cs:qe Nm)(v:U)(Q:UQ)(μ:Mu):Prop:=
 @U.casesOn (λc=>Prop) v qp (λc=>Q (.q<|cs.any λk=>k==.gX||k==.iL) μ) (λc=>Q (.q<|cs.any λk=>k==.iL) μ) (λc=>qp) (λc=>qp) (λa=>rdO (μ a) λh c=>Tz cs h λb=>Q (.q b) μ) (λc=>Tz cs (.f .bM [.cX]) λb=>Q (.q b) μ) λh c=>Tz cs h λb=>Q (.q b) μ
def cM(vs:qe U)(K:U->Prop):Prop:=@List.casesOn U (λa=>Prop) vs qp λv l=>@List.casesOn U (λa=>Prop) l (K v) λa a=>qp
def aet(h:Uh)(l:qe U)(Q:UQ)(μ:Mu):Prop:=@Uh.casesOn (λa=>Prop) h (Q (.j l.length) μ) qp (Q (.j l.length) μ) (λa=>Q (.j l.length) μ) (λa=>qp) (λa a=>qp) λa a=>qp
def b2(v:U)(K:qw->Prop):Prop:=uy v K
def aiz(v:U)(Q:UQ)(μ:Mu):Prop:=@U.casesOn (λa=>Prop) v qp (λa=>qp) (λa=>qp) (λs=>∃c:qc,s.cps.toList=[c]/\Q (.j c) μ) (λa=>qp) (λa=>qp) (λa=>qp) λa a=>qp
def uJ{κ:Type} [xt κ](ks:qe κ)(l:qe U)(k:κ)(v:U):qe κ×qe U:=((jm (ks.zip l) k v).map (·.1),(jm (ks.zip l) k v).map (·.2))
def NE(v:U)(K:qd->U->Prop):Prop:=@U.casesOn (λb=>Prop) v qp (λb=>qp) (λb=>qp) (λb=>qp) (λb=>qp) (λb=>qp) (λb=>qp) λh l=>@Uh.casesOn (λb=>Prop) h qp qp
 (@List.casesOn U (λb=>Prop) l qp λa l=>cM l λw=>dB (kE a) λk=>K k w) (λb=>qp) (λb=>qp) (λb b=>qp) λb b=>qp
def Bx(l:qe U):qe qd×qe U->(qe qd×qe U->Prop)->Prop:=@List.rec U (λa=>qe qd×qe U->(qe qd×qe U->Prop)->Prop) (λacc K=>K acc) (λv a ih acc K=>NE v λk w=>ih (uJ acc.1 acc.2 k w) K) l
def WA(m:qw)(h:Uh)(l:qe U)(Q:UQ)(μ:Mu):Prop:=@Uh.casesOn (λa=>Prop) h (Bx l ([],[]) λr=>d9 m (.d r.1) r.2 Q μ) qp qp (λks=>d9 m (.d ks) l Q μ) (λa=>qp) (λa a=>qp) λa a=>qp
def prU(p:Bf)(m:qw)(vs:qe U)(Q:UQ)(μ:Mu):Prop:=cM vs λv=>@Bf.casesOn (λa=>Prop) p (F5 v μ λh l=>aet h l Q μ) (dB (kE v) λi=>Q (.j i.natAbs) μ) (b2 v λb=>Q (.j<|UX b) μ) (aiz v Q μ) (rdL v μ λl=>d9 m .H l Q μ) (rdL v μ λl=>d9 m .F l Q μ)<|F5 v μ λh l=>WA m h l Q μ
def Jq(m:Lm)(v:U)(μ:Mu)(P:Prop):Prop:=F5 v μ λh a=>@Uh.casesOn (λa=>Prop) h (@Lm.casesOn (λa=>Prop) m P P P qp) qp qp (λa=>@Lm.casesOn (λa=>Prop) m qp qp qp P) (λa=>qp) (λa a=>qp) λa a=>qp
def YE(a:qc)(vs:qe U)(l:qe U)(Q:UQ)(μ:Mu):Prop:=@List.casesOn U (λb=>Prop) vs (∃c w,l=c++[w]/\Q w (μ.H a ⟨np,.F,c⟩)) λi vs=>@List.casesOn U (λb=>Prop) vs (dB (kE i) λi=>i=0/\@List.casesOn U (λb=>Prop) l qp λw c=>Q w<|μ.H a ⟨np,.F,c⟩) λb b=>qp
inductive abr(o:qk U)(d:U)(Q:UQ)(μ:Mu):Prop
 |mk(q:Q (o.getD d) μ):abr o d Q μ
def afn(h:Uh)(l vs:qe U)(Q:UQ)(μ:Mu):Prop:=@Uh.casesOn (λa=>Prop) h qp qp qp (λks=>@List.casesOn U (λa=>Prop) vs qp λk vs=>cM vs λd=>dB (kE k) λk=>abr (Er ks l k) d Q μ) (λa=>qp) (λa a=>qp) λa a=>qp
def bmU(m:Lm)(v:U)(vs:qe U)(Q:UQ)(μ:Mu):Prop:=@Lm.casesOn (λb=>Prop) m (cM vs λw=>QX v μ λa h l=>OP h qp (l.length+1<aH/\Q .u (μ.H a ⟨np,.F,l++[w]⟩)))
 (QX v μ λa h l=>OP h qp<|YE a vs l Q μ) (cM vs λw=>QX v μ λa h l=>OP h qp<|@U.casesOn (λb=>Prop) w qp (λb=>qp) (λb=>qp) (λb=>qp) (λb=>qp) (λb=>qp) (λb=>qp) λh' k=>OP h' qp<|l.length+k.length<aH/\Q .u (μ.H a ⟨np,.F,l++k⟩)) (F5 v μ λh l=>afn h l vs Q μ)
def plain:qe (Nm×qe Nm):=[(.jZ,[.m]),(.ju,[.j]),(.iM,[.T]),(.cE,[.j,.m]),(.bO,[.T,.m]),(.s9,[.kA,.vn,.Eg]),(.cC,[.x,.J,.R,.I]),(.fX,[.Y,.U]),
 (.jJ,[.fV]),(.jt,[.Az,.U]),(.N,[⟨113⟩]),(.fG,[.kP]),(.eJ,[.A]),(.b9,[.A])]
def afr(v:U)(Q:UQ)(μ:Mu):Prop:=@U.casesOn (λb=>Prop) v qp (λb=>qp) (λb=>qp) (λb=>qp) (λb=>qp) (λa=>rdO (μ a) λh l=>Q (.A h l)<|μ.H a ⟨hY,h,l⟩) (λb=>qp) λb b=>qp
noncomputable def rD(s:Str):qe (qe U):=s.cps.toList.map λc=>[U.t ⟨#[c]⟩]
noncomputable def fF(l:qe U):qe (qe U):=l.map λv=>[v]
def itU(v:U)(K:qe (qe U)->Prop):Prop:=@U.casesOn (λa=>Prop) v qp (λa=>qp) (λa=>qp) (λs=>xU (zR (rD s).length 1000) (K<|rD s) qp) (λn=>xU (zR (rD n.t).length 1000) (K<|rD n.t) qp) (λa=>qp) (λa=>qp) λh l=>@Uh.casesOn (λa=>Prop) h (K<|fF l) qp (K<|fF l) (λa=>qp) (λa=>qp) (λa a=>qp) λa a=>qp
noncomputable def nB(n:qd):qe (qe U):=(zL n.toNat).map λ(i:qc)=>[U.j i]
def ndL(v:U)(K:qe U->Prop):Prop:=@U.casesOn (λa=>Prop) v qp (λa=>qp) (λa=>qp) (λa=>qp) (λa=>qp) (λa=>qp) (λa=>qp) λh l=>OP h qp<|K l
noncomputable def sE(l k:qe U):qe (qe U):=(l.zip k).map λp=>[p.1,p.2]
noncomputable def CT(l:qe U):qe (qe U):=l.zipIdx.map λp=>[.j p.2,p.1]
def ndT(v:U)(K:qe U->Prop):Prop:=@U.casesOn (λa=>Prop) v qp (λa=>qp) (λa=>qp) (λa=>qp) (λa=>qp) (λa=>qp) (λa=>qp) λh l=>@Uh.casesOn (λa=>Prop) h qp qp (K l) (λa=>qp) (λa=>qp) (λa a=>qp) λa a=>qp
def SN{α:Type}(l:qe α)(P:Prop):Prop:=@List.casesOn α (λa=>Prop) l P λa a=>qp
def P4(xs:qe Nm)(v:U)(ρ:UL)(Q:UL->Prop):Prop:=@List.casesOn Nm (λc=>Prop) xs qp λx xs=>@List.casesOn Nm (λc=>Prop) xs (Q<|ρ.H x v) λy xs=>SN xs<|ndT v λl=>@List.casesOn U (λc=>Prop) l qp λa l=>cM l λb=>Q<|(ρ.H x a).H y b
def af3(xs:qe Nm)(v w:U)(ρ:UL)(Q:UL->Prop):Prop:=@List.casesOn Nm (λa=>Prop) xs qp λx xs=>@List.casesOn Nm (λa=>Prop) xs qp λy xs=>SN xs<|Q ((ρ.H x v).H y w)
def jL(xs:qe Nm)(vs:qe U)(ρ:UL)(Q:UL->Prop):Prop:=@List.casesOn U (λa=>Prop) vs qp λv vs=>@List.casesOn U (λa=>Prop) vs (P4 xs v ρ Q) λw vs=>SN vs<|af3 xs v w ρ Q
@[irreducible] def dF(cy:qe U->(qk U->Mu->Prop)->Mu->Prop)(items:qe (qe U)):qe U->(qe U->Mu->Prop)->Mu->Prop:=@List.rec (qe U) (λa=>qe U->(qe U->Mu->Prop)->Mu->Prop) (λacc Q μ=>Q acc μ) (λvs a ih acc Q μ=>cy vs (λv μ=>ih (@Option.casesOn U (λa=>qe U) v acc λw=>acc++[w]) Q μ) μ) items
@[irreducible] def kX(cy:qe U->ce->ce)(items:qe (qe U)):ce->ce:=@List.rec (qe U) (λa=>ce->ce) (λQ=>Q) (λvs a ih Q ρ μ=>cy vs (ih Q) ρ μ) items
section
variable{cy:qe U->(qk U->Mu->Prop)->Mu->Prop}{items:qe (qe U)}{acc vs:qe U}{Q:rj}{K:ce}{μ:Mu}
theorem eX:dF cy [] acc Q μ=Q acc μ:=by unfold dF;rfl
theorem dD:dF cy (vs::items) acc Q μ=cy vs (λv μ=>dF cy items (@Option.casesOn U (λa=>List U) v acc λw=>acc++[w]) Q μ) μ:=by unfold dF;rfl
theorem EK:kX trn [] K=K:=by unfold kX;rfl
theorem Bl:kX trn (vs::items) K=trn vs (kX trn items K):=by unfold kX;rfl
end
end
abbrev be:=lS->qe U->UQ->(Mu->Prop)->Mu->Prop
noncomputable def Vz(v:AV):U:=@AV.casesOn (λc=>U) v .u (λb=>.q b) (λi=>.j i) (λs=>.t s) λa=>.d a
def Hg:qe U:=[.z ⟨187⟩,.z .j,.z .T,.z ⟨55⟩,.z ⟨115⟩,.z ⟨266⟩]
def IK(ad:qe U)(x:Nm):qk U:=fm [(⟨99⟩,.j 0),(.lX,.j 1),(⟨149⟩,.j 2),(⟨226⟩,.j 3),(⟨248⟩,.j 4),(⟨148⟩,.j 5),(⟨3⟩,.j 6),(.jv,.j 7),(⟨42⟩,.j 8),(⟨11⟩,.j 9),(⟨46⟩,.j 10),
 (⟨9⟩,.j 11),(⟨13⟩,.j (-1)),(⟨106⟩,.j 0),(⟨101⟩,.K .d),(⟨259⟩,.K .e),(⟨249⟩,.K .a),(⟨98⟩,.A .H Hg),(⟨224⟩,.A .H ad)] x
section
variable(ad:qe U)(C:be)
def SW(c:Nm)(m:qw)(vs:qe U)(Q:UQ)(X:Mu->Prop)(μ:Mu):Prop:=@Option.casesOn (qe Nm) (λb=>Prop) (fm plain c) (cR c .r=dA (.y c .r)/\∀a,μ a=ft->C (.y c .r) (.d a::vs) (λv μ=>v=.u/\Q (.d a) μ) X (μ.H a ⟨np,.f c [],[]⟩))
 λxs=>xU (zF vs.length xs.length) (d9 m (.f c xs) vs Q μ) qp
def Xl(v:qk U)(vs:qe U)(Q:UQ)(X:Mu->Prop)(μ:Mu):Prop:=dB v λv=>@U.casesOn (λa=>Prop) v qp (λa=>qp) (λa=>qp) (λa=>qp) (λa=>qp) (λa=>qp) (λa=>qp) λh l=>@Uh.casesOn (λa=>Prop) h qp qp qp (λa=>qp) (λa=>qp) (λa a=>qp)
 λc m=>cM l λself=>C (.y c m) (self::vs) Q X μ
def cB2(op:Fy)(m:qw)(v:U)(Q:UQ):UQ:=λw μ=>UT op m v w Q μ
def cB1(op:Fy)(m:qw)(wb:UQ->Mu->Prop)(Q:UQ):UQ:=λv μ=>wb (cB2 op m v Q) μ
def akt(Q:UQ):UQ:=λv μ=>dB (kE v) λi=>Q (.j (-i)) μ
def aks(Q:UQ):UQ:=λv μ=>uy v λb=>Q (.q !b) μ
def cC2(op:aeN)(v:U)(Q:UQ):UQ:=λw μ=>UC op v w Q μ
def cC1(op:aeN)(wb:UQ->Mu->Prop)(Q:UQ):UQ:=λv μ=>wb (cC2 op v Q) μ
def Jj(a b:Mu->Prop):UQ:=λv μ=>uy v λt=>xU t (a μ)<|b μ
def aky(a:Mu->Prop)(Q:UQ):UQ:=λv μ=>uy v λt=>xU t (a μ)<|Q (.q np) μ
def cOr(a:Mu->Prop)(Q:UQ):UQ:=λv μ=>uy v λt=>xU t (Q (.q hY) μ)<|a μ
def afX(m:qw)(Q:UQ):rj:=λvs μ=>xU (zR vs.length 100) (d9 m .F vs Q μ) qp
def akl(m:qw)(Q:UQ):rj:=λvs μ=>xU (zR vs.length 100) (d9 m .H vs Q μ) qp
def dct{κ:Type} [xt κ](kO:U->qk κ)(n:qc):qe U->qe (κ×U)->(qe (κ×U)->Prop)->Prop:=@Nat.rec (λa=>qe U->qe (κ×U)->(qe (κ×U)->Prop)->Prop) (λl acc K=>@List.casesOn U (λa=>Prop) l (K acc) λa a=>qp)
 (λa ih l acc K=>@List.casesOn U (λa=>Prop) l (K acc) λk l=>@List.casesOn U (λa=>Prop) l qp λv l=>dB (kO k) λk=>ih l (jm acc k v) K) n
def WL(i m:qw)(Q:UQ):rj:=λl μ=>xU i (dct kE 10 l [] λL=>d9 m (.d (L.map (·.1))) (L.map (·.2)) Q μ) (dct SL 10 l [] λL=>d9 m (.j (L.map (·.1))) (L.map (·.2)) Q μ)
def af0(x:Nm)(Q:UQ):UQ:=λv μ=>Ju v x Q μ
def cI2(v:U)(Q:UQ):UQ:=λi μ=>EE v i Q μ
def cI1(wi:UQ->Mu->Prop)(Q:UQ):UQ:=λv μ=>wi (cI2 v Q) μ
def cS3(m:qw)(v lo:U)(Q:UQ):UQ:=λhi μ=>iA m v lo hi Q μ
def cS2(m:qw)(v:U)(wh:UQ->Mu->Prop)(Q:UQ):UQ:=λlo μ=>wh (cS3 m v lo Q) μ
def cS1(m:qw)(wl wh:UQ->Mu->Prop)(Q:UQ):UQ:=λv μ=>wl (cS2 m v wh Q) μ
def akn(m:qw)(Q:UQ):UQ:=λv μ=>adL m v Q μ
def Jk(f:Nm)(Q:UQ)(X:Mu->Prop):rj:=λvs μ=>C (.r f) vs Q X μ
def afV(c:Nm)(m:qw)(Q:UQ)(X:Mu->Prop):rj:=λvs μ=>SW C c m vs Q X μ
def cM2(f:lS)(v:U)(Q:UQ)(X:Mu->Prop):rj:=λvs μ=>C f (v::vs) Q X μ
def afW(m:Nm)(wl:rj->Mu->Prop)(Q:UQ)(X:Mu->Prop):UQ:=λv μ=>rI v m μ λf=>wl (cM2 C f v Q X) μ
def akk(v:qk U)(Q:UQ)(X:Mu->Prop):rj:=λvs μ=>Xl C v vs Q X μ
def cPr(p:Bf)(m:qw)(Q:UQ):rj:=λvs μ=>prU p m vs Q μ
def aku(cs:qe Nm)(Q:UQ):UQ:=λv μ=>Kk cs v Q μ
def akx(m:Lm)(v:U)(Q:UQ):rj:=λvs μ=>bmU m v vs Q μ
def cBm(m:Lm)(wl:rj->Mu->Prop)(Q:UQ):UQ:=λv μ=>Jq m v μ<|wl (akx m v Q) μ
def cE2(v:U)(Q:rj):rj:=λvs μ=>Q (v::vs) μ
def cE1(wl:rj->Mu->Prop)(Q:rj):UQ:=λv μ=>wl (cE2 v Q) μ
def km(K:qk U->Mu->Prop):UQ:=λv μ=>K (dA v) μ
def PQ(m:qw)(Q:UQ):rj:=λl μ=>d9 m .F l Q μ
def PP(xs:qe Nm)(ρ:UL)(m:qw)(w:UL->UQ->Mu->Prop)(Q:UQ):Hl:=λitems μ=>dF (λvs K μ=>jL xs vs ρ λaI=>w aI (km K) μ) items [] (PQ m Q) μ
def abK(xs:qe Nm)(ρ:UL)(m:qw)(w c:UL->UQ->Mu->Prop)(Q:UQ):Hl:=λitems μ=>dF (λvs K μ=>jL xs vs ρ λaI=>c aI (Jj (w aI<|km K)<|K ft) μ) items [] (PQ m Q) μ
def cIt(Q:Hl):UQ:=λv μ=>itU v λl=>Q l μ
def C4(Q:Hl):UQ:=λv μ=>dB (kE v) λn=>(0<=n/\n<aH)/\Q (nB n) μ
def cZ2(v:U)(Q:Hl):UQ:=λw μ=>ndL v λl=>ndL w λk=>Q (sE l k) μ
def cZ1(wb:UQ->Mu->Prop)(Q:Hl):UQ:=λv μ=>wb (cZ2 v Q) μ
def WK(Q:Hl):UQ:=λv μ=>ndT v λl=>Q (CT l) μ
def akv(Q:UQ):UQ:=λv μ=>afr v Q μ
mutual
noncomputable def uE:Ex->qw->(Mu->Prop)->UL->UQ->Mu->Prop
 |.u,_,_,_,Q,μ=>Q .u μ
 |.q b,_,_,_,Q,μ=>Q (.q b) μ
 |.j i,_,_,_,Q,μ=>Q (.j i) μ
 |.t n,_,_,_,Q,μ=>Q (.z n) μ
 |.s x,_,_,ρ,Q,μ=>dB (ρ x) λv=>Q v μ
 |.B x,_,_,_,Q,μ=>dB (IK ad x) λv=>Q v μ
 |.C op a b,m,X,ρ,Q,μ=>uE a np X ρ (cB1 op m (uE b np X ρ) Q) μ
 |.L a,_,X,ρ,Q,μ=>uE a np X ρ (akt Q) μ
 |.v a,_,X,ρ,Q,μ=>uE a np X ρ (aks Q) μ
 |.g op a b,_,X,ρ,Q,μ=>uE a np X ρ (cC1 op (uE b np X ρ) Q) μ
 |.I l,_,X,ρ,Q,μ=>Xz l X ρ Q μ
 |.N l,_,X,ρ,Q,μ=>uOr l X ρ Q μ
 |.D c a b,m,X,ρ,Q,μ=>uE c np X ρ (Jj (uE a m X ρ Q)<|uE b m X ρ Q) μ
 |.F l,m,X,ρ,Q,μ=>FQ l X ρ (afX m Q) μ
 |.H l,m,X,ρ,Q,μ=>FQ l X ρ (akl m Q) μ
 |.w i l,m,X,ρ,Q,μ=>FQ l X ρ (WL i m Q) μ
 |.z elt xs it,m,X,ρ,Q,μ=>uIt it X ρ (PP xs ρ m (uE elt np X) Q) μ
 |.O elt xs it c,m,X,ρ,Q,μ=>uIt it X ρ (abK xs ρ m (uE elt np X) (uE c np X) Q) μ
 |.d e x,_,X,ρ,Q,μ=>uE e np X ρ (af0 x Q) μ
 |.r e i,_,X,ρ,Q,μ=>uE e np X ρ (cI1 (uE i np X ρ) Q) μ
 |.A e lo hi,m,X,ρ,Q,μ=>uE e np X ρ (cS1 m (uE lo np X ρ) (uE hi np X ρ) Q) μ
 |.R e,m,X,ρ,Q,μ=>uE e np X ρ (akn m Q) μ
 |.h f l,_,X,ρ,Q,μ=>FQ l X ρ (Jk C f Q X) μ
 |.G c l,m,X,ρ,Q,μ=>FQ l X ρ (afV C c m Q X) μ
 |.y o m l,_,X,ρ,Q,μ=>uE o np X ρ (afW C m (FQ l X ρ) Q X) μ
 |.P x l,_,X,ρ,Q,μ=>(ρ x).isSome=hY/\FQ l X ρ (akk C (ρ x) Q X) μ
 |.E p l,m,X,ρ,Q,μ=>FQ l X ρ (cPr p m Q) μ
 |.K e cs,_,X,ρ,Q,μ=>uE e np X ρ (aku cs Q) μ
 |.M o m l,_,X,ρ,Q,μ=>uE o np X ρ (cBm m (FQ l X ρ) Q) μ
 |.J k e,m,X,ρ,Q,μ=>@Bool.casesOn (λd=>Prop) k (uE e m X ρ (akv Q) μ)<|uE e hY X ρ Q μ
noncomputable def FQ:jM->(Mu->Prop)->UL->rj->Mu->Prop
 |.t,_,_,Q,μ=>Q [] μ
 |.o e l,X,ρ,Q,μ=>uE e np X ρ (cE1 (FQ l X ρ) Q) μ
noncomputable def Xz:jM->(Mu->Prop)->UL->UQ->Mu->Prop
 |.t,_,_,Q,μ=>Q (.q hY) μ
 |.o e l,X,ρ,Q,μ=>uE e np X ρ (aky (Xz l X ρ Q) Q) μ
noncomputable def uOr:jM->(Mu->Prop)->UL->UQ->Mu->Prop
 |.t,_,_,Q,μ=>Q (.q np) μ
 |.o e l,X,ρ,Q,μ=>uE e np X ρ (cOr (uOr l X ρ Q) Q) μ
noncomputable def uIt:It->(Mu->Prop)->UL->Hl->Mu->Prop
 |.F e,X,ρ,Q,μ=>uE e np X ρ (cIt Q) μ
 |.c e,X,ρ,Q,μ=>uE e np X ρ (C4 Q) μ
 |.d a b,X,ρ,Q,μ=>uE a np X ρ (cZ1 (uE b np X ρ) Q) μ
 |.f e,X,ρ,Q,μ=>uE e np X ρ (WK Q) μ
end
def cLp(b:ce->ce)(P Q:ce)(ρ:UL):UQ:=Jj (b P ρ)<|Q ρ
def Q2(c:UL->UQ->Mu->Prop)(b:ce->ce)(Q:ce)(ρ:UL)(μ:Mu):Prop:=∀P:ce,(∀ρ μ,c ρ (cLp b P Q ρ) μ->P ρ μ)->P ρ μ
def wJ(x s d k:Nm)(Q:ce):ce:=λρ μ=>dB (ρ d) λv=>EE v (.z k) (λw μ=>Q (ρ.H x<|.A .H [.z s,w]) μ) μ
def y8(x:Nm)(ρ:UL)(Q:ce):UQ:=λv μ=>Q (ρ.H x v) μ
def D7(o:U)(x:Nm)(v:U)(Q:Mu->Prop)(μ:Mu):Prop:=QX o μ λa h l=>@Uh.casesOn (λb=>Prop) h qp qp qp (λb=>qp) (λb=>qp) (λc xs=>xU ((cR c x).isNone&&(x !=.w&&c !=.bM)) (Q (μ.H a ⟨np,.f c ((kM (xs.zip l) x v).map (·.1)),(kM (xs.zip l) x v).map (·.2)⟩)) qp) λb b=>qp
def Ch(o i v:U)(Q:Mu->Prop)(μ:Mu):Prop:=QX o μ λa h l=>@Uh.casesOn (λb=>Prop) h (dB (kE i) λi=>(0<=i/\i<l.length)/\Q (μ.H a ⟨np,.F,l.set i.toNat v⟩)) qp qp
 (λks=>dB (kE i) λi=>l.length+1<aH/\Q (μ.H a ⟨np,.d (uJ ks l i v).1,(uJ ks l i v).2⟩)) (λks=>dB (SL i) λi=>l.length+1<aH/\Q (μ.H a ⟨np,.j (uJ ks l i v).1,(uJ ks l i v).2⟩)) (λb b=>qp) λb b=>qp
def akq(x:Nm)(v:U)(Q:Mu->Prop):UQ:=λo μ=>D7 o x v Q μ
def akr(x:Nm)(a:UQ->Mu->Prop)(Q:Mu->Prop):UQ:=λv μ=>a (akq x v Q) μ
def ako(v o:U)(Q:Mu->Prop):UQ:=λi μ=>Ch o i v Q μ
def afU(v:U)(wi:UQ->Mu->Prop)(Q:Mu->Prop):UQ:=λo μ=>wi (ako v o Q) μ
def akp(a wi:UQ->Mu->Prop)(Q:Mu->Prop):UQ:=λv μ=>a (afU v wi Q) μ
def akm(xs:qe Nm)(ρ:UL)(Q:ce):UQ:=λv μ=>P4 xs v ρ λρ=>Q ρ μ
def akz(x y:Nm)(v:U)(ρ:UL)(Q:ce):UQ:=λw μ=>Q ((ρ.H x v).H y w) μ
def akA(x y:Nm)(wb:UQ->Mu->Prop)(ρ:UL)(Q:ce):UQ:=λv μ=>wb (akz x y v ρ Q) μ
def cEx(Q:Mu->Prop):UQ:=λa μ=>Q μ
def akw(xs:qe Nm)(b:ce->ce)(ρ:UL)(Q:ce):Hl:=λitems μ=>kX (λvs K ρ μ=>jL xs vs ρ λρ=>b K ρ μ) items Q ρ μ
mutual
noncomputable def uS:Sm->UQ->ce->ce->ce
 |.g x e,_,X,Q,ρ,μ=>uE ad C e np (X ρ) ρ (y8 x ρ Q) μ
 |.h o x e,_,X,Q,ρ,μ=>uE ad C e np (X ρ) ρ (akr x (uE ad C o np (X ρ) ρ)<|Q ρ) μ
 |.n o i e,_,X,Q,ρ,μ=>uE ad C e np (X ρ) ρ (akp (uE ad C o np (X ρ) ρ) (uE ad C i np (X ρ) ρ)<|Q ρ) μ
 |.q x y e,_,X,Q,ρ,μ=>uE ad C e np (X ρ) ρ (akm [x,y] ρ Q) μ
 |.r x y a b,_,X,Q,ρ,μ=>uE ad C a np (X ρ) ρ (akA x y (uE ad C b np (X ρ) ρ) ρ Q) μ
 |.l e,_,X,Q,ρ,μ=>uE ad C e np (X ρ) ρ (cEx<|Q ρ) μ
 |.v c a b,R,X,Q,ρ,μ=>uE ad C c np (X ρ) ρ (Jj (bZ a R X Q ρ)<|bZ b R X Q ρ) μ
 |.p c b,R,_,Q,ρ,μ=>Q2 (uE ad C c np λf=>qp) (bZ b R λf f=>qp) Q ρ μ
 |.j xs it b,R,X,Q,ρ,μ=>uIt ad C it (X ρ) ρ (akw xs (bZ b R X) ρ Q) μ
 |.f e,R,X,_,ρ,μ=>uE ad C e np (X ρ) ρ R μ
 |.m,_,X,_,ρ,μ=>X ρ μ
 |.C b x s d k,R,_,Q,ρ,μ=>bZ b R (wJ x s d k Q) Q ρ μ
noncomputable def bZ:iH->UQ->ce->ce->ce
 |.t,_,_,Q,ρ,μ=>Q ρ μ
 |.o s l,R,X,Q,ρ,μ=>uS s R X (bZ l R X Q) ρ μ
end
end
inductive cD(W:U->Mu->U->Mu->Prop)(Q:UQ)(v:U)(μ:Mu):Prop
 |j(q:Q v μ)
 |A{v' bS}(w:W v μ v' bS)(q:Q v' bS)
def BH(xs:qe Nm):qe U->UL->qk UL:=@List.rec Nm (λa=>qe U->UL->qk UL) (λvs ρ=>@List.casesOn U (λa=>qk UL) vs (dA ρ) λa a=>ft) (λx a ih vs ρ=>@List.casesOn U (λa=>qk UL) vs ft λv vs=>ih vs<|ρ.H x v) xs
def fnU(ad:qe U)(W:U->Mu->U->Mu->Prop)(C:be)(fn:Fn)(vs:qe U)(Q:UQ)(X:Mu->Prop)(μ:Mu):Prop:=dB (BH fn.b vs λa=>ft) λρ=>bZ ad C fn.a (cD W Q) (λa=>X) (λa=>cD W Q .u) ρ μ
@[irreducible] def vI(ad:qe U)(W:U->Mu->U->Mu->Prop)(n:qc):be:=@Nat.rec (λa=>be) (λa a a a a=>qp) (λa ih f vs Q X μ=>dB (jo f) λfn=>fnU ad W ih fn vs Q X μ) n
theorem aC{ad:qe U}(b:jo f=dA fn)(hb:BH fn.b vs (λa=>ft)=dA ρ)(h:bZ ad (vI ad W n) fn.a (cD W Q) (λa=>X) (λa=>cD W Q .u) ρ μ):vI ad W (n+1) f vs Q X μ:=by
 unfold vI;show dB (jo f) λfn=>fnU ad W _ fn vs Q X μ;rw[b];show dB (BH fn.b vs λa=>ft) _;rw[hb];unfold vI at h;exact h
noncomputable def LC(τ:cV)(k:Sx):qc:=@Sx.casesOn (λa=>qc) k τ.d τ.a τ.b
inductive Ar(τ:cV)(g:Mu):U->AV->Prop
 |u:Ar τ g .u .u
 |q{b}:Ar τ g (.q b) (.q b)
 |j{i}:Ar τ g (.j i) (.j i)
 |t{s}:Ar τ g (.t s) (.t s)
 |z{n}:Ar τ g (.z n) (.t n.t)
 |d{a}:Ar τ g (.d a) (.d a)
 |K{k}:Ar τ g (.K k) (.d<|LC τ k)
 |A{h l a}(e:g a=dA ⟨hY,h,l⟩):Ar τ g (.A h l) (.d a)
inductive dE(τ:cV)(g:Mu):qe U->qe AV->Prop
 |t:dE τ g [] []
 |o{v av l m}(a:Ar τ g v av)(b:dE τ g l m):dE τ g (v::l) (av::m)
def u6(g g':Mu):Prop:=∀a h l,g a=dA ⟨hY,h,l⟩->g' a=dA ⟨hY,h,l⟩
inductive uk(τ:cV)(g:Mu):Uh->qe U->dZ->Prop
 |F{l m}(r:dE τ g l m)(n:l.length<aH):uk τ g .F l (.F m)
 |i{l m}(r:dE τ g l m)(n:l.length<aH):uk τ g .i l (.i m)
 |H{l m}(r:dE τ g l m)(n:l.length<aH):uk τ g .H l (.H m)
 |d{ks l m}(r:dE τ g l m)(n:l.length<aH)(e:ks.length=l.length):uk τ g (.d ks) l (.d<|ks.zip m)
 |j{ks l m}(r:dE τ g l m)(n:l.length<aH)(e:ks.length=l.length):uk τ g (.j ks) l (.j<|(ks.map Nm.t).zip m)
 |f{c xs l m dx}(r:dE τ g l m)(e:xs.length=l.length):uk τ g (.f c xs) l (.f c dx<|xs.zip m)
 |y{c m v a}(r:Ar τ g v (.d a)):uk τ g (.y c m) [v] (.y c m a)
inductive Ag(τ:cV)(g:Mu)(v:U):qk AV->Prop
 |mk{av}(r:Ar τ g v av):Ag τ g v (dA av)
inductive ui(τ:cV)(g:Mu):qk U->qk AV->Prop
 |p:ui τ g ft ft
 |i{v av}(r:Ar τ g v av):ui τ g (dA v) (dA av)
inductive WV(τ:cV)(g:Mu)(l:qe U)(v:U):qe AV->Prop
 |mk{p av}(r:dE τ g l p)(a:Ar τ g v av):WV τ g l v (p++[av])
structure dh(τ:cV)(ad:qe U)(g μ:Mu)(st:St):Prop where
 E:∀a b h l,g a=dA ⟨b,h,l⟩->∃c,st a=dA c/\uk τ g h l c
 I:∀a c,μ a=dA c->g a=dA c
 K:∀k,∃dx s,st (LC τ k)=dA (.f .bM dx [(.cX,.t s)])/\Ar τ g (spT k) (.t s)
 M:∀k,g (LC τ k)=ft
 n:g τ.n=dA ⟨hY,.H,Hg⟩
 J:g τ.J=dA ⟨hY,.H,ad⟩
section
variable{τ:cV}{ad:qe U}{g g' μ:Mu}{st:St}{v:U}{av:AV}{l k:qe U}{m p:qe AV}{h:Uh}{c:dZ}
theorem u6.j(g:Mu):u6 g g:=λa a a h=>h
theorem u6.i{g g' c:Mu}(a:u6 g g')(b:u6 g' c):u6 g c:=λx h l e=>b x h l<|a x h l e
theorem Ar.G(le:u6 g g')(r:Ar τ g v av):Ar τ g' v av:=by
 induction r with
 |A e=>exact .A<|le _ _ _ e
 |_=>constructor
theorem dE.G(le:u6 g g')(r:dE τ g l m):dE τ g' l m:=by
 induction r with
 |t=>exact .t
 |o a _ ih=>exact .o (a.G le) ih
theorem uk.G(le:u6 g g')(r:uk τ g h l c):uk τ g' h l c:=by
 induction r with
 |F r n=>exact .F (r.G le) n
 |i r n=>exact .i (r.G le) n
 |H r n=>exact .H (r.G le) n
 |d r n e=>exact .d (r.G le) n e
 |j r n e=>exact .j (r.G le) n e
 |f r e=>exact .f (r.G le) e
 |y r=>exact .y<|r.G le
theorem dE.u(r:dE τ g l m):m.length=l.length:=by
 induction r with
 |t=>rfl
 |o _ _ ih=>exact qh xZ ih
theorem dE.D(r:dE τ g l m)(s:dE τ g k p):dE τ g (l++k) (m++p):=by
 induction r with
 |t=>exact s
 |o a _ ih=>exact .o a ih
theorem dE.E(r:Ar τ g v av):dE τ g [v] [av]:=.o r .t
theorem dE.R(r:dE τ g l m):dE τ g l.reverse m.reverse:=by
 induction r with
 |t=>exact .t
 |o a _ ih=>rw[z0,z0];exact ih.D<|.E a
theorem dE.N(r:dE τ g l m)(n:qc):dE τ g (l.take n) (m.take n):=by
 induction r generalizing n with
 |t=>rw[amf,amf];exact .t
 |o a _ ih=>cases n with|zero=>exact .t|succ n=>exact .o a<|ih n
theorem dE.I(r:dE τ g l m)(n:qc):dE τ g (l.drop n) (m.drop n):=by
 induction r generalizing n with
 |t=>rw[amg,amg];exact .t
 |o a b ih=>cases n with|zero=>exact .o a b|succ n=>exact ih n
theorem dE.H(r:dE τ g l m):∀{n:qc} {v:U},l[n]?=dA v->Ag τ g v m[n]?:=by
 induction r with
 |t=>exactλe=>nomatch e
 |o a _ ih=>
  intro n v e;induction n with
  |zero=>exact qA e▸.mk a
  |succ n=>exact ih e
theorem dE.B(r:dE τ g l m)(e:u1 l i=dA v):Ag τ g v (u1 m i):=by
 unfold u1 at e⊢;rw[r.u];by_cases h:i<0
 ·rw[qK h]at e⊢;by_cases h2:0<=i+l.length
  ·rw[qK h2]at e⊢;exact r.H e
  ·rw[if_neg h2]at e;exact nomatch e
 ·rw[if_neg h]at e⊢;exact r.H e
theorem dE.F(r:dE τ g l m)(s:Ar τ g v av)(n:qc):dE τ g (l.set n v) (m.set n av):=by
 induction r generalizing n with
 |t=>exact .t
 |o a b ih=>cases n with|zero=>exact .o s b|succ n=>exact .o a<|ih n
theorem WV.o(b:Ar τ g w aw)(r:WV τ g l v m):WV τ g (w::l) v (aw::m):=r.rec λr a=>.mk (.o b r) a
theorem dE.K(r:dE τ g L m)(P:qe AV->Prop)(e:L=v::l)(f:∀{av m},Ar τ g v av->dE τ g l m->P (av::m)):P m:=by
 induction r with
 |t=>exact nomatch e
 |o a b=>exact f ((afd e).1▸a)<|(afd e).2▸b
theorem dE.M(r:dE τ g L m)(P:qe AV->Prop)(e:L=[])(f:P []):P m:=by
 induction r with
 |t=>exact f
 |o=>exact nomatch e
theorem dE.O(l:qe U):∀{m},dE τ g (l++[v]) m->WV τ g l v m:=by
 induction l with
 |nil=>exactλr=>r.K (WV τ g [] v) dq λa b=>b.M (λm=>WV τ g [] v<|_::m) dq<|.mk .t a
 |cons w l ih=>exactλr=>r.K (WV τ g (w::l) v) dq λa b=>(ih b).o a
end
inductive oN{κ BN:Type}(τ:cV)(g:Mu)(f:κ->BN):qe (κ×U)->qe (BN×AV)->Prop
 |t:oN τ g f [] []
 |o{k v av l m}(a:Ar τ g v av)(b:oN τ g f l m):oN τ g f ((k,v)::l) ((f k,av)::m)
section
variable{τ:cV}{ad:qe U}{g g' μ:Mu}{st:St}{v:U}{av:AV}{l k:qe U}{m p:qe AV}{h:Uh}{c:dZ}
section
variable{κ BN:Type} [xt κ] [xt BN]{f:κ->BN}
theorem dE.d(r:dE τ g l m):∀ks:qe κ,oN τ g f (ks.zip l) ((ks.map f).zip m):=by
 induction r with
 |t=>exactλks=>by cases ks<;>exact .t
 |o a _ ih=>exactλks=>by cases ks with|nil=>exact .t|cons k ks=>exact .o a<|ih ks
theorem oN.i(r:oN τ g f L M):dE τ g (L.map (·.2)) (M.map (·.2))/\M=((L.map (·.1)).map f).zip (M.map (·.2)):=by
 induction r with
 |t=>exact⟨.t,dq⟩
 |o a _ ih=>exact⟨.o a ih.1,qh (_::·) ih.2⟩
theorem oN.D{L:qe (κ×U)}{M:qe (BN×AV)}{c:qe (κ×U)}{b:qe (BN×AV)}(r:oN τ g f L M)(s:oN τ g f c b):oN τ g f (L++c) (M++b):=by
 induction r with
 |t=>exact s
 |o a _ ih=>exact .o a ih
theorem oN.u(c:∀a b,f a=f b->a=b)(r:oN τ g f L M):(M.any λp=>decide (p.1=f x))=L.any λp=>decide (p.1=x):=by
 induction r with
 |t=>rfl
 |o a _ ih=>exact congr (qh or<|ZN.mpr ⟨c _ _,qh f⟩) ih
theorem oN.A(c:∀a b,f a=f b->a=b)(s:Ar τ g v av)(r:oN τ g f L M):oN τ g f (L.map λp=>if p.1=x then(p.1,v)else p) (M.map λp=>if p.1=f x then(p.1,av)else p):=by
 induction r with
 |t=>exact .t
 |@o k w aw l m a _ ih=>
  show oN τ g f ((if k=x then(k,v)else(k,w))::_) ((if f k=f x then(f k,av)else(f k,aw))::_)
  by_cases e:k=x
  ·rw[qK e,qK<|qh f e];exact .o s ih
  ·rw[if_neg e,if_neg λz=>e<|c _ _ z];exact .o a ih
theorem oN.q(c:∀a b,f a=f b->a=b)(s:Ar τ g v av)(r:oN τ g f L M):oN τ g f (jm L x v) (jm M (f x) av):=by
 unfold jm;rw[r.u c];cases L.any λp=>decide (p.1=x)with
 |true=>exact r.A c s
 |false=>exact r.D<|.o s .t
theorem oN.y(c:∀a b,f a=f b->a=b)(r:oN τ g f L M):ui τ g (eA L x) (eA M (f x)):=by
 induction r with
 |t=>exact .p
 |@o k v av l m a _ ih=>
  by_cases e:k=x
  ·rw[show eA ((k,v)::l) x=dA v from qh (q0 _)<|xA (p:=λp:κ×U=>decide<|p.1=x) (decide_eq_true e),show eA ((f k,av)::m) (f x)=dA av from qh (q0 _)<|xA (p:=λp:BN×AV=>decide<|p.1=f x) (decide_eq_true<|qh f e)];exact .i a
  ·rw[show eA ((k,v)::l) x=eA l x from qh (q0 _)<|xv (p:=λp:κ×U=>decide<|p.1=x) λz=>e<|qC z,show eA ((f k,av)::m) (f x)=eA m (f x)from qh (q0 _)<|xv (p:=λp:BN×AV=>decide<|p.1=f x) λz=>e<|c _ _ (qC z)];exact ih
theorem gF(L:qe (κ×U))(x:κ)(v:U):(jm L x v).length<=L.length+1:=by
 unfold jm;cases L.any λp=>decide (p.1=x)with
 |true=>exact xl<|qL (qI ..)
 |false=>exact qL qs
end
theorem oN.B(s:Ar τ g v av)(r:oN τ g id L M):oN τ g id (kM L x v) (Internal.kM M x av):=by
 induction r with
 |t=>exact .o s .t
 |@o k w aw l m a b ih=>
  show oN τ g id (if k=x then(x,v)::l else(k,w)::Internal.kM l x v) (if id k=x then(x,av)::m else(id k,aw)::Internal.kM m x av)
  by_cases e:k=x
  ·rw[qK e,qK (show id k=x from e)];exact .o (k:=x) s b
  ·rw[if_neg e,if_neg (show¬id k=x from e)];exact .o a ih
theorem dE.J(r:dE τ g l m):∀xs:qe Nm,ui τ g (vY xs l x) (fm (xs.zip m) x):=by
 induction r with
 |t=>
  intro xs
  have e:vY xs [] x=ft:=by
   induction xs with
   |nil=>rfl
   |cons y xs ih=>show xU (y==x) ft (vY xs [] x)=ft;rw[ih];cases y==x<;>rfl
  rw[e,List.zip_nil_right];exact .p
 |@o v av l m a _ ih=>
  intro xs;cases xs with
  |nil=>exact .p
  |cons y xs=>
   show ui τ g (xU (y==x) (dA v)<|vY xs l x) _;cases e:y==x with
   |true=>rw[show fm ((y::xs).zip (av::m)) x=dA av from qh (q0 _)<|xA (p:=λq:Nm×AV=>q.1==x) e];exact .i a
   |false=>rw[show fm ((y::xs).zip (av::m)) x=fm (xs.zip m) x from qh (q0 _)<|xv (p:=λq:Nm×AV=>q.1==x) (show¬(y==x)=hY from e▸qB)];exact ih xs
end
inductive RdV(τ:cV)(g:Mu)(st:St)(K:Uh->qe U->Prop):AV->Prop
 |mk{a c h l}(e:st a=dA c)(r:uk τ g h l c)(k:K h l):RdV τ g st K (.d a)
inductive RdL(τ:cV)(g:Mu)(st:St)(K:qe U->Prop):AV->Prop
 |mk{a l m}(e:st a=dA (.F m))(r:dE τ g l m)(n:l.length<aH)(k:K l):RdL τ g st K (.d a)
inductive WrV(τ:cV)(g μ:Mu)(st:St)(K:qc->Uh->qe U->Prop):AV->Prop
 |mk{a c h l}(em:μ a=dA ⟨np,h,l⟩)(e:st a=dA c)(r:uk τ g h l c)(k:K a h l):WrV τ g μ st K (.d a)
inductive ach(K:qd->Prop):AV->Prop
 |mk{i}(k:K i):ach K (.j i)
inductive NmA(K:Nm->Prop):AV->Prop
 |mk{n}(k:K n):NmA K (.t n.t)
inductive W4(K:qw->Prop):AV->Prop
 |mk{b}(k:K b):W4 K (.q b)
inductive ahn(τ:cV)(g:Mu)(K:U->Prop):qe AV->Prop
 |mk{v av}(r:Ar τ g v av)(k:K v):ahn τ g K [av]
structure ur(g:Mu)(st:St)(g':Mu)(ba:St):Prop where
 I:u6 g g'
 f:∀a h l,g a=dA ⟨hY,h,l⟩->ba a=st a
section
variable{τ:cV}{ad:qe U}{g g' μ:Mu}{st:St}{v:U}{av:AV}{l k:qe U}{m:qe AV}{h:Uh}{c:dZ}{Q:UQ}{Qw:AQ}{X:Mu->Prop}{Xw:St->Prop}{a:qc}{b:qw}
def Kt(τ:cV)(ad:qe U)(g:Mu)(st:St)(Q:UQ)(Qw:AQ):Prop:=∀g' μ ba v av,ur g st g' ba->dh τ ad g' μ ba->Ar τ g' v av->Q v μ->Qw av ba
def Kl(τ:cV)(ad:qe U)(g:Mu)(st:St)(Q:rj)(Qw:LQ):Prop:=∀g' μ ba v av,ur g st g' ba->dh τ ad g' μ ba->dE τ g' v av->Q v μ->Qw av ba
def Kx(τ:cV)(ad:qe U)(g:Mu)(st:St)(X:Mu->Prop)(Xw:St->Prop):Prop:=∀g' μ ba,ur g st g' ba->dh τ ad g' μ ba->X μ->Xw ba
theorem ur.j(g:Mu)(st:St):ur g st g st:=⟨.j _,λa a a a=>dq⟩
theorem ur.i{g g' c:Mu}{st ba d:St}(a:ur g st g' ba)(b:ur g' ba c d):ur g st c d:=⟨a.I.i b.I,λx h l e=>(b.f x h l<|a.I x h l e).trans (a.f x h l e)⟩
theorem Kt.G(le:ur g st g' ba)(k:Kt τ ad g st Q Qw):Kt τ ad g' ba Q Qw:=λa a a a a l=>k _ _ _ _ _<|le.i l
theorem Kx.G(le:ur g st g' ba)(k:Kx τ ad g st X Xw):Kx τ ad g' ba X Xw:=λa a a l=>k _ _ _<|le.i l
theorem Kt.p(k:Kt τ ad g st Q Qw)(R:dh τ ad g μ st)(r:Ar τ g v av)(q:Q v μ):Qw av st:=k _ _ _ _ _ (.j _ _) R r q
theorem Kt.e(k:Kt τ ad g st Q Qw)(R:dh τ ad g μ st)(q:Q (.j i) μ):Qw (.j i) st:=k.p R .j q
theorem Kt.d(k:Kt τ ad g st Q Qw)(R:dh τ ad g μ st)(q:Q (.q b) μ):Qw (.q b) st:=k.p R .q q
theorem aE(μ:Mu)(a:qc)(c:Mc):(μ.H a c) a=dA c:=qK dq
theorem ap(μ:Mu){a b:qc}(c:Mc)(h:b≠a):(μ.H a c) b=μ b:=if_neg h
theorem sN(st:St)(a:qc)(c:dZ):(st.H a c) a=dA c:=qK dq
theorem kJ(st:St){a b:qc}(c:dZ)(h:b≠a):(st.H a c) b=st b:=if_neg h
theorem rk{α:Type}{x:α}{P:Prop}(h:dA x=ft):P:=qH h<|ZF x
theorem pU{f g:Mu}{c:Mc}(l:∀a c,f a=dA c->g a=dA c):∀b c',(f.H a c) b=dA c'->(g.H a c) b=dA c':=λb c' e=>by
 by_cases q:b=a
 ·rw[q,aE]at e⊢;exact e
 ·rw[ap _ _ q]at e⊢;exact l _ _ e
theorem A6{P:qk Mc->Prop}{b:qc}(μ:Mu)(C:Mc)(h1:b=a->P (dA C))(h2:b≠a->P (μ b)):P ((μ.H a C) b):=by
 by_cases q:b=a
 ·rw[q,aE];exact h1 q
 ·rw[ap _ _ q];exact h2 q
theorem dh.N(R:dh τ ad g μ st){G:Mc}{C:dZ}{bS:Mu}(le:u6 g (g.H a G))(d:∀k,LC τ k≠a)(r:uk τ (g.H a G) G.h G.l C)(i:∀b c,bS b=dA c->(g.H a G) b=dA c)(ba:St)(h1:ba a=dA C)(h2:∀b,b≠a->ba b=st b):dh τ ad (g.H a G) bS ba:=
 ⟨λx fr h l=>A6 (P:=λo=>o=dA ⟨fr,h,l⟩->∃c,ba x=dA c/\uk τ (g.H a G) h l c) g G (λq e=>⟨C,q▸h1,(show G=⟨fr,h,l⟩from qA e)▸r⟩) λq e=>h2 x q▸(R.E _ _ _ _ e).imp λc z=>⟨z.1,z.2.G le⟩,
  i,λk=>h2 _ (d k)▸(R.K k).imp λf z=>z.imp λf z=>⟨z.1,z.2.G le⟩,λk=>(ap _ _ (d k)).trans (R.M k),le _ _ _ R.n,le _ _ _ R.J⟩
theorem NN(h:∀c,o≠dA c):o=ft:=by cases o with|none=>rfl|some c=>exact qH dq<|h c
theorem dh.j(R:dh τ ad g μ st)(h:st a=ft):g a=ft:=NN λb e=>(R.E _ _ _ _ e).elim λb z=>rk<|z.1.symm.trans h
theorem dh.S(R:dh τ ad g μ st)(h:st a=ft)(k:Sx):LC τ k≠a:=λe=>(R.K k).elim λb z=>z.elim λb z=>rk<|z.1.symm.trans (e▸h)
theorem u6.H(h:g a=ft)(c:Mc):u6 g (g.H a c):=λb d d e=>(ap _ _ λq:b=a=>rk<|(q▸e).symm.trans h).trans e
theorem Pb{h':Uh}{a:qe U}{P:Prop}(e:dA (Mc.mk hY h l)=dA ⟨np,h',a⟩):P:=nomatch e
theorem u6.C{h':Uh}{f:qe U}(h:g a=dA ⟨np,h',f⟩)(c:Mc):u6 g (g.H a c):=λb d d e=>(ap _ _ λq:b=a=>Pb<|(q▸e).symm.trans h).trans e
theorem u6.L(h':g a=dA ⟨b,h,l⟩):u6 g (g.H a ⟨hY,h,l⟩):=λx h1 l1 e=>A6 (P:=λo=>o=dA ⟨hY,h1,l1⟩) g _ (λq=>by rw[q,h']at e;cases e;rfl) λc=>e
theorem dh.O(R:dh τ ad g μ st){c:Mc}(h:g a=dA c)(k:Sx):LC τ k≠a:=λe=>rk<|h.symm.trans (e▸R.M k)
theorem ur.t(e:g a=ft)(c:Mc)(d:dZ):ur g st (g.H a c) (st.H a d):=⟨.H e _,λx b b z=>kJ _ _ λq:x=a=>rk<|(q▸z).symm.trans e⟩
theorem dh.t(R:dh τ ad g μ st)(ha:st a=ft)(r:uk τ g h l c)(fr:qw)(d:∀b c,bS b=dA c->(g.H a ⟨fr,h,l⟩) b=dA c):dh τ ad (g.H a ⟨fr,h,l⟩) bS (st.H a c):=
 R.N (G:=⟨fr,h,l⟩) (.H (R.j ha) _) (R.S ha) (r.G<|.H (R.j ha) _) d _ (sN _ _ _) λb q=>kJ _ _ q
theorem dh.T(R:dh τ ad g μ st)(ha:st a=ft):μ a=ft:=NN λc z=>rk<|(R.I _ _ z).symm.trans (R.j ha)
theorem al_1(q:d9 b h l Q μ)(R:dh τ ad g μ st)(r:uk τ g h l c)(k:Kt τ ad g st Q Qw)(a:qc)(ha:st a=ft):Qw (.d a) (st.H a c):=by
 have e:=R.j ha;cases b with
 |false=>exact k _ μ _ (.A h l) _ (.t e _ _) (R.t ha r hY λb c z=>(ap _ _ λq:b=a=>rk<|(q▸z).symm.trans (R.T ha)).trans (R.I _ _ z)) (.A<|aE _ _ _) q
 |true=>exact k _ _ _ (.d a) _ (.t e _ _) (R.t ha r np<|pU R.I) .d<|q a (R.T ha)
theorem sw(q:d9 b h l Q μ)(R:dh τ ad g μ st)(r:uk τ g h l c)(k:Kt τ ad g st Q Qw):dW c Qw st:=by
 unfold dW;exact al_1 q R r k
theorem VN(R:dh τ ad g μ st)(e:μ a=dA ⟨np,h,l⟩)(r:uk τ g h' d c):dh τ ad (g.H a ⟨np,h',d⟩) (μ.H a ⟨np,h',d⟩) (st.H a c):=
 R.N (G:=⟨np,h',d⟩) (.C (R.I _ _ e) _) (R.O<|R.I _ _ e) (r.G<|.C (R.I _ _ e) _) (pU R.I) _ (sN _ _ _) λb q=>kJ _ _ q
theorem Ga(R:dh τ ad g μ st)(e:μ a=dA ⟨np,h,l⟩)(c:Mc)(d:dZ):ur g st (g.H a c) (st.H a d):=⟨.C (R.I _ _ e) _,λx b b z=>kJ _ _ λq:x=a=>Pb<|(q▸z).symm.trans (R.I _ _ e)⟩
theorem vO{K:Uh->qe U->Prop}(q:F5 v μ K)(R:dh τ ad g μ st)(r:Ar τ g v av):RdV τ g st K av:=by
 induction r with
 |d=>exact q.rec λe q=>(R.E _ _ _ _<|R.I _ _ e).elim λa z=>⟨z.1,z.2,q⟩
 |@K k=>exact(R.K k).elim λa z=>z.elim λa z=>⟨z.1,.f (xs:=[.cX]) (.E z.2) dq,q⟩
 |A e=>exact(R.E _ _ _ _ e).elim λa z=>⟨z.1,z.2,q⟩
 |_=>exact q.elim
theorem D4{K:qe U->Prop}(q:rdL v μ K)(R:dh τ ad g μ st)(r:Ar τ g v av):RdL τ g st K av:=
 (vO q R r).rec λ{a a h a} e r k=>by
  induction r with
  |F r n=>exact⟨e,r,n,k⟩
  |_=>exact k.elim
theorem Xa{K:qc->Uh->qe U->Prop}(q:QX v μ K)(R:dh τ ad g μ st)(r:Ar τ g v av):WrV τ g μ st K av:=by
 induction r with
 |d=>exact q.rec λe q=>(R.E _ _ _ _<|R.I _ _ e).elim λa z=>⟨e,z.1,z.2,q⟩
 |_=>exact q.elim
theorem mW{K:qd->Prop}(q:dB (kE v) K)(r:Ar τ g v av):ach K av:=by
 induction r with
 |j=>exact⟨q⟩
 |_=>exact q.elim
theorem ad6{K:Nm->Prop}(q:dB (SL v) K)(r:Ar τ g v av):NmA K av:=by
 induction r with
 |z=>exact⟨q⟩
 |_=>exact q.elim
theorem BV{K:qw->Prop}(q:uy v K)(r:Ar τ g v av):W4 K av:=by
 induction r with
 |q=>exact⟨q⟩
 |_=>exact q.elim
theorem AY{K:U->Prop}(q:cM vs K)(r:dE τ g vs g8):ahn τ g K g8:=by
 induction r with
 |t=>exact q.elim
 |o a b=>
  induction b with
  |t=>exact⟨a,q⟩
  |o=>exact q.elim
theorem U1(q:WN op i j Q μ)(R:dh τ ad g μ st)(k:Kt τ ad g st Q Qw):u0 op (.j i) (.j j) Qw st:=by
 induction op with
 |g=>exact .g<|k.e R q
 |s=>exact .s<|k.e R q
 |e=>exact .e q.1<|k.e R q.2
 |c=>exact .c q.1.1 q.1.2<|k.e R q.2
 |d=>exact .d q.1<|k.e R q.2
 |f=>rw[q.1.1,q.1.2];exact .f<|k.e R q.2
theorem afS(q:abF op b v w Q μ)(R:dh τ ad g μ st)(r:Ar τ g v av)(s:Ar τ g w aw)(k:Kt τ ad g st Q Qw):u0 op av aw Qw st:=by
 induction op with
 |g=>exact(D4 q R r).rec λe r c q=>(D4 q R s).rec λd a c q=>.i e d (r.u▸a.u▸q.1)<|sw q.2 R (.F (r.D a)<|qs▸q.1) k
 |_=>exact q.elim
theorem af4(q:UT op b v w Q μ)(R:dh τ ad g μ st)(r:Ar τ g v av)(s:Ar τ g w aw)(k:Kt τ ad g st Q Qw):u0 op av aw Qw st:=by
 have cat:abF op b v w Q μ->u0 op av aw Qw st:=λq=>afS q R r s k;induction r with
 |j=>exact(mW q s).rec λq=>U1 q R k
 |_=>exact cat q
inductive W3(n d:qc)(K:qc->Prop)(av:AV):Prop
 |mk{x}(c:Lw n d av x)(k:K x):W3 n d K av
theorem PI{K:qc->Prop}(q:y1 n d v K)(r:Ar τ g v av):W3 n d K av:=by
 induction r with
 |u=>exact⟨.u,q⟩
 |j=>exact⟨.j dq,q⟩
 |_=>exact q.elim
theorem Ro(l:qe U)(x y:qc)(n:l.length<aH):((l.take y).drop x).length<aH:=qi (by rw[abY,List.length_take];exact qg (ahy _ _)<|Nat.min_le_right _ _) n
theorem slice_1{lo hi:U}{c d:AV}(r:dE τ g l m)(n:l.length<aH)(q:y1 l.length 0 lo λx=>y1 l.length l.length hi λy=>d9 b .F ((l.take y).drop x) Q μ)(e:st a=dA (.F m)\/st a=dA (.i m))(R:dh τ ad g μ st)(r1:Ar τ g lo c)(r2:Ar τ g hi d)(k:Kt τ ad g st Q Qw):w6 (.d a) c d Qw st:=
 (PI q r1).rec λh q=>(PI q r2).rec λf q=>.mk e (r.u.symm▸n) (r.u.symm▸h) (r.u.symm▸f)<|sw q R (.F ((r.N _).I _)<|Ro _ _ _ n) k
theorem RF{lo hi:U}{a c:AV}(q:iA b v lo hi Q μ)(R:dh τ ad g μ st)(r:Ar τ g v av)(r1:Ar τ g lo a)(r2:Ar τ g hi c)(k:Kt τ ad g st Q Qw):w6 av a c Qw st:=by
 unfold iA at q
 exact(vO q R r).rec λe r q=>by
  induction r with
  |F r n=>exact slice_1 r n q (.inl e) R r1 r2 k
  |i r n=>exact slice_1 r n q (.inr e) R r1 r2 k
  |_=>exact q.elim
theorem adK(q:adL b v Q μ)(R:dh τ ad g μ st)(r:Ar τ g v av)(k:Kt τ ad g st Q Qw):R9 av Qw st:=
 (D4 q R r).rec λe rl n q=>.mk e (rl.u.symm▸n)<|sw q R (.F rl.R<|(acM (as:=_)).symm▸n) k
theorem FU:∀a b:Nm,a.t=b.t->a=b:=λc c h=>Nm.hV.mp h
theorem Iz:∀a b:qd,id a=id b->a=b:=λc c h=>h
theorem map_id{ks:qe qd}:ks.map id=ks:=acA _
theorem lkI(r:dE τ g l m)(ks:qe qd)(x:qd):ui τ g (Er ks l x) (eA (ks.zip m) x):=by
 have:=(r.d (f:=id) ks).y (x:=x) Iz;rwa [map_id]at this
theorem lkS(r:dE τ g l m)(ks:qe Nm)(x:Nm):ui τ g (Er ks l x) (eA ((ks.map Nm.t).zip m) x.t):=(r.d ks).y FU
theorem ui.d{o:qk U}{a:qk AV}(h:ui τ g o a)(e:o=dA v):Ag τ g v a:=by
 induction h with
 |p=>exact nomatch e
 |i r=>exact qA e▸⟨r⟩
theorem aas{K:qd->qk U}(h:(kE v).bind K=dA w)(r:Ar τ g v av):ach (λi=>K i=dA w) av:=by
 induction r with
 |j=>exact⟨h⟩
 |_=>exact nomatch h
theorem nmB{K:Nm->qk U}(h:(SL v).bind K=dA w)(r:Ar τ g v av):NmA (λi=>K i=dA w) av:=by
 induction r with
 |z=>exact⟨h⟩
 |_=>exact nomatch h
theorem aeS(q:EE v w Q μ)(R:dh τ ad g μ st)(r:Ar τ g v av)(s:Ar τ g w aw)(k:Kt τ ad g st Q Qw):TH av aw Qw st:=
 (vO q R r).rec λ{a c h l} e r q=>by
  have has:∀{u:U} {o:qk AV},Ag τ g u o->Q u μ->∃b,o=dA b/\Qw b st:=λh q=>h.rec λr=>⟨_,dq,k.p R r q⟩;cases d:aaz h l w with
  |none=>rw[d]at q;exact q.elim
  |some u=>
  rw[d]at q;have q:Q u μ:=q;induction r with
  |F r n=>exact(aas d s).rec λh=>(has (r.B h) q).elim λb z=>⟨b,.F e (r.u.symm▸n) z.1,z.2⟩
  |H r n=>exact(aas d s).rec λh=>(has (r.B h) q).elim λb z=>⟨b,.H e (r.u.symm▸n) z.1,z.2⟩
  |d r n _=>exact(aas d s).rec λh=>(has ((lkI r _ _).d h) q).elim λb z=>⟨b,.d e z.1,z.2⟩
  |j r n _=>exact(nmB d s).rec λh=>(has ((lkS r _ _).d h) q).elim λb z=>⟨b,.j e z.1,z.2⟩
  |_=>exact nomatch d
theorem UY(q:P9 cl v x Q μ)(e:st a=dA (.f cl dx j))(z:fm j x=ft)(R:dh τ ad g μ st)(r:Ar τ g v (.d a))(k:Kt τ ad g st Q Qw):vJ (.d a) x Qw st:=by
 have q:xU (x==.w) (dB (eK cl) λk=>Q (.j k) μ) (dB (cR cl x) λf=>@lS.casesOn (λl=>Prop) f (λl=>qp) λk m=>Q (.A (.y k m) [v]) μ):=q;cases c:x==.w with
 |true=>
  rw[c]at q;rw[eq_of_beq c]at z⊢;cases d:eK cl with
  |none=>rw[d]at q;exact q.elim
  |some i=>rw[d]at q;exact .b e z d<|k.e R q
 |false=>
  rw[c]at q;cases h:cR cl x with
  |none=>rw[h]at q;exact q.elim
  |some f=>
   rw[h]at q;cases f with
   |r=>exact q.elim
   |y=>exact .y e z h<|sw (b:=np) q R (.y r) k
theorem abU(q:Ju v x Q μ)(R:dh τ ad g μ st)(r:Ar τ g v av)(k:Kt τ ad g st Q Qw):vJ av x Qw st:=
 (vO q R r).rec (motive:=λav f=>Ar τ g v av->vJ av x Qw st) (λ{a c h l} e i q r=>by
  induction i with
  |@f c xs l m dx rl n=>
   have q:@Option.casesOn U (λf=>Prop) (vY xs l x) (P9 c v x Q μ) λw=>Q w μ:=q;have b:=rl.J (x:=x) xs;revert q b;generalize vY xs l x=o;intro q b;generalize d:fm (xs.zip m) x=j at b;induction b with
   |p=>exact UY q e d R r k
   |i r=>exact .J e d<|k.p R r q
  |_=>exact q.elim) r
theorem Y7{K:lS->Prop}(q:rI v x μ K)(R:dh τ ad g μ st)(r:Ar τ g v av)(k:∀f a,Ar τ g v (.d a)->K f->i f a):Ie av x st i:=
 (vO q R r).rec (motive:=λav s=>Ar τ g v av->Ie av x st i) (λ{a c h l} e j q r=>by
  induction j with
  |@f c xs l m dx rl n=>
   have q:xU (vY xs l x).isNone (dB (cR c x) K) qp:=q;have b:=rl.J (x:=x) xs;revert q b;generalize vY xs l x=o;intro q b;generalize p:fm (xs.zip m) x=t at b;induction b with
   |p=>
    cases d:cR c x with
    |none=>rw[d]at q;exact q.elim
    |some f=>rw[d]at q;exact .mk e p d<|k _ _ r q
   |i r=>exact q.elim
  |_=>exact q.elim) r
end
section
variable{τ:cV}{ad:qe U}{g μ:Mu}{st:St}{v w:U}{av aw:AV}{l k:qe U}{m p:qe AV}{h:Uh}{c:dZ}{a:qc}{b:qw}
theorem tX{E:U->U->qw->Prop}(ih:∀v b,E v v b->b=hY)(h:Hp E l l b):b=hY:=by
 obtain⟨g,h1,h2⟩:=h;rw[←h2,qV];intro j a;rw[Zr]at a;have a:=ZY.mp a;exact ih _ _<|h1 j l[j] l[j] (xe a) (xe a)
theorem Pn{E:U->U->qw->Prop}(ih:∀v b,E v v b->b=hY)(e:v=w)(h:oG E μ v w b):b=hY:=by
 induction h with
 |g=>cases e;exact qZ _
 |c=>cases e;exact qZ _
 |o=>cases e;exact decide_eq_true dq
 |F hl h=>cases e;exact tX ih h
 |f hl=>cases e;exact qH dq hl
 |H h=>cases e;rw[tX ih h];exact qZ _
 |y=>rfl
 |u ne=>cases e;exact qH dq ne
 |_=>cases e
theorem Po(n:qc):∀v b,BM μ n v v b->b=hY:=by
 induction n with
 |zero=>exactλa a h=>h.elim
 |succ n ih=>exactλv b h=>Pn ih dq h
def CI(τ:cV)(g:Mu)(h:Uh)(l:qe U)(c:dZ):Prop:=@Uh.casesOn (λa=>Prop) h (∃m,dA c=dA (.F m)/\dE τ g l m) xT (∃m,dA c=dA (.H m)/\dE τ g l m) (λa=>xT) (λa=>xT) (λk a=>∃d l,dA c=dA (.f k d l)) λa a=>xT
theorem uk.o(r:uk τ g h l c):CI τ g h l c:=by
 induction r with
 |F r=>exact⟨_,dq,r⟩
 |H r=>exact⟨_,dq,r⟩
 |f=>exact⟨_,_,dq⟩
 |_=>exact oy
def VI(τ:cV)(g:Mu)(v:U)(P:AV->Prop):Prop:=@U.casesOn (λc=>Prop) v (P .u) (λb=>P<|.q b) (λi=>P<|.j i) (λs=>P<|.t s) (λn=>P<|.t n.t) (λa=>P<|.d a) (λk=>P<|.d (LC τ k)) λh l=>∀a,g a=dA ⟨hY,h,l⟩->P (.d a)
theorem Ar.B(r:Ar τ g v av)(f:VI τ g v P):P av:=by
 induction r with
 |A e=>exact f _ e
 |_=>exact f
@[elab_as_elim]theorem Ar.o{P:AV->AV->Prop}(r:Ar τ g v av)(s:Ar τ g w aw)(f:VI τ g v λx=>VI τ g w λy=>P x y):P av aw:=s.B (P:=λy=>P av y) (r.B (P:=λx=>VI τ g w λy=>P x y) f)
theorem dE.V(r:dE τ g l m):∀{j:qc} {x:AV},m[j]?=dA x->∃v,l[j]?=dA v/\Ar τ g v x:=by
 induction r with
 |t=>exactλe=>nomatch e
 |o a _ ih=>
  intro j x e;induction j with
  |zero=>exact⟨_,dq,qA e▸a⟩
  |succ j=>exact ih e
theorem ET{E:U->U->qw->Prop}(ih:∀v w av aw b,E v w b->Ar τ g v av->Ar τ g w aw->F av aw b)(r:dE τ g l m)(s:dE τ g k p)(h:Hp E l k b):Hp F m p b:=
 h.imp λf z=>⟨λj x y e d=>(r.V e).elim λv c=>(s.V d).elim λw a=>ih _ _ _ _ _ (z.1 j v w c.1 a.1) c.2 a.2,r.u.symm▸s.u.symm▸z.2⟩
theorem dh.u(R:dh τ ad g μ st){b:qw}(e:g a=dA ⟨b,h,l⟩){P:qk dZ->Prop}(f:∀c,uk τ g h l c->P (dA c)):P (st a):=(R.E _ _ _ _ e).elim λc z=>z.1▸f c z.2
theorem dh.F(R:dh τ ad g μ st){b:qw}(e:g a=dA ⟨b,.F,l⟩):∃m,st a=dA (.F m)/\dE τ g l m:=R.u e (P:=λo=>∃m,o=dA (.F m)/\dE τ g l m) λc z=>z.o
theorem dh.H(R:dh τ ad g μ st){b:qw}(e:g a=dA ⟨b,.H,l⟩):∃m,st a=dA (.H m)/\dE τ g l m:=R.u e (P:=λo=>∃m,o=dA (.H m)/\dE τ g l m) λc z=>z.o
theorem dh.y(R:dh τ ad g μ st){b:qw}{xs:qe Nm}(e:μ a=dA ⟨b,.f .N xs,l⟩):∃d l,st a=dA (.f .N d l):=R.u (R.I _ _ e) (P:=λo=>∃d l,o=dA (.f .N d l)) λc z=>z.o
theorem o6{c d:Mc}(h:dA c=dA d):c.l=d.l:=by cases h;rfl
theorem HG(n m:Nm):(n.t==m.t)=decide (n=m):=by
 by_cases e:n=m
 ·rw[e,decide_eq_true dq];exact qZ _
 ·rw[xN e];exact zN λz=>e<|Nm.hV.mp z
theorem Gv:Hp F [] [] hY:=⟨λa=>hY,⟨λa a a h=>(by cases h),dq⟩⟩
theorem ad9{F:AV->AV->qw->Prop}{a c:qc}(ne:a≠c)(d:st a=dA (.F m))(b:st c=dA (.F p))(r:dE τ g l m)(s:dE τ g [] p):u9 F st (.d a) (.d c) l.isEmpty:=by
 cases s;induction r with
 |t=>exact .F ne d b dq Gv
 |o=>exact .f ne d b λz=>nomatch z
theorem aea{a c:qc}(d:st a=dA (.F m))(b:st c=dA (.F p))(r:dE τ g l m)(s:dE τ g [] p):Qq st (.d a) (.d c) !l.isEmpty:=by
 cases s;induction r with
 |t=>exact .F d b dq Gv
 |o=>exact .f d b λz=>nomatch z
theorem inst_tup{k:Nm}{d:qc}{b:qe (Nm×AV)}{a c:qc}(h:st a=dA (.f k d b))(h':st c=dA (.H p)):a≠c:=λe=>by rw[e]at h;cases h.symm.trans h'
theorem afE{E:U->U->qw->Prop}{F:AV->AV->qw->Prop}(n:∀v b,E v v b->b=hY)(ih:∀v w av aw b,E v w b->Ar τ g v av->Ar τ g w aw->F av aw b)(R:dh τ ad g μ st)(h:oG E μ v w b)(r:Ar τ g v av)(s:Ar τ g w aw):u9 F st av aw b:=by
 induction h with
 |g=>exact r.o s<|.g
 |c=>exact r.o s<|.c
 |t=>exact r.o s<|.t
 |v=>exact r.o s<|.v
 |o=>exact r.o s<|(HG _ _▸.j)
 |z=>exact r.o s<|.j
 |F hl h=>
  refine r.o s λa k c d=>?_;by_cases e:a=c
  ·cases o6 (k.symm.trans<|e▸d);rw[e,tX n h];exact .N
  ·exact(R.F k).elim λm i=>(R.F d).elim λp f=>.F e i.1 f.1 (by rw[i.2.u,f.2.u,hl])<|ET ih i.2 f.2 h
 |f hl=>exact r.o s λa k c d=>(R.F k).elim λm i=>(R.F d).elim λp f=>.f (λe=>hl<|qh _ (o6<|k.symm.trans (e▸d))) i.1 f.1 (by rw[i.2.u,f.2.u];exact hl)
 |@j a b l o=>
  refine r.o s λc d=>?_;have k:=R.I _ _ o;by_cases e:a=c
  ·rw[show l=[]from o6<|k.symm.trans (e▸d),e];exact .N
  ·exact(R.F k).elim λm i=>(R.F d).elim λp f=>ad9 e i.1 f.1 i.2 f.2
 |H h=>
  refine r.o s λa k c d=>?_;by_cases e:a=c
  ·cases o6 (k.symm.trans<|e▸d);rw[e,tX n h,qZ];exact .N
  ·exact(R.H k).elim λm i=>(R.H d).elim λp f=>i.2.u▸f.2.u▸.H e i.1 f.1 (ET ih i.2 f.2 h)
 |y=>exact r.o s<|.N
 |u ne e q=>exact r.o s<|((R.y e).elim λj z=>z.elim λj h1=>(R.y q).elim λj z=>z.elim λj h2=>.y ne h1 h2)
 |p e=>exact r.o s λc d=>(R.y e).elim λj z=>z.elim λj h1=>(R.H d).elim λp f=>.p (inst_tup h1 f.1) h1 f.1
 |k e=>exact r.o s λc d=>((R.y e).elim λj z=>z.elim λj h1=>(R.H d).elim λp f=>.k (inst_tup h1 f.1).symm f.1 h1)
 |w=>exact r.o s λc d=>(R.H d).elim λj z=>.w z.1
 |q=>exact r.o s λc d=>((R.H d).elim λj z=>.q z.1)
 |x=>exact r.o s λc d=>(R.H d).elim λj z=>.e z.1
 |d=>exact r.o s λc d=>((R.H d).elim λj z=>.n z.1)
theorem ER(R:dh τ ad g μ st)(n:qc):∀v w av aw b,BM μ n v w b->Ar τ g v av->Ar τ g w aw->Qy st n av aw b:=by
 induction n with
 |zero=>exactλa a a a a h=>h.elim
 |succ n ih=>exactλv w av aw b h r s=>afE (Po n) ih R h r s
theorem oj(r:Ar τ g (.A h l) (.d a)):g a=dA ⟨hY,h,l⟩:=r.B (P:=λav=>av=.d a->g a=dA ⟨hY,h,l⟩) (λc e z=>AV.d.inj z▸e) dq
theorem uH{b:qc}(r:Ar τ g (.d b) (.d a)):b=a:=r.B (P:=λav=>av=.d a->b=a) (λz=>AV.d.inj z) dq
theorem Mf{c:qc}{b':qw}{xs:qe Nm}{P:Prop}(e:g c=dA ⟨b,.f .N xs,l⟩)(z:c=a)(h:g a=dA ⟨b',.H,k⟩):P:=by rw[z,h]at e;cases e
theorem abe(R:dh τ ad g μ st)(h:oG (BM μ 199) μ v w b)(r:Ar τ g v (.d a))(s:Ar τ g w (.d a)):Qx st (.d a) (.d a) b:=by
 induction h with
 |F hl h=>
  cases o6 ((oj r).symm.trans (oj s));exact(R.F<|oj r).elim λm z=>.F z.1<|ET (ER R 199) z.2 z.2 h
 |f hl=>exact qH (qh _<|o6 ((oj r).symm.trans (oj s))) hl
 |@j f b l c=>
  have c:=R.I _ _ c;rw[uH r]at c;rw[show l=[]from o6<|c.symm.trans (oj s)];exact(R.F<|oj s).elim λm z=>z.2.M (λm=>st a=dA (.F m)->Qx st (.d a) (.d a) hY) dq (λe=>.F e Gv) z.1
 |H h=>
  cases o6 ((oj r).symm.trans (oj s));rw[qZ,xn];exact(R.H<|oj r).elim λm z=>.H z.1<|ET (ER R 199) z.2 z.2 h
 |y e=>exact(R.y<|uH r▸e).elim λd z=>z.elim λd z=>.y z
 |u ne=>exact qH ((uH r).trans (uH s).symm) ne
 |p e=>exact Mf (R.I _ _ e) (uH r)<|oj s
 |k e=>exact Mf (R.I _ _ e) (uH s)<|oj r
 |q|d=>exact nomatch s
 |_=>exact nomatch r
theorem Ub(R:dh τ ad g μ st)(h0:BM μ eU v w b)(r:Ar τ g v av)(s:Ar τ g w aw):Qx st av aw b:=
 zQ (p:=∀a,av=.d a->aw≠.d a) (λne=>.A ne (ER R _ _ _ _ _ _ h0 r s)) λz=>
  (Classical.not_forall.mp z).elim λa z=>(Classical.not_imp.mp z).elim λh1 h2=>by
   cases h1;cases Classical.not_not.mp h2;exact abe R h0 r s
theorem aiJ(R:dh τ ad g μ st)(h:NeU μ v w b)(r:Ar τ g v av)(s:Ar τ g w aw):Qq st av aw !b:=by
 induction h with
 |F hl h=>exact r.o s λa i c f=>(R.F i).elim λm e=>(R.F f).elim λp d=>.F e.1 d.1 (by rw[e.2.u,d.2.u,hl])<|ET (ER R 199) e.2 d.2 h
 |f hl=>exact r.o s λa i c f=>(R.F i).elim λm e=>(R.F f).elim λp d=>.f e.1 d.1 (by rw[e.2.u,d.2.u];exact hl)
 |j j=>exact r.o s λc f=>(R.F<|R.I _ _ j).elim λm e=>(R.F f).elim λp d=>aea e.1 d.1 e.2 d.2
 |d=>exact r.o s λc f=>((R.H f).elim λk z=>.n z.1)
end
inductive EqO(τ:cV)(E:Prop)(K:qw->Prop):AV->AV->Prop
 |p{a b}(e:E):EqO τ E K a b
 |c{i j}(k:K (i==j)):EqO τ E K (.j i) (.j j)
 |o{n m:Nm}(k:K (n.t==m.t)):EqO τ E K (.t n.t) (.t m.t)
inductive Fs(τ:cV)(g:Mu)(st:St)(K:qd->U->Prop):AV->Prop
 |mk{a i w aw}(e:st a=dA (.H [.j i,aw]))(r:Ar τ g w aw)(k:K i w):Fs τ g st K (.d a)
inductive ug:dZ->Prop
 |F{m}:ug (.F m)
 |f{k d m}:ug (.f k d m)
section
variable{τ:cV}{ad:qe U}{g μ:Mu}{st:St}{v w:U}{av aw:AV}{l k:qe U}{m:qe AV}{h:Uh}{c:dZ}{Q:UQ}{Qw:AQ}{a:qc}{b:qw}
theorem Pp{E:Prop}{K:qw->Prop}(q:eqK v w E K)(r:Ar τ g v av)(s:Ar τ g w aw):EqO τ E K av aw:=by
 induction r with
 |j=>
  induction s with
  |j=>exact .c q
  |_=>exact .p q
 |z=>
  induction s with
  |z=>exact .o<|(HG _ _).symm▸q
  |_=>exact .p q
 |_=>exact .p q
theorem afD{K:qw->Prop}(q:eqU v w μ K)(R:dh τ ad g μ st)(r:Ar τ g v av)(s:Ar τ g w aw):∃b,Qx st av aw b/\K b:=
 (Pp q r s).rec (motive:=λav aw a=>Ar τ g v av->Ar τ g w aw->∃b,Qx st av aw b/\K b) (λz r s=>z.imp λb z=>⟨Ub R z.1 r s,z.2⟩) (λz a a=>⟨_,.A (λa z=>nomatch z) u9.c,z⟩) (λz a a=>⟨_,.A (λa z=>nomatch z) u9.j,z⟩) r s
theorem aec{K:qw->Prop}(q:neU v w μ K)(R:dh τ ad g μ st)(r:Ar τ g v av)(s:Ar τ g w aw):∃b,Qq st av aw b/\K b:=
 (Pp q r s).rec (motive:=λav aw a=>Ar τ g v av->Ar τ g w aw->∃b,Qq st av aw b/\K b) (λz r s=>z.elim λb z=>⟨_,aiJ R z.1 r s,z.2⟩) (λz a a=>⟨_,.c,z⟩) (λz a a=>⟨_,.j,z⟩) r s
theorem dE.A(r:dE τ g l m)(h:x∈m):∃v,v∈l/\Ar τ g v x:=by
 induction r with
 |t=>cases h
 |o a _ ih=>exact(qG.mp h).elim (λe=>⟨_,.head _,e▸a⟩) λh=>(ih h).imp λv z=>⟨.tail _ z.1,z.2⟩
theorem K1(c:canon v)(d:canon w)(r:Ar τ g v x)(s:Ar τ g w x):v=w:=by
 induction r with
 |j=>
  cases s with
  |j=>rfl
 |A e=>
  cases s with
  |A f=>cases e.symm.trans f;rfl
  |_=>exact d.elim
 |_=>exact c.elim
theorem agb(r:dE τ g l m)(h:∀v x,v∈l->Ar τ g v x->f' x=f v):m.any f'=l.any f:=by
 induction r with
 |t=>rfl
 |o a _ ih=>exact congr (qh or<|h _ _ (.head _) a)<|ih λv x b=>h v x<|.tail _ b
def Sr(P:U->Prop)(f:U->qw):qw:=open Classical in if h:∃w,P w then f (choose h)else np
theorem HW(h:∃w,P w):∃w,P w/\Sr P f=f w:=⟨_,Classical.choose_spec h,by unfold Sr;exact dif_pos h⟩
theorem aav(R:dh τ ad g μ st)(r:dE τ g l m)(s:Ar τ g v av)(a:∀w∈l,canon w/\BM μ eU w v (f w)):InL st av m (l.any f):=
 ⟨λx=>Sr (λw=>w∈l/\Ar τ g w x) f,λx c=>(HW (f:=f) (r.A c)).elim λw z=>(show Qy st eU x av (Sr _ f)from z.2▸ER R _ _ _ _ _ _ (a _ z.1.1).2 z.1.2 s),
  agb r λw x b s=>(HW (f:=f) (P:=λw=>w∈l/\Ar τ g w x) ⟨w,b,s⟩).elim λw' z=>z.2.trans (qh f (K1 (a _ z.1.1).1 (a _ b).1 z.1.2 s))⟩
noncomputable def Mp(av x:AV):qw:=@AV.casesOn (λa=>qw) av np (λa=>np) (λi=>@AV.casesOn (λa=>qw) x np (λa=>np) (λj=>j==i) (λa=>np) λa=>np) (λs=>@AV.casesOn (λa=>qw) x np (λa=>np) (λa=>np) (λt=>t==s) λa=>np) λa=>np
def Lx(st:St)(av:AV)(m:qe AV):Prop:=∀x∈m,Qy st eU x av<|Mp av x
theorem Lx.o(e:Qy st eU x av (Mp av x))(h:Lx st av m):Lx st av (x::m):=λy a=>(qG.mp a).elim (λq=>q▸e) (h y)
theorem ab1{E:Prop}(s:Ar τ g v av)(r:dE τ g l m):∀{K:qw->Prop},Fj E v l K->E\/Lx st av m/\K (m.any (Mp av)):=by
 induction r with
 |t=>exactλq=>.inr ⟨λd h=>qH h qX,q⟩
 |@o w aw l m a _ ih=>
  intro K q;exact(Pp (show eqK w v E λb=>Fj E v l λc=>K (b||c)from q) a s).rec (motive:=λaw av d=>(∀{K},Fj E v l K->E\/Lx st av m/\K (m.any<|Mp av))->E\/Lx st av (aw::m)/\K ((aw::m).any (Mp av))) (λe d=>.inl e) (λz ih=>(ih z).imp_right λz=>⟨z.1.o u9.c,z.2⟩) (λz ih=>(ih z).imp_right λz=>⟨z.1.o u9.j,z.2⟩) ih
theorem Oa{K:qw->Prop}(q:S9 v l μ K)(R:dh τ ad g μ st)(r:dE τ g l m)(s:Ar τ g v av):∃b,InL st av m b/\K b:=
 (ab1 s r q).elim (λz=>z.elim λf z=>⟨_,aav R r s z.1,z.2⟩) λz=>⟨_,⟨_,z.1,dq⟩,z.2⟩
theorem ui.f{o:qk U}{a:qk AV}(h:ui τ g o a):o.isSome=a.isSome:=by induction h<;>rfl
theorem V8{K:qw->Prop}(q:SZ v w μ K)(R:dh τ ad g μ st)(r:Ar τ g v av)(s:Ar τ g w aw):∃b,Fu st av aw b/\K b:=
 (vO q R s).rec λ{a c h l} e s q=>by
  induction s with
  |F s=>exact(Oa q R s r).imp λb z=>⟨.F e z.1,z.2⟩
  |H s=>exact(Oa q R s r).imp λb z=>⟨.H e z.1,z.2⟩
  |d s n k=>exact(mW q r).rec λ{i} q=>⟨_,.d e dq,(lkI s _ i).f▸q⟩
  |_=>exact q.elim
theorem Mz{k j:Sx}(h:spT k=spT j):k=j:=by cases k<;>cases j<;>first|rfl|cases h
theorem X6(R:dh τ ad g μ st){k j:Sx}(h:LC τ k=LC τ j):k=j:=
 (R.K k).elim λc z=>z.elim λs z=>(R.K j).elim λc y=>y.elim λt y=>by
  have e1:=z.1;rw[h,y.1]at e1;cases e1;have key:∀{n b:Nm} {x},Ar τ g (.z n) x->Ar τ g (.z b) x->n=b:=λr a=>r.B (P:=λx=>Ar τ g (.z _) x->_) (λa=>a.B (P:=λx=>x=.t (Nm.t _)->_) (λe=>Nm.hV.mp (AV.t.inj e).symm) dq) a;exact Mz<|qh U.z (key z.2 y.2)
theorem OQ(r:uk τ g h l c)(q:hdI h P):ug c/\P:=by
 induction r with
 |F=>exact⟨.F,q⟩
 |f=>exact⟨.f,q⟩
 |_=>exact q.elim
theorem Wg{a b:qc}{d:dZ}(e:st a=dA c)(f:st b=dA d)(ne:a≠b)(h:ug c):Fw st (.d a) (.d b) np:=by
 induction h with
 |F=>exact .F ne e f
 |f=>exact .f ne e f
theorem aaq{k:Sx}{K:qw->Prop}(q:aeM v k μ K)(R:dh τ ad g μ st)(r:Ar τ g v av):∃b,Fw st av (.d (LC τ k)) b/\K b:=by
 have go:∀{a b h l},g a=dA ⟨b,h,l⟩->hdI h (K np)->∃b,Fw st (.d a) (.d<|LC τ k) b/\K b:=λe q=>(R.E _ _ _ _ e).elim λc z=>(R.K k).elim λc y=>y.elim λc y=>⟨_,Wg z.1 y.1 (R.O e k).symm (OQ z.2 q).1,(OQ z.2 q).2⟩;induction r with
 |q=>exact⟨_,.j,q⟩
 |j=>exact⟨_,.h,q⟩
 |d=>exact q.rec λe q=>go (R.I _ _ e) q
 |@K j=>
  refine⟨_,?_,q⟩;by_cases e:j=k
  ·rw[e,decide_eq_true dq];exact .N
  ·exact(R.K j).elim λc z=>z.elim λc z=>(R.K k).elim λc y=>y.elim λc y=>xN e▸.f (λz=>e<|X6 R z) z.1 y.1
 |A e=>exact go e q
 |_=>exact q.elim
theorem aeL{K:qw->Prop}(q:TA v w μ K)(R:dh τ ad g μ st)(r:Ar τ g v av)(s:Ar τ g w aw):∃b,Fw st av aw b/\K b:=by
 induction s with
 |K=>exact aaq q R r
 |@A h' j i d=>
  induction r with
  |@A h l a e=>
   obtain⟨c,z⟩:=R.E _ _ _ _ e;have q:=OQ z.2 q;by_cases n:a=i
   ·rw[n];exact⟨hY,.N,q.2 hY λf=>by rw[n]at e;cases e.symm.trans d;rfl⟩
   ·exact(R.E _ _ _ _ d).elim λf y=>⟨np,Wg z.1 y.1 n q.1,q.2 np λz=>nomatch z⟩
  |_=>exact q.elim
 |_=>exact q.elim
theorem afM{op:aeN}(q:UC op v w Q μ)(R:dh τ ad g μ st)(r:Ar τ g v av)(s:Ar τ g w aw)(k:Kt τ ad g st Q Qw):PG op av aw Qw st:=by
 have YK:∀{op} {P:qd->qd->qw},(∀i j,v6 st op (.j i) (.j j)<|P i j)->(NG v w λi j=>Q (.q<|P i j) μ)->PG op av aw Qw st:=λf q=>(mW q r).rec λq=>(mW q s).rec λq=>⟨_,f _ _,k.d R q⟩;induction op with
 |Eq=>exact(afD q R r s).elim λb z=>⟨b,.o z.1,k.d R z.2⟩
 |NotEq=>exact(aec (show neU v w μ (λb=>Q (.q b) μ)from q) R r s).elim λb z=>⟨b,.c z.1,k.d R z.2⟩
 |Lt=>exact YK (P:=λi j=>decide<|i<j) (λa a=>.y) q
 |LtE=>exact YK (P:=λi j=>decide<|i<=j) (λa a=>.I) q
 |Gt=>exact YK (P:=λi j=>decide<|i>j) (λa a=>.g) q
 |GtE=>exact YK (P:=λi j=>decide<|i>=j) (λa a=>.i) q
 |Is=>exact(aeL q R r s).elim λb z=>⟨b,.d z.1,k.d R z.2⟩
 |IsNot=>exact(aeL q R r s).elim λb z=>⟨!b,.e z.1,k.d R z.2⟩
 |In=>exact(V8 q R r s).elim λb z=>⟨b,.A z.1,k.d R z.2⟩
 |NotIn=>exact(V8 q R r s).elim λb z=>⟨!b,.f z.1,k.d R z.2⟩
theorem GC(q:F5 v μ λh a=>Tz cs h λb=>Q (.q b) μ)(R:dh τ ad g μ st)(r:Ar τ g v av)(k:Kt τ ad g st Q Qw):Ty cs av Qw st:=
 (vO q R r).rec λe r q=>by
  induction r with
  |F=>exact⟨_,.F e,k.d R q⟩
  |H=>exact⟨_,.H e,k.d R q⟩
  |f=>exact⟨_,.f e,k.d R q⟩
  |_=>exact q.elim
theorem aeJ(q:Kk cs v Q μ)(R:dh τ ad g μ st)(r:Ar τ g v av)(k:Kt τ ad g st Q Qw):Ty cs av Qw st:=by
 induction r with
 |q=>exact⟨_,.q,k.d R q⟩
 |j=>exact⟨_,.j,k.d R q⟩
 |d=>exact GC (v:=.d _) (Q:=Q) (μ:=μ) q R .d k
 |K=>exact GC (v:=.K _) (Q:=Q) (μ:=μ) q R .K k
 |A e=>exact GC (v:=.A _ _) (Q:=Q) (μ:=μ) q R (.A e) k
 |_=>exact q.elim
theorem sC{κ:Type}{ks:qe κ}(r:dE τ g l m)(e:ks.length=l.length):(ks.zip m).length=l.length:=by rw[afh,r.u,e,Zr]
theorem Sv{K:qd->U->Prop}(r:dE τ g l m)(q:@List.casesOn U (λb=>Prop) l qp λa l=>cM l λw=>dB (kE a) λk=>K k w)(e:st a=dA (.H m)):Fs τ g st K (.d a):=by
 induction r with
 |t=>exact q.elim
 |o r1 r2=>exact(AY q r2).rec (motive:=λm b=>st a=dA (.H<|_::m)->Fs τ g st K (.d a)) (λr2 q e=>(mW q r1).rec (motive:=λav b=>st a=dA (.H [av,_])->Fs τ g st K (.d a)) (λq e=>⟨e,r2,q⟩) e) e
theorem YG{K:qd->U->Prop}(q:NE v K)(R:dh τ ad g μ st)(r:Ar τ g v av):Fs τ g st K av:=by
 induction r with
 |@A h l a e=>
  induction h with
  |H=>exact(R.H e).elim λm z=>Sv z.2 q z.1
  |_=>exact q.elim
 |_=>exact q.elim
theorem BO(L:qe (α×β)):(L.map (·.1)).zip (L.map (·.2))=L:=by
 induction L with
 |nil=>rfl
 |cons p L ih=>exact qh (p::·) ih
inductive QA(τ:cV)(g:Mu)(st:St)(K:qe qd×qe U->Prop)(m:qe AV)(M:qe (qd×AV)):Prop
 |mk{L' M'}(d:DictOf st m M M')(r:oN τ g id L' M')(n:L'.length<aH)(k:K (L'.map (·.1),L'.map (·.2))):QA τ g st K m M
theorem Un{K:qe qd×qe U->Prop}(R:dh τ ad g μ st)(r:dE τ g l m):∀{L:qe (qd×U)} {M:qe (qd×AV)},oN τ g id L M->L.length+l.length<aH->Bx l (L.map (·.1),L.map (·.2)) K->QA τ g st K m M:=by
 induction r with
 |t=>exactλh n q=>⟨dq,h,n,q⟩
 |@o v av l m a _ ih=>
  intro L M h n q;refine(YG (show NE v λk w=>Bx l (uJ (L.map (·.1)) (L.map (·.2)) k w) K from q) R a).rec (motive:=λav b=>QA τ g st K (av::m) M) λ{x i w aw} e r q=>?_;unfold uJ at q;rw[BO]at q;exact(ih (h.q (x:=i) Iz r) (qi (qg (qF (gF L i w) _)<|qL (Zk _ _)) n) q).rec λd r n k=>⟨⟨x,i,aw,dq,e,d⟩,r,n,k⟩
theorem oN.d(r:oN τ g id L M)(n:L.length<aH):uk τ g (.d (L.map (·.1))) (L.map (·.2)) (.d M):=by
 have k:=uk.d (ks:=L.map (·.1)) r.i.1 (by rw[qI];exact n) (by rw[qI,qI])
 rwa [←show M=(L.map (·.1)).zip (M.map (·.2))from r.i.2.trans (by rw[map_id])]at k
theorem oN.j(r:oN τ g Nm.t L M)(n:L.length<aH):uk τ g (.j (L.map (·.1))) (L.map (·.2)) (.j M):=by
 have k:=uk.j (ks:=L.map (·.1)) r.i.1 (by rw[qI];exact n) (by rw[qI,qI])
 rwa [←r.i.2]at k
theorem aep(q:F5 v μ λh l=>aet h l Q μ)(R:dh τ ad g μ st)(r:Ar τ g v av)(k:Kt τ ad g st Q Qw):Gf .C [av] Qw st:=
 (vO q R r).rec λe r q=>by
  induction r with
  |F r n=>exact .f e (r.u.symm▸n)<|k.e R (r.u.symm▸q)
  |H r n=>exact .g e (r.u.symm▸n)<|k.e R (r.u.symm▸q)
  |d r n z=>exact .k e ((sC r z).symm▸n)<|k.e R ((sC r z).symm▸q)
  |_=>exact q.elim
theorem abq(q:F5 v μ λh l=>WA b h l Q μ)(R:dh τ ad g μ st)(r:Ar τ g v av)(k:Kt τ ad g st Q Qw):Gf .kC [av] Qw st:=
 (vO q R r).rec λe r q=>by
  induction r with
  |F r n=>exact(Un R r (L:=[]) .t ((vu _).symm▸n) q).rec λd a c q=>.t e (r.u.symm▸n) d<|sw q R (a.d c) k
  |d r n z=>exact .r e ((sC r z).symm▸n)<|sw q R (.d r n z) k
  |_=>exact q.elim
theorem aiv{pf:Bf}(q:prU pf b vs Q μ)(R:dh τ ad g μ st)(r:dE τ g vs g8)(k:Kt τ ad g st Q Qw):Gf pf g8 Qw st:=
 (AY q r).rec λ{v av} r q=>by
  induction pf with
  |C=>exact aep q R r k
  |vp=>exact(mW q r).rec λq=>.o<|k.e R q
  |iL=>exact(BV q r).rec λq=>.j<|k.e R q
  |yA=>
   induction r with
   |t=>exact q.elim λc z=>.p z.1<|k.e R z.2
   |_=>exact q.elim
  |nF=>exact(D4 q R r).rec λe rl n q=>.d e (rl.u.symm▸n)<|sw q R (.H rl n) k
  |B=>exact(D4 q R r).rec λe rl n q=>.F e (rl.u.symm▸n)<|sw q R (.F rl n) k
  |kC=>exact abq q R r k
theorem abO{a:Lm}{P:Prop}(q:Jq a v μ P)(R:dh τ ad g μ st)(r:Ar τ g v av):PX a av st/\P:=
 (vO q R r).rec λe r q=>by
  induction r with
  |F=>induction a with
   |kF=>exact q.elim
   |_=>exact⟨.F e (λz=>nomatch z),q⟩
  |d=>induction a with
   |kF=>exact⟨.H e,q⟩
   |_=>exact q.elim
  |_=>exact q.elim
end
inductive WrL(τ:cV)(g μ:Mu)(st:St)(K:qc->qe U->Prop):AV->Prop
 |mk{a l m}(em:μ a=dA ⟨np,.F,l⟩)(e:st a=dA (.F m))(r:dE τ g l m)(n:l.length<aH)(k:K a l):WrL τ g μ st K (.d a)
def RL(τ:cV)(g:Mu)(ρ:UL)(fU:dz):Prop:=∀x v,ρ x=dA v->Ag τ g v (fU x)
noncomputable def aj8{κ:Type}(f:κ->AV)(L:qe (κ×AV)):qe AV:=L.flatMap λp=>[f p.1,p.2]
def ain{κ:Type} [xt κ](L M:qe (κ×AV)):qe (κ×AV):=L.foldl (λacc p=>jm acc p.1 p.2) M
inductive acm{κ BN:Type} [xt BN](τ:cV)(g:Mu)(f:κ->BN)(fa:BN->AV)(n:qc)(M:qe (BN×AV))(K:qe (κ×U)->Prop):qe AV->Prop
 |mk{L L'}(r:oN τ g f L' (ain L M))(z:L'.length<=n)(k:K L'):acm τ g f fa n M K (aj8 fa L)
section
variable{τ:cV}{ad:qe U}{g g' μ:Mu}{st:St}{v w:U}{av aw:AV}{l k vs:qe U}{m p g8:qe AV}{h:Uh}{c:dZ}{Q:UQ}{Qw:AQ}{X:Mu->Prop}{Xw:St->Prop}{a:qc}{b:qw}{ρ:UL}{fU:dz}
theorem LX{K:qc->qe U->Prop}(q:QX v μ λa h l=>OP h qp (K a l))(R:dh τ ad g μ st)(r:Ar τ g v av):WrL τ g μ st K av:=
 (Xa q R r).rec λem e r q=>by
  induction r with
  |F r n=>exact⟨em,e,r,n,q⟩
  |_=>exact q.elim
theorem Cf{k':qe U}(R:dh τ ad g μ st)(em:μ a=dA ⟨np,.F,l⟩)(r:dE τ g k' p)(n:k'.length<aH)(k:Kt τ ad g st Q Qw){v:U}{av:AV}(s:Ar τ g v av)(q:Q v (μ.H a ⟨np,.F,k'⟩)):Qw av (st.H a (.F p)):=
 k _ _ _ _ _ (Ga R em _ _) (VN R em<|.F r n) (s.G (Ga R em _<|.F p).I) q
theorem Cu(l:qe U)(v:U):(l++[v]).length=l.length+1:=qs
theorem adS(q:QX v μ λa h l=>OP h qp (YE a vs l Q μ))(R:dh τ ad g μ st)(r:Ar τ g v av)(s:dE τ g vs g8)(k:Kt τ ad g st Q Qw):LN .jI av g8 Qw st:=
 (LX (K:=λa l=>YE a vs l Q μ) q R r).rec λ{a l m} em e r n q=>by
  induction s with
  |t=>
   obtain⟨b,w,j,q⟩:=q;rw[j]at r n em;have d:b.length+1<aH:=Cu b w▸n;exact(dE.O b r).rec (motive:=λm o=>st a=dA (.F m)->LN .jI (.d a) [] Qw st) (λ{p av} r s e=>.D e (by rw[qs,r.u];exact d) List.getLast?_concat (by rw[List.dropLast_concat];exact Cf R em r (zb d) k s q)) e
  |o r1 r2=>
   induction r2 with
   |o=>exact q.elim
   |t=>
    refine(mW q r1).rec λ{i} q=>?_;rw[q.1];have q:=q.2;induction r with
    |t=>exact q.elim
    |o f c=>exact .c e (c.u.symm▸zb n)<|Cf R em c (zb n) k f q
theorem afs{b:qc}{h':Uh}{c:qe U}(e:g a=dA ⟨np,h,l⟩)(d:g b=dA ⟨hY,h',c⟩):a≠b:=λz=>Pb<|(z▸d).symm.trans e
theorem Pk(q:cM vs λw=>QX v μ λa h l=>OP h qp (@U.casesOn (λb=>Prop) w qp (λb=>qp) (λb=>qp) (λb=>qp) (λb=>qp) (λb=>qp) (λb=>qp) λh' k=>OP h' qp (l.length+k.length<aH/\Q .u (μ.H a ⟨np,.F,l++k⟩))))(R:dh τ ad g μ st)(r:Ar τ g v av)(s:dE τ g vs g8)(k:Kt τ ad g st Q Qw):LN .js av g8 Qw st:=
 (AY q s).rec λ{w aw} s q=>(LX (K:=λa l=>@U.casesOn (λb=>Prop) w qp (λb=>qp) (λb=>qp) (λb=>qp) (λb=>qp) (λb=>qp) (λb=>qp) λh' k=>OP h' qp (l.length+k.length<aH/\Q .u (μ.H a ⟨np,.F,l++k⟩))) q R r).rec λ{a l m} em e r n q=>by
  induction s with
  |@A h' d f c=>
   induction h' with
   |F=>exact(R.F c).elim λm' z=>.g (afs (R.I _ _ em) c) e z.1 (r.u.symm▸z.2.u.symm▸q.1)<|Cf R em (r.D z.2) (qs▸q.1) k .u q.2
   |_=>exact q.elim
  |_=>exact q.elim
theorem aaP{o:qk U}{a:qk AV}(b:ui τ g o a)(s:Ar τ g w aw):Ar τ g (o.getD w) (a.getD aw):=by
 induction b with
 |p=>exact s
 |i r=>exact r
theorem afm(q:F5 v μ λh l=>afn h l vs Q μ)(R:dh τ ad g μ st)(r:Ar τ g v av)(s:dE τ g vs g8)(k:Kt τ ad g st Q Qw):LN .kF av g8 Qw st:=
 (vO q R r).rec λe r q=>by
  induction r with
  |d r n _=>
   induction s with
   |t=>exact q.elim
   |o r1 r2=>exact(AY q r2).rec λs q=>(mW q r1).rec λq=>q.rec λq=>.H e<|k.p R (aaP (lkI r _ _) s) q
  |_=>exact q.elim
theorem akB{b:Lm}(q:bmU b v vs Q μ)(R:dh τ ad g μ st)(r:Ar τ g v av)(s:dE τ g vs g8)(k:Kt τ ad g st Q Qw):LN b av g8 Qw st:=by
 induction b with
 |ch=>exact(AY q s).rec λ{w aw} s q=>(LX (K:=λa l=>l.length+1<aH/\Q .u (μ.H a ⟨np,.F,l++[w]⟩)) q R r).rec λ{a l m} em e r n q=>.f e (r.u.symm▸n)<|Cf R em (r.D<|.E s) (Cu l w▸q.1) k .u q.2
 |jI=>exact adS q R r s k
 |js=>exact Pk q R r s k
 |kF=>exact afm q R r s k
theorem HU{C:dZ}{h':Uh}{b:qe U}(R:dh τ ad g μ st)(em:μ a=dA ⟨np,h,l⟩)(r:uk τ g h' b C)(k:Kx τ ad g st X Xw)(q:X (μ.H a ⟨np,h',b⟩)):Xw (st.H a C):=k _ _ _ (Ga R em _ _) (VN R em r) q
theorem JY{x:Nm}(q:D7 v x w X μ)(R:dh τ ad g μ st)(r:Ar τ g v av)(s:Ar τ g w aw)(k:Kx τ ad g st X Xw):sS av x aw Xw st:=
 (Xa q R r).rec λ{a c h l} em e r q=>by
  induction r with
  |@f cl xs l m dx r n=>
   have q:xU ((cR cl x).isNone&&(x !=.w&&cl !=.bM)) (X (μ.H a ⟨np,.f cl ((kM (xs.zip l) x w).map (·.1)),(kM (xs.zip l) x w).map (·.2)⟩)) qp:=q;cases hc:(cR cl x).isNone&&(x !=.w&&cl !=.bM)with
   |false=>rw[hc]at q;exact q.elim
   |true=>
    rw[hc]at q;have h1:=q8.mp hc;have h2:=q8.mp h1.2;have P:oN τ g id (xs.zip l) ((xs.map id).zip m):=r.d xs;rw[show xs.map id=xs from acA _]at P;have P:=P.B (x:=x) s;have C:=uk.f (dx:=dx) (c:=cl) (xs:=(kM (xs.zip l) x w).map (·.1)) P.i.1 (by rw[qI,qI])
    rw[←show kM (xs.zip m) x aw=((kM (xs.zip l) x w).map (·.1)).zip _ from P.i.2.trans (by rw[acA])]at C
    exact .mk e (xm.mp h1.1) (zJ.mp h2.1) (zJ.mp h2.2)<|HU R em C k q
  |_=>exact q.elim
theorem Nv{i:U}{b:AV}(q:Ch v i w X μ)(R:dh τ ad g μ st)(r:Ar τ g v av)(ri:Ar τ g i b)(s:Ar τ g w aw)(k:Kx τ ad g st X Xw):pS av b aw Xw st:=
 (Xa q R r).rec λ{a c h l} em e r q=>by
  induction r with
  |@F l m r n=>
   exact(mW q ri).rec λ{i} q=>by
    obtain⟨⟨o,f⟩,d⟩:=q;obtain⟨j,rfl⟩:=ahQ o;exact .F e (r.u.symm▸n) (r.u.symm▸xV.mp f)<|HU R em (.F (r.F s j)<|(akb (as:=l)).symm▸n) k d
  |@d ks l m r n z=>
   exact(mW q ri).rec λ{i} q=>by
    have P:oN τ g id (ks.zip l) ((ks.map id).zip m):=r.d ks;rw[map_id]at P;exact .d e ((sC r z).symm▸n)<|HU R em ((P.q (x:=i) Iz s).d (qi (gF _ _ _) (by rw[afh,z,Zr];exact q.1))) k q.2
  |@j ks l m r n z=>exact(ad6 q ri).rec λ{i} q=>.j e (by rw[sC r ((qI ..).trans z)];exact n)<|HU R em (((r.d ks).q (x:=i) FU s).j (qi (gF _ _ _) (by rw[afh,z,Zr];exact q.1))) k q.2
  |_=>exact q.elim
theorem afq(q:afr v Q μ)(R:dh τ ad g μ st)(r:Ar τ g v av)(k:Kt τ ad g st Q Qw):Qw av st:=by
 induction r with
 |d=>exact q.rec λ{b h l} e q=>(R.E _ _ _ _<|R.I _ _ e).elim λc z=>k _ _ _ (.A h l) _ ⟨.L<|R.I _ _ e,λa a a a=>dq⟩ (R.N (G:=⟨hY,h,l⟩) (.L<|R.I _ _ e) (R.O<|R.I _ _ e) (z.2.G<|.L (R.I _ _ e)) (pU R.I) st z.1 λa a=>dq) (.A<|aE _ _ _) q
 |_=>exact q.elim
theorem WD{κ BN:Type} [xt κ] [xt BN]{f:κ->BN}{fa:BN->AV}{kO:U->qk κ}(i:∀a b,f a=f b->a=b)(h:∀{v av} {K:κ->Prop} {P:AV->Prop},dB (kO v) K->Ar τ g v av->(∀k,K k->P (fa (f k)))->P av){K:qe (κ×U)->Prop}(n:qc):
  ∀{vs g8 N} {L:qe (κ×U)} {M:qe (BN×AV)},dct kO n vs L K->dE τ g vs g8->oN τ g f L M->L.length<=N->acm τ g f fa (N+n) M K g8:=by
 induction n with
 |zero=>
  intro vs g8 N L M q s r n;induction s with
  |t=>exact .mk (L:=[]) r n q
  |o=>exact q.elim
 |succ n ih=>
  intro vs g8 N L M q s r c;induction s with
  |t=>exact .mk (L:=[]) r (qg c<|qj _ _) q
  |o r1 r2=>
   induction r2 with
   |t=>exact q.elim
   |@o w aw l m r2 d=>
    refine h (P:=λx=>acm τ g f fa (N+(n+1)) M K<|x::aw::m) q r1 λk q=>?_;exact(ih (N:=N+1) q d (r.q (x:=k) i r2)<|qg (gF _ _ _) (qN c)).rec λ{j o} r e k'=>.mk (L:=(f k,aw)::j) r (Zk N n▸e) k'
theorem aeP{P:AV->Prop}{K:qd->Prop}(q:dB (kE v) K)(r:Ar τ g v av)(f:∀k,K k->P (.j k)):P av:=(mW q r).rec λq=>f _ q
theorem Pz{i:qw}(q:WL i b Q vs μ)(R:dh τ ad g μ st)(s:dE τ g vs g8)(k:Kt τ ad g st Q Qw):EZ i g8 Qw st:=by
 have a:∀{n:qc},n<=0+10->n<aH:=λh=>qi h (by decide)
 cases i with
 |true=>exact(WD (kO:=kE) (f:=id) (fa:=AV.j) Iz (λq r f=>aeP q r f) 10 (show dct kE 10 vs [] λL=>d9 b (.d (L.map (·.1))) (L.map (·.2)) Q μ from q) s .t<|qm 0).rec λr n q=>.i<|sw q R (r.d<|a n) k
 |false=>exact(WD (kO:=SL) (f:=Nm.t) (fa:=AV.t) FU (λ{v av K P} q r f=>(ad6 q r).rec λq=>f _ q) 10 (show dct SL 10 vs [] λL=>d9 b (.j (L.map (·.1))) (L.map (·.2)) Q μ from q) s .t<|qm 0).rec λr n q=>.s<|sw q R (r.j<|a n) k
end
inductive uj(τ:cV)(g:Mu):qe (qe U)->qe (qe AV)->Prop
 |t:uj τ g [] []
 |o{v av l m}(a:dE τ g v av)(b:uj τ g l m):uj τ g (v::l) (av::m)
def Fq(g:Mu)(st:St)(fJ:oF):Prop:=∀p∈fJ,st p.1=dA p.2/\∃h l,g p.1=dA ⟨hY,h,l⟩
structure al0(τ:cV)(g:Mu)(st:St)(items:qe (qe U))(fJ:oF)(rr:qe (qe AV)):Prop where
 v:uj τ g items rr
 n:items.length<aH
 s:Fq g st fJ
structure W5(τ:cV)(ad:qe U)(g:Mu)(st:St)(ρ:UL)(fU:dz)(X:Mu->Prop)(Xw:St->Prop):Prop where
 f:RL τ g ρ fU
 d:Kx τ ad g st X Xw
def KI(τ:cV)(ad:qe U)(g:Mu)(st:St)(Q:Hl)(Qw:oF->qe (qe AV)->St->Prop):Prop:=∀g' μ ba items fJ a,ur g st g' ba->dh τ ad g' μ ba->al0 τ g' ba items fJ a->Q items μ->Qw fJ a ba
inductive acf(τ:cV)(g:Mu):qk U->qk AV->Prop
 |u:acf τ g ft ft
 |d{v av}(r:Ar τ g v av):acf τ g (dA v) (dA av)
def KO(τ:cV)(ad:qe U)(g:Mu)(st:St)(K:qk U->Mu->Prop)(b:qk AV->St->Prop):Prop:=∀g' μ ba o a,ur g st g' ba->dh τ ad g' μ ba->acf τ g' o a->K o μ->b a ba
def KS(τ:cV)(ad:qe U)(g:Mu)(st:St)(Q:ce)(Qw:SQ):Prop:=∀g' μ ba ρ fU,ur g st g' ba->dh τ ad g' μ ba->RL τ g' ρ fU->Q ρ μ->Qw fU ba
def QD(τ:cV)(ad:qe U)(C:be)(Cw:dG):Prop:=∀⦃f vs g8 Q X μ g st Qw Xw⦄,C f vs Q X μ->dh τ ad g μ st->dE τ g vs g8->Kt τ ad g st Q Qw->Kx τ ad g st X Xw->Cw f g8 Qw Xw st
def Jz(Cw:dG):Prop:=∀⦃c xs g8 Qw Xw st⦄,fm plain c=dA xs->g8.length=xs.length->(∀a dx,st a=ft->Qw (.d a) (st.H a<|.f c dx (xs.zip g8)))->Gw Cw c g8 Qw Xw st
section
variable{τ:cV}{ad:qe U}{g g' μ:Mu}{st ba:St}{v w:U}{av aw:AV}{l k vs:qe U}{m p g8:qe AV}{h:Uh}{c:dZ}{Q:UQ}{Qw:AQ}{X:Mu->Prop}{Xw:St->Prop}{a:qc}{b:qw}{ρ:UL}{fU:dz}{C:be}{Cw:dG}
theorem Ag.G{o:qk AV}(le:u6 g g')(r:Ag τ g v o):Ag τ g' v o:=r.rec λr=>.mk<|r.G le
theorem RL.G(le:u6 g g')(r:RL τ g ρ fU):RL τ g' ρ fU:=λx v e=>(r x v e).G le
theorem W5.G(e:ur g st g' ba)(c:W5 τ ad g st ρ fU X Xw):W5 τ ad g' ba ρ fU X Xw:=⟨c.f.G e.I,c.d.G e⟩
theorem uj.G{L:qe (qe U)}{M:qe (qe AV)}(le:u6 g g')(r:uj τ g L M):uj τ g' L M:=by
 induction r with
 |t=>exact .t
 |o a _ ih=>exact .o (a.G le) ih
theorem Fq.G{fJ:oF}(e:ur g st g' ba)(s:Fq g st fJ):Fq g' ba fJ:=λp a=>⟨(s p a).2.elim λh z=>z.elim λl z=>(e.f _ _ _ z).trans (s p a).1,(s p a).2.imp λh z=>z.imp λl z=>e.I _ _ _ z⟩
theorem RL.H{x:Nm}(r:RL τ g ρ fU)(s:Ar τ g v av):RL τ g (ρ.H x v) (fU.H x av):=λy u=>by
 show(if y=x then dA v else ρ y)=dA u->Ag τ g u (if y=x then dA av else fU y)
 by_cases e:y=x
 ·rw[qK e,qK e];exactλz=>qA z▸.mk s
 ·rw[if_neg e,if_neg e];exact r y u
theorem Gu{α:Type}{l:qe α}{P:Prop}(h:SN l P):l=[]/\P:=by
 cases l with
 |nil=>exact⟨dq,h⟩
 |cons=>exact h.elim
theorem aiH(r:dE τ g [] m):m=[]:=r.M (λm=>m=[]) dq dq
theorem V3{K:qe U->Prop}(q:ndT v K)(R:dh τ ad g μ st)(r:Ar τ g v av):∃a l m,av=.d a/\g a=dA ⟨hY,.H,l⟩/\st a=dA (.H m)/\dE τ g l m/\l.length<aH/\K l:=by
 induction r with
 |@A h l a e=>
  induction h with
  |H=>exact(R.E _ _ _ _ e).elim λc z=>by cases z.2 with|H r n=>exact⟨_,_,_,dq,e,z.1,r,n,q⟩
  |_=>exact q.elim
 |_=>exact q.elim
theorem V4{K:qe U->Prop}(q:ndL v K)(R:dh τ ad g μ st)(r:Ar τ g v av):∃a l m,av=.d a/\g a=dA ⟨hY,.F,l⟩/\st a=dA (.F m)/\dE τ g l m/\l.length<aH/\K l:=by
 induction r with
 |@A h l a e=>
  induction h with
  |F=>exact(R.E _ _ _ _ e).elim λc z=>by cases z.2 with|F r n=>exact⟨_,_,_,dq,e,z.1,r,n,q⟩
  |_=>exact q.elim
 |_=>exact q.elim
theorem Jr{xs:qe Nm}{K:UL->Prop}{c:dz->Prop}(q:P4 xs v ρ K)(R:dh τ ad g μ st)(L:RL τ g ρ fU)(r:Ar τ g v av)(k:∀aI b,RL τ g aI b->K aI->c b):mr xs [av] fU st c:=by
 cases xs with
 |nil=>exact q.elim
 |cons x xs=>
  cases xs with
  |nil=>exact k _ _ (L.H r) q
  |cons y xs=>
   obtain⟨rfl,q⟩:=Gu q;obtain⟨a,l,m,d,_,e,r,_,q⟩:=V3 q R r;induction r with
   |t=>exact q.elim
   |o r1 r2=>exact(AY q r2).rec (motive:=λm f=>st a=dA (.H<|_::m)->_) (λr2 q e=>⟨_,_,_,d,e,k _ _ ((L.H r1).H r2) q⟩) e
theorem C7{xs:qe Nm}{K:UL->Prop}{b:dz->Prop}(q:jL xs vs ρ K)(R:dh τ ad g μ st)(L:RL τ g ρ fU)(r:dE τ g vs g8)(k:∀aI a,RL τ g aI a->K aI->b a):mr xs g8 fU st b:=by
 induction r with
 |t=>exact q.elim
 |o r1 r2=>
  induction r2 with
  |t=>exact Jr q R L r1 k
  |o r2 c=>
   obtain⟨e,q⟩:=Gu q;cases e;cases aiH c;cases xs with
   |nil=>exact q.elim
   |cons x xs=>
    cases xs with
    |nil=>exact q.elim
    |cons y xs=>
     obtain⟨rfl,q⟩:=Gu q;exact k _ _ ((L.H r1).H r2) q
theorem Pe{cy:qe U->(qk U->Mu->Prop)->Mu->Prop}{h:qe AV->(qk AV->St->Prop)->St->Prop}{fJ:oF}{Q:rj}{Qw:LQ}{items:qe (qe U)}:
  ∀{a acc b g st μ},dF cy items acc Q μ->dh τ ad g μ st->uj τ g items a->Fq g st fJ->dE τ g acc b->acc.length+items.length<aH->
   (∀g' ba,ur g st g' ba->∀vs g8 μ K f,cy vs K μ->dh τ ad g' μ ba->dE τ g' vs g8->KO τ ad g' ba K f->h g8 f ba)->
   (∀g' ba μ l m,ur g st g' ba->dh τ ad g' μ ba->dE τ g' l m->l.length<aH->Q l μ->Qw m ba)->Bo fJ h a b Qw st:=by
 induction items with
 |nil=>
  intro a acc b g st μ q R I S A n t k;cases I;rw[eX]at q;exact⟨λp c=>(S p c).1,A.u.symm▸n,k _ _ _ _ _ (.j _ _) R A n q⟩
 |cons vs items ih=>
  intro a acc b g st μ q R I S A n t k;cases I with|o i I=>
  rw[dD]at q;refine⟨λp c=>(S p c).1,A.u.symm▸qi (qj _ _) n,t _ _ (.j _ _) _ _ _ _ _ q R i λg1 j4 bW o j e1 d r q=>?_⟩;have t1:=λg' ba (e:ur g1 bW g' ba)=>t g' ba<|e1.i e;have k1:=λg' ba μ l m (e:ur g1 bW g' ba)=>k g' ba μ l m<|e1.i e;induction r with
  |u=>exact ih q d (I.G e1.I) (S.G e1) (A.G e1.I) (zb n) t1 k1
  |d r=>exact ih q d (I.G e1.I) (S.G e1) ((A.G e1.I).D (.E r)) (by rw[Cu,Zk];exact n) t1 k1
theorem afu{cy:qe U->ce->ce}{d:qe AV->SQ->SQ}{fJ:oF}{Q:ce}{Qw:SQ}{items:qe (qe U)}:
  ∀{a g st μ ρ fU},kX cy items Q ρ μ->dh τ ad g μ st->RL τ g ρ fU->uj τ g items a->Fq g st fJ->
   (∀g' ba,ur g st g' ba->∀vs g8 μ ρ fU K c,cy vs K ρ μ->dh τ ad g' μ ba->RL τ g' ρ fU->dE τ g' vs g8->KS τ ad g' ba K c->d g8 c fU ba)->KS τ ad g st Q Qw->Pd fJ d a Qw fU st:=by
 induction items with
 |nil=>
  intro a g st μ ρ fU q R L I S t k;cases I;rw[EK]at q;exact⟨λp b=>(S p b).1,k _ _ _ _ _ (.j _ _) R L q⟩
 |cons vs items ih=>
  intro a g st μ ρ fU q R L I S t k;cases I with|o i I=>
  rw[Bl]at q;exact⟨λp b=>(S p b).1,t _ _ (.j _ _) _ _ _ _ _ _ _ q R L i λg1 j4 bW l f e1 h j q=>ih q h j (I.G e1.I) (S.G e1) (λg' ba e=>t g' ba<|e1.i e) λg' μ ba ρ fU e=>k g' μ ba ρ fU<|e1.i e⟩
theorem wk{d:dZ}(e:st a=dA d)(c:g a=dA ⟨hY,h,l⟩):Fq g st [(a,d)]:=λp b=>by rw[qD.mp b];exact⟨e,_,_,c⟩
theorem dE.W(r:dE τ g l m):uj τ g (fF l) (m.map λv=>[v]):=by
 induction r with
 |t=>exact .t
 |o a _ ih=>exact .o (.E a) ih
theorem dE.S(r:dE τ g l m):∀{k p},dE τ g k p->uj τ g (sE l k) (sW m p):=by
 induction r with
 |t=>exactλc=>.t
 |o a _ ih=>exactλs=>by cases s with|t=>exact .t|o b s=>exact .o (.o a<|.E b)<|ih s
theorem dE.T(r:dE τ g l m):uj τ g (CT l) (uW m):=by
 unfold CT uW;generalize(0:qc)=n;induction r generalizing n with
 |t=>exact .t
 |o a _ ih=>exact .o (.o .j<|.E a)<|ih (n+1)
theorem Sj(L:qe qc):uj τ g (L.map λ(i:qc)=>[U.j i]) (L.map λ(i:qc)=>[AV.j i]):=by
 induction L with
 |nil=>exact .t
 |cons a L ih=>exact .o (.E .j) ih
theorem XM(L:qe qc):uj τ g (L.map λc=>[U.t ⟨#[c]⟩]) (L.map λc=>[AV.t ⟨#[c]⟩]):=by
 induction L with
 |nil=>exact .t
 |cons a L ih=>exact .o (.E .t) ih
theorem NW:Fq g st []:=λa h=>qH h qX
theorem r8{b:qw}{P:Prop}(q:xU b P qp):b=hY/\P:=by
 cases b with
 |true=>exact⟨dq,q⟩
 |false=>exact q.elim
theorem aeI{Q:Hl}{Qw:oF->qe (qe AV)->St->Prop}(q:itU v λl=>Q l μ)(R:dh τ ad g μ st)(r:Ar τ g v av)(k:KI τ ad g st Q Qw):pX av Qw st:=by
 have str:∀{s:Str},xU (zR (rD s).length 1000) (Q (rD s) μ) qp->pX (.t s) Qw st:=λq=>.t<|k _ _ _ _ _ _ (.j _ _) R ⟨XM _,qi (xo (r8 q).1) (by decide),NW⟩ (r8 q).2
 induction r with
 |t=>exact str q
 |z=>exact str q
 |@A h l a e=>
  have len:(fF l).length=l.length:=qI ..;induction h with
  |F=>exact(R.E _ _ _ _ e).elim λc z=>by cases z.2 with|F r n=>exact .F z.1<|k _ _ _ _ _ _ (.j _ _) R ⟨r.W,len▸n,wk z.1 e⟩ q
  |H=>exact(R.E _ _ _ _ e).elim λc z=>by cases z.2 with|H r n=>exact .H z.1<|k _ _ _ _ _ _ (.j _ _) R ⟨r.W,len▸n,wk z.1 e⟩ q
  |_=>exact q.elim
 |_=>exact q.elim
theorem D5{Q:Hl}{Qw:oF->qe (qe AV)->St->Prop}(q:C4 Q v μ)(R:dh τ ad g μ st)(r:Ar τ g v av)(k:KI τ ad g st Q Qw):F6 av Qw st:=
 (mW q r).rec λ{n} q=>.mk q.1.1 q.1.2<|k _ _ _ _ _ _ (.j _ _) R ⟨Sj _,by rw[qI,Zp];exact(ah5 q.1.1).mpr q.1.2,NW⟩ q.2
theorem LW{Q:Hl}{Qw:oF->qe (qe AV)->St->Prop}(q:cZ2 v Q w μ)(R:dh τ ad g μ st)(r:Ar τ g v av)(s:Ar τ g w aw)(k:KI τ ad g st Q Qw):W8 av aw Qw st:=by
 obtain⟨a,l,m,j,i,e,r,n,q⟩:=V4 q R r;obtain⟨u,t,m',c,b,d,f,o,q⟩:=V4 q R s;rw[j,c];exact .mk e d<|k _ _ _ _ _ _ (.j _ _) R ⟨r.S f,by unfold sE;rw[List.length_map,List.length_zip];exact Nat.lt_of_le_of_lt (Nat.min_le_left _ _) n,λp h=>(List.mem_cons.mp h).elim (λz=>by rw[z];exact⟨e,_,_,i⟩) (wk d b p)⟩ q
theorem IZ{Q:Hl}{Qw:oF->qe (qe AV)->St->Prop}(q:WK Q v μ)(R:dh τ ad g μ st)(r:Ar τ g v av)(k:KI τ ad g st Q Qw):Pu av Qw st:=by
 obtain⟨a,l,m,c,b,e,r,n,q⟩:=V3 q R r;rw[c];exact .mk e<|k _ _ _ _ _ _ (.j _ _) R ⟨r.T,by unfold CT;rw[List.length_map,List.length_zipIdx];exact n,wk e b⟩ q
end
section
variable(τ:cV)(ad:qe U)(C:be)(Cw:dG)
def SEx(e:Ex):Prop:=∀{m:qw} {X:Mu->Prop} {ρ:UL} {Q:UQ} {μ g:Mu} {st:St} {fU:dz} {Xw:St->Prop} {Qw:AQ},uE ad C e m X ρ Q μ->dh τ ad g μ st->W5 τ ad g st ρ fU X Xw->Kt τ ad g st Q Qw->wE τ Cw e Xw fU Qw st
def SLs(l:jM):Prop:=∀{X:Mu->Prop} {ρ:UL} {Q:rj} {μ g:Mu} {st:St} {fU:dz} {Xw:St->Prop} {Qw:LQ},FQ ad C l X ρ Q μ->dh τ ad g μ st->W5 τ ad g st ρ fU X Xw->Kl τ ad g st Q Qw->LA τ Cw l Xw fU Qw st
def SAn(l:jM):Prop:=∀{X:Mu->Prop} {ρ:UL} {Q:UQ} {μ g:Mu} {st:St} {fU:dz} {Xw:St->Prop} {Qw:AQ},Xz ad C l X ρ Q μ->dh τ ad g μ st->W5 τ ad g st ρ fU X Xw->Kt τ ad g st Q Qw->Q6 τ Cw l Xw fU Qw st
def alV(l:jM):Prop:=∀{X:Mu->Prop} {ρ:UL} {Q:UQ} {μ g:Mu} {st:St} {fU:dz} {Xw:St->Prop} {Qw:AQ},uOr ad C l X ρ Q μ->dh τ ad g μ st->W5 τ ad g st ρ fU X Xw->Kt τ ad g st Q Qw->wOr τ Cw l Xw fU Qw st
def SI(it:It):Prop:=∀{X:Mu->Prop} {ρ:UL} {Q:Hl} {μ g:Mu} {st:St} {fU:dz} {Xw:St->Prop} {Qw:oF->qe (qe AV)->St->Prop},uIt ad C it X ρ Q μ->dh τ ad g μ st->W5 τ ad g st ρ fU X Xw->KI τ ad g st Q Qw->wIt τ Cw it Xw fU Qw st
def SSm(s:Sm):Prop:=∀{R:UQ} {X Q:ce} {ρ:UL} {μ g:Mu} {st:St} {fU:dz} {a:AQ} {Xw Qw:SQ},uS ad C s R X Q ρ μ->dh τ ad g μ st->RL τ g ρ fU->Kt τ ad g st R a->KS τ ad g st X Xw->KS τ ad g st Q Qw->wS τ Cw s a Xw Qw fU st
def ahk(s:iH):Prop:=∀{R:UQ} {X Q:ce} {ρ:UL} {μ g:Mu} {st:St} {fU:dz} {a:AQ} {Xw Qw:SQ},bZ ad C s R X Q ρ μ->dh τ ad g μ st->RL τ g ρ fU->Kt τ ad g st R a->KS τ ad g st X Xw->KS τ ad g st Q Qw->FK τ Cw s a Xw Qw fU st
end
section
variable{τ:cV}{ad:qe U}{C:be}{Cw:dG}{g g' μ:Mu}{st ba:St}{v w:U}{av:AV}{vs:qe U}{g8:qe AV}{Q:UQ}{Qw:AQ}{X:Mu->Prop}{Xw:St->Prop}{ρ:UL}{fU:dz}
theorem HZ{K:U->Prop}{x:Nm}(q:dB (ρ x) K)(L:RL τ g ρ fU){P:qk AV->Prop}(f:∀v av,Ar τ g v av->K v->P (dA av)):P (fU x):=by
 have h:=L x;revert q h;generalize ρ x=o;intro q h;cases o with
 |none=>exact q.elim
 |some v=>exact(h v dq).rec λr=>f v _ r q
theorem aej{x:Nm}(q:dB (ρ x) λv=>Q v μ)(R:dh τ ad g μ st)(L:RL τ g ρ fU)(k:Kt τ ad g st Q Qw):Gm (fU x) Qw st:=HZ q L (P:=λo=>Gm o Qw st) λv av r q=>k.p R r q
theorem aaM(q:dB (IK ad x) λv=>Q v μ)(R:dh τ ad g μ st)(k:Kt τ ad g st Q Qw):Gm (yP τ x) Qw st:=by
 have key:∀{L:qe (Nm×U)} {M:qe (Nm×AV)},oN τ g id L M->ui τ g (fm L x) (fm M x):=λr=>by
  induction r with
  |t=>exact .p
  |@o k v av l m a _ ih=>
   cases e:k==x with
   |true=>rw[show fm ((k,v)::l) x=dA v from qh (q0 _)<|xA (p:=λq:Nm×U=>q.1==x) e,show fm ((id k,av)::m) x=dA av from qh (q0 _)<|xA (p:=λq:Nm×AV=>q.1==x) e];exact .i a
   |false=>rw[show fm ((k,v)::l) x=fm l x from qh (q0 _)<|xv (p:=λq:Nm×U=>q.1==x) (show¬(k==x)=hY from e▸qB),show fm ((id k,av)::m) x=fm m x from qh (q0 _)<|xv (p:=λq:Nm×AV=>q.1==x) (show¬(k==x)=hY from e▸qB)];exact ih
 have b:ui τ g (IK ad x) (yP τ x):=key<|.o .j (.o .j<|.o .j (.o .j<|.o .j (.o .j<|.o .j (.o .j<|.o .j (.o .j<|.o .j (.o .j<|.o .j (.o .j<|.o .K (.o .K<|.o .K (.o (.A R.n)<|.o (.A R.J) .t)))))))));revert q b;generalize IK ad x=o;generalize yP τ x=c;intro q b;induction b with
 |p=>exact q.elim
 |i r=>exact k.p R r q
theorem aeb(hC:QD τ ad C Cw)(hN:Jz Cw)(q:SW C c m vs Q X μ)(R:dh τ ad g μ st)(r:dE τ g vs g8)(x:Kx τ ad g st X Xw)(k:Kt τ ad g st Q Qw):Gw Cw c g8 Qw Xw st:=by
 unfold SW at q;cases e:fm plain c with
 |some xs=>
  rw[e]at q;have q:=r8 q;have n:vs.length=xs.length:=ZA q.1;exact hN e (r.u.trans n) λa dx ha=>al_1 q.2 R (.f r n.symm) k a ha
 |none=>
  rw[e]at q;unfold Gw;refine⟨q.1,λa dx ha=>?_⟩;have ev:ur g st (g.H a ⟨np,.f c [],[]⟩) (st.H a<|.f c dx []):=.t (R.j ha) _ _;exact hC (q.2 a<|R.T ha) (R.t ha (.f .t dq) np<|pU R.I) (.o .d<|r.G ev.I) (λg' bS ba v av d f b q'=>⟨by rw[q'.1]at b;exact b.B (P:=λav=>av=.u) dq,k _ _ _ (.d a) _ (ev.i d) f .d q'.2⟩)<|x.G ev
theorem adb(hC:QD τ ad C Cw)(q:Xl C o vs Q X μ)(d:∀v,o=dA v->Ag τ g v b)(R:dh τ ad g μ st)(r:dE τ g vs g8)(x:Kx τ ad g st X Xw)(k:Kt τ ad g st Q Qw):Xk Cw b g8 Qw Xw st:=by
 cases o with
 |none=>exact q.elim
 |some v=>
  refine(d v dq).rec λs=>?_;induction s with
  |@A h l a e=>
   induction h with
   |y=>
    obtain⟨c,z,y⟩:=R.E _ _ _ _ e;cases y with|y s=>exact .mk z<|hC q R (.o s r) k x
   |_=>exact q.elim
  |_=>exact q.elim
theorem Kr(q:Jj e d v μ)(r:Ar τ g v av)(k1:e μ->c st)(k2:d μ->a st):kIf c a av st:=
 (BV q r).rec λ{b} q=>by
  cases b with
  |true=>exact k1 q
  |false=>exact k2 q
section
variable(hC:QD τ ad C Cw)(hN:Jz Cw)
include hC hN
theorem oH:∀e:Ex,SEx τ ad C Cw e:=
 @Ex.rec (SEx τ ad C Cw) (λl=>SLs τ ad C Cw l/\SAn τ ad C Cw l/\alV τ ad C Cw l) (SI τ ad C Cw)
  (λq R c k=>k.p R .u q) (λg {g g g g g g g g g g} q R c k=>k.p R .q q) (λg {g g g g g g g g g g} q R c k=>k.p R .j q) (λg {g g g g g g g g g g} q R c k=>k.p R .z q) (λg {g g g g g g g g g g} q R c k=>aej q R c.f k) (λg {g g g g g g g g g g} q R c k=>aaM q R k)
  (λg g g a b {g g g g g g g g g g} q R c k=>a q R c λg g g g g e1 h r1 j=>b j h (c.G e1) λg g g g g e2 p r2 u=>af4 u p (r1.G e2.I) r2<|k.G (e1.i e2))
  (λg a {g g g g g g g g g g} q R c k=>a q R c λg g g g g e1 h r1 j=>(mW j r1).rec λq=>⟨_,dq,(k.G e1).e h q⟩)
  (λg a {g g g g g g g g g g} q R c k=>a q R c λg g g g g e1 h r1 j=>(BV j r1).rec λq=>(k.G e1).d h q)
  (λg g g a b {g g g g g g g g g g} q R c k=>a q R c λg g g g g e1 h r1 j=>b j h (c.G e1) λg g g g g e2 p r2 u=>afM u p (r1.G e2.I) r2<|k.G (e1.i e2))
  (λg l=>l.2.1) (λg l=>l.2.2)
  (λg g g t a b {g g g g g g g g g g} q R c k=>t q R c λg g g g g e1 h r1 j=>Kr j r1 (λq=>a q h (c.G e1)<|k.G e1) λq=>b q h (c.G e1)<|k.G e1)
  (λg l {g g g g g g g g g g} q R c k=>l.1 q R c λg g g g g e1 h r1 j=>sw (r8 j).2 h (.F r1<|qi (xo (r8 j).1) (by decide))<|k.G e1)
  (λg l {g g g g g g g g g g} q R c k=>l.1 q R c λg g g g g e1 h r1 j=>sw (r8 j).2 h (.H r1<|qi (xo (r8 j).1) (by decide))<|k.G e1)
  (λg g l {g g g g g g g g g g} q R c k=>l.1 q R c λg g g g g e1 h r1 j=>Pz j h r1<|k.G e1)
  (λg xs g e i {g g g g g g g g g g} q R c k=>i q R c λg1 j4 bW items fJ x e1 h I j=>Pe j h I.v I.s .t (by rw[akc,vu];exact I.n)
   (λg2 B e2 vs g8 E K N u p r2 k2=>C7 u p (c.f.G (e1.i e2).I) r2 λaI G L w=>e w p ⟨L,c.d.G<|e1.i e2⟩ λg g g g g e3 z y w=>k2 _ _ _ _ _ e3 z (.d y) w)
   λg2 B E l m e2 p A n u=>sw u p (.F A n) (k.G (e1.i e2)))
  (λg xs g g e i M {g g g g g g g g g g} q R c k=>i q R c λg1 j4 bW items fJ x e1 h I j=>Pe j h I.v I.s .t (by rw[akc,vu];exact I.n)
   (λg2 B e2 vs g8 E K N u p r2 k2=>C7 u p (c.f.G (e1.i e2).I) r2 λaI G L w=>M w p ⟨L,c.d.G<|e1.i e2⟩ λg g g g g e4 F H J=>Kr J H (λD=>e D F ⟨L.G e4.I,c.d.G<|(e1.i e2).i e4⟩ λg g g g g e3 z y w=>k2 _ _ _ _ _ (e4.i e3) z (.d y) w) λD=>k2 _ _ _ _ _ e4 F .u D)
   λg2 B E l m e2 p A n u=>sw u p (.F A n) (k.G (e1.i e2)))
  (λg g a {g g g g g g g g g g} q R c k=>a q R c λg g g g g e1 h r1 j=>abU j h r1<|k.G e1)
  (λg g a b {g g g g g g g g g g} q R c k=>a q R c λg g g g g e1 h r1 j=>b j h (c.G e1) λg g g g g e2 p r2 u=>aeS u p (r1.G e2.I) r2<|k.G (e1.i e2))
  (λg g g a b d {g g g g g g g g g g} q R c k=>a q R c λg g g g g e1 h r1 j=>b j h (c.G e1) λg g g g g e2 p r2 u=>d u p (c.G<|e1.i e2) λg g g g g e3 z y w=>RF w z (r1.G (e2.i e3).I) (r2.G e3.I) y<|k.G ((e1.i e2).i e3))
  (λg a {g g g g g g g g g g} q R c k=>a q R c λg g g g g e1 h r1 j=>adK j h r1<|k.G e1)
  (λg g l {g g g g g g g g g g} q R c k=>l.1 q R c λg g g g g e1 h r1 j=>hC j h r1 (k.G e1)<|c.d.G e1)
  (λg g l {g g g g g g g g g g} q R c k=>l.1 q R c λg g g g g e1 h r1 j=>aeb hC hN j h r1 (c.d.G e1)<|k.G e1)
  (λg g g o l {g g g g g g g g g g} q R c k=>o q R c λg g g g g e1 h r1 j=>Y7 j h r1 λf a r u=>l.1 u h (c.G e1) λg g g g g e2 p r2 w=>hC w p (.o (r.G e2.I) r2) (k.G<|e1.i e2)<|c.d.G (e1.i e2))
  (λg g l {g g g g g g g g g g} q R c k=>⟨(xq.mp q.1).elim λv e=>(c.f _ v e).rec (motive:=λo g=>o.isSome=hY) λg=>dq,l.1 q.2 R c λg g g g g e1 h r1 j=>adb hC j (λv e=>(c.f _ v e).G e1.I) h r1 (c.d.G e1)<|k.G e1⟩)
  (λg g l {g g g g g g g g g g} q R c k=>l.1 q R c λg g g g g e1 h r1 j=>aiv j h r1<|k.G e1)
  (λg g a {g g g g g g g g g g} q R c k=>a q R c λg g g g g e1 h r1 j=>aeJ j h r1<|k.G e1)
  (λg g g o l {g g g g g g g g g g} q R c k=>o q R c λg g g g g e1 h r1 j=>(abO j h r1).imp_right λu=>l.1 u h (c.G e1) λg g g g g e2 p r2 w=>akB w p (r1.G e2.I) r2<|k.G (e1.i e2))
  (λb g a {g g g g g g g g g g} q R c k=>by
   cases b with
   |true=>exact a q R c k
   |false=>exact a q R c λg g g g g e1 h r1 j=>afq j h r1 (k.G e1))
  ⟨λq R c k=>k _ _ _ _ _ (.j _ _) R .t q,λq R c k=>k.p R .q q,λq R c k=>k.p R .q q⟩
  (λg g a l=>⟨λq R c k=>a q R c λg g g g g e1 h r1 j=>l.1 j h (c.G e1) λg g g g g e2 p r2 u=>k _ _ _ _ _ (e1.i e2) p (.o (r1.G e2.I) r2) u,
   λq R c k=>a q R c λg g g g g e1 h r1 j=>Kr j r1 (λq=>l.2.1 q h (c.G e1)<|k.G e1) λq=>(k.G e1).d h q,
   λq R c k=>a q R c λg g g g g e1 h r1 j=>Kr j r1 (λq=>(k.G e1).d h q) λq=>l.2.2 q h (c.G e1) (k.G e1)⟩)
  (λg a {g g g g g g g g g} q R c k=>a q R c λg g g g g e1 h r1 j=>aeI j h r1 λg' μ ba items fJ x e=>k g' μ ba items fJ x<|e1.i e)
  (λg a {g g g g g g g g g} q R c k=>a q R c λg g g g g e1 h r1 j=>D5 j h r1 λg' μ ba items fJ x e=>k g' μ ba items fJ x<|e1.i e)
  (λg g a b {g g g g g g g g g} q R c k=>a q R c λg g g g g e1 h r1 j=>b j h (c.G e1) λg g g g g e2 p r2 u=>LW u p (r1.G e2.I) r2 λg' μ ba items fJ x e=>k g' μ ba items fJ x<|(e1.i e2).i e)
  (λg a {g g g g g g g g g} q R c k=>a q R c λg g g g g e1 h r1 j=>IZ j h r1 λg' μ ba items fJ x e=>k g' μ ba items fJ x<|e1.i e)
end
end
section
variable{τ:cV}{ad:qe U}{C:be}{Cw:dG}{g g' μ:Mu}{st ba:St}{v w:U}{av aw:AV}{vs:qe U}{g8:qe AV}{Q:UQ}{Qw:AQ}{X:Mu->Prop}{Xw:St->Prop}{ρ:UL}{fU:dz}
theorem KS.G{Q:ce}{Qw:SQ}(e:ur g st g' ba)(k:KS τ ad g st Q Qw):KS τ ad g' ba Q Qw:=λa a a a a l=>k _ _ _ _ _<|e.i l
theorem KS.d{Q:ce}{Qw:SQ}(k:KS τ ad g st Q Qw)(L:RL τ g ρ fU):Kx τ ad g st (Q ρ) (Qw fU):=λa a a e R q=>k _ _ _ _ _ e R (L.G e.I) q
theorem KS.p{Qw:SQ}:KS τ ad g st (λa a=>qp) Qw:=λa a a a a a a a q=>q.elim
theorem PN{x s d k:Nm}{Q:ce}{Qw:SQ}(q:wJ x s d k Q ρ μ)(R:dh τ ad g μ st)(L:RL τ g ρ fU)(t:KS τ ad g st Q Qw):p7 x s d k Qw fU st:=by
 refine HZ (P:=λo=>fU d=o->p7 x s d k Qw fU st) q L (λv av r q e=>?_) dq;refine(vO q R r).rec (motive:=λav i=>fU d=dA av->p7 x s d k Qw fU st) (λ{a c h l} e1 r q e=>?_) e;cases f:aaz h l (.z k)with
 |none=>rw[f]at q;exact q.elim
 |some u=>
 rw[f]at q;have q:Q (ρ.H x<|.A .H [.z s,u]) μ:=q;induction r with
 |@j ks l m r n _=>
  refine((lkS r ks k).d (show Er ks l k=dA u from f)).rec (motive:=λo i=>eA ((ks.map Nm.t).zip m) k.t=o->p7 x s d k Qw fU st) (λ{aw} j e2=>?_) dq;exact .mk e e1 e2<|sw (b:=np) (Q:=λv μ=>Q (ρ.H x v) μ) q R (.H (.o .z<|.E j) (show 2<aH by decide)) λg' μ ba v av ev w p q'=>t _ _ _ _ _ ev w ((L.G ev.I).H p) q'
 |_=>exact nomatch f
section
variable(hC:QD τ ad C Cw)(hN:Jz Cw)
include hC hN
theorem adB:∀it:It,SI τ ad C Cw it
 |.F e=>λq R c k=>oH hC hN e q R c λd d d d d e1 h r1 g=>aeI g h r1 λg' μ ba items fJ f e=>k g' μ ba items fJ f<|e1.i e
 |.c e=>λq R c k=>oH hC hN e q R c λd d d d d e1 h r1 g=>D5 g h r1 λg' μ ba items fJ f e=>k g' μ ba items fJ f<|e1.i e
 |.d a b=>λq R c k=>oH hC hN a q R c λd d d d d e1 h r1 g=>oH hC hN b g h (c.G e1) λd d d d d e2 j r2 i=>LW i j (r1.G e2.I) r2 λg' μ ba items fJ f e=>k g' μ ba items fJ f<|(e1.i e2).i e
 |.f e=>λq R c k=>oH hC hN e q R c λd d d d d e1 h r1 g=>IZ g h r1 λg' μ ba items fJ f e=>k g' μ ba items fJ f<|e1.i e
theorem aio:∀s:iH,ahk τ ad C Cw s:=
 @iH.rec (SSm τ ad C Cw) (ahk τ ad C Cw)
  (λx e {c c c c c c c c c c c} q R L h kx k=>oH hC hN e q R ⟨L,kx.d L⟩ λc c c c c e1 f r1 j=>k _ _ _ _ _ e1 f ((L.G e1.I).H r1) j)
  (λo x e {c c c c c c c c c c c} q R L h kx k=>oH hC hN e q R ⟨L,kx.d L⟩ λc c c c c e1 f r1 j=>oH hC hN o j f ⟨L.G e1.I,(kx.d L).G e1⟩ λc c c c c e2 m r2 p=>JY p m r2 (r1.G e2.I)<|(k.d L).G (e1.i e2))
  (λo i e {c c c c c c c c c c c} q R L h kx k=>oH hC hN e q R ⟨L,kx.d L⟩ λc c c c c e1 f r1 j=>oH hC hN o j f ⟨L.G e1.I,(kx.d L).G e1⟩ λc c c c c e2 m r2 p=>oH hC hN i p m ⟨L.G (e1.i e2).I,(kx.d L).G (e1.i e2)⟩ λc c c c c e3 u A t=>Nv t u (r2.G e3.I) A (r1.G (e2.i e3).I)<|(k.d L).G ((e1.i e2).i e3))
  (λx y e {c c c c c c c c c c c} q R L h kx k=>oH hC hN e q R ⟨L,kx.d L⟩ λc c c c c e1 f r1 j=>Jr j f (L.G e1.I) r1 λc c w q=>k _ _ _ _ _ e1 f w q)
  (λx y a b {c c c c c c c c c c c} q R L h kx k=>oH hC hN a q R ⟨L,kx.d L⟩ λc c c c c e1 f r1 j=>oH hC hN b j f ⟨L.G e1.I,(kx.d L).G e1⟩ λc c c c c e2 m r2 p=>k _ _ _ _ _ (e1.i e2) m (((L.G (e1.i e2).I).H (r1.G e2.I)).H r2) p)
  (λe {c c c c c c c c c c c} q R L h kx k=>oH hC hN e q R ⟨L,kx.d L⟩ λc c c c c e1 f r1 j=>k _ _ _ _ _ e1 f (L.G e1.I) j)
  (λe c c a b {c c c c c c c c c c c} q R L h kx k=>oH hC hN e q R ⟨L,kx.d L⟩ λc c c c c e1 f r1 j=>Kr j r1 (λq=>a q f (L.G e1.I) (h.G e1) (kx.G e1)<|k.G e1) λq=>b q f (L.G e1.I) (h.G e1) (kx.G e1)<|k.G e1)
  (λe b hb {c c Q ρ μ g st fU c c Qw} q R L h kx k D hP=>q (λρ μ=>∀g' ba fU,ur g st g' ba->dh τ ad g' μ ba->RL τ g' ρ fU->D fU ba) (λρ μ q g1 bW fU e1 f r=>hP _ _ (oH hC hN e q f ⟨r,λc c c c c z=>z.elim⟩ λc c c c c e2 m r2 p=>Kr p r2
    (λq=>hb q m (r.G e2.I) (h.G (e1.i e2)) KS.p λc c c c c e3 u E z=>z _ _ _ ((e1.i e2).i e3) u E) λq=>k _ _ _ _ _ (e1.i e2) m (r.G e2.I) q)) g st fU (.j _ _) R L)
  (λxs it b hb {c c c c c c c c c c c} q R L h kx k=>adB hC hN it q R ⟨L,kx.d L⟩ λg1 j4 bW items fJ J e1 f I j=>afu j f (L.G e1.I) I.v I.s (λg2 H e2 vs g8 M N B K O p m F r2 k2=>C7 p m F r2 λaI G w t=>hb t m w (h.G<|e1.i e2) (kx.G<|e1.i e2) k2)<|k.G e1)
  (λe {c c c c c c c c c c c} q R L h kx k=>oH hC hN e q R ⟨L,kx.d L⟩ h)
  (λ{c c c c c c c c c c c} q R L h kx k=>kx _ _ _ _ _ (.j _ _) R L q)
  (λb x s d n hb {c c c c c c c c c c c} q R L h kx k=>hb q R L h (λc c c c c e1 f r j=>PN j f r<|k.G e1) k)
  (λq R L h kx k=>k _ _ _ _ _ (.j _ _) R L q)
  (λc c a l {c c c c c c c c c c c} q R L h kx k=>a q R L h kx λc c c c c e1 f r j=>l j f r (h.G e1) (kx.G e1)<|k.G e1)
end
def Wk(v:U)(μ:Mu)(v':U)(bS:Mu):Prop:=∀⦃τ:cV⦄⦃ad:qe U⦄⦃g:Mu⦄⦃st:St⦄⦃av:AV⦄,dh τ ad g μ st->Ar τ g v av->∃g',ur g st g' st/\dh τ ad g' bS st/\Ar τ g' v' av
theorem VK(k:Kt τ ad g st Q Qw):Kt τ ad g st (cD Wk Q) Qw:=λg' μ ba v av e R r q=>by
 cases q with
 |j q=>exact k _ _ _ _ _ e R r q
 |A w q=>exact(w R r).elim λg2 z=>k _ _ _ _ _ (e.i z.1) z.2.1 z.2.2 q
theorem abR{xs:qe Nm}:∀{vs g8 ρ fU aI},BH xs vs ρ=dA aI->dE τ g vs g8->RL τ g ρ fU->∃b,rL xs g8 fU=dA b/\RL τ g aI b:=by
 induction xs with
 |nil=>
  intro vs g8 ρ fU aI e r L;cases r with
  |t=>exact⟨fU,dq,qA e▸L⟩
  |o=>exact nomatch e
 |cons x xs ih=>
  intro vs g8 ρ fU aI e r L;cases r with
  |t=>exact nomatch e
  |o a r=>exact ih e r<|L.H a
def Gy(l:qe Nm):iH:=aif (motive:=λa=>iH) .t (λx a ih=>.o (.h (.s .g) x<|.s x) ih) l
def YU(c:Nm)(l:qe Nm):qw:=aif (motive:=λa=>qw) hY (λx l ih=>(cR c x).isNone&&(x !=.w&&(!l.contains x&&ih))) l
theorem Vt{ρ:dz}{x:Nm}{v:AV}{Q:AQ}{st:St}(e:ρ x=dA v)(q:Q v st):Gm (ρ x) Q st:=by rw[e];exact q
theorem ML(st:St)(a:qc)(c d:dZ):(st.H a c).H a d=st.H a d:=by
 funext b;unfold St.H;by_cases h:b=a
 ·rw[qK h,qK h]
 ·rw[if_neg h,if_neg h,if_neg h]
theorem Nt{x:Nm}{v:AV}{l:qe (Nm×AV)}(h:∀p∈l,p.1≠x):kM l x v=l++[(x,v)]:=by
 induction l with
 |nil=>rfl
 |cons p l ih=>
  show(if p.1=x then _ else p::kM l x v)=_
  rw[if_neg (h p<|.head _),ih λq a=>h q<|.tail _ a];rfl
theorem Kq{C:dG}{Q:dz->St->Prop}{R:AV->St->Prop}{X:dz->St->Prop}{st:St}{a dx:qc}{c:Nm}{ρ:dz}(hc:c≠.bM)(b:ρ .g=dA (.d a)){ps:qe (Nm×AV)}:
  ∀{l:qe (Nm×AV)},(∀p∈ps,ρ p.1=dA p.2)->YU c (ps.map (·.1))=hY->(∀p∈l,∀q∈ps,p.1≠q.1)->Q ρ (st.H a<|.f c dx (l++ps))->FK τ C (Gy (ps.map (·.1))) R X Q ρ (st.H a<|.f c dx l):=by
 induction ps with
 |nil=>intro l _ _ _ q;rw[qO]at q;exact q
 |cons p ps ih=>
  intro l hi ok hd q;have ok:((cR c p.1).isNone&&(p.1 !=.w&&(!(ps.map (·.1)).contains p.1&&YU c (ps.map (·.1)))))=hY:=ok;obtain⟨g,ok⟩:=q8.mp ok;obtain⟨f,ok⟩:=q8.mp ok;obtain⟨d,ok⟩:=q8.mp ok;refine Vt (hi p<|.head _)<|Vt b (.mk (sN _ _ _) (xm.mp g) (zJ.mp f) hc ?_);rw[ML,Nt λr hr=>hd r hr p<|.head _];refine ih (λr hr=>hi r<|.tail _ hr) ok (λr hr s b=>?_) (by rw[qR];exact q)
  refine(qY.mp hr).elim (λhr=>hd r hr s<|.tail _ b) λhr e=>?_;have e:p.1=s.1:=by rw[←e,qD.mp hr]
  rw[e,xd.mpr<|zg b]at d;cases d
theorem Y4:(plain.map λp=>jo (.y p.1 .r))=plain.map λp=>dA ⟨.g::p.2,Gy p.2⟩:=dq
theorem SO:(plain.all λp=>decide (cR p.1 .r=dA (.y p.1 .r))&&(p.1 !=.bM&&(YU p.1 p.2&&decide ((.g::p.2).Nodup))))=hY:=by decide+kernel
theorem PZ{xs:qe Nm}:∀{vs:qe AV} {Di:dz},vs.length=xs.length->xs.Nodup->∃ρ,rL xs vs Di=dA ρ/\(∀p∈xs.zip vs,ρ p.1=dA p.2)/\∀y,y∉xs->ρ y=Di y:=by
 induction xs with
 |nil=>intro vs Di h _;cases vs with|nil=>exact⟨Di,dq,λa h=>qH h qX,λa a=>dq⟩|cons=>cases h
 |cons x xs ih=>
  intro vs Di h k;cases vs with
  |nil=>cases h
  |cons v vs=>
   obtain⟨k1,k2⟩:=xi.mp k;obtain⟨ρ,h1,h2,h3⟩:=ih (Di:=Di.H x v) (zH h) k2;exact⟨ρ,h1,λp c=>(qG.mp c).elim (λe=>e▸(h3 x k1).trans (qK dq)) (h2 p),λy b=>(h3 y λz=>b<|.tail _ z).trans (if_neg λz:y=x=>b<|z▸.head _)⟩
theorem Fc{n:qc}{f:lS}{fn:Fn}{ρ:dz}(b:jo f=dA fn)(hb:rL fn.b g8 (λa=>ft)=dA ρ)(h:FK τ (callW τ jo n) fn.a Qw (λa=>Xw) (λa=>Qw .u) ρ st):callW τ jo (n+1) f g8 Qw Xw st:=by
 show(match jo f with|some fn=>fnW τ (callW τ jo n) fn g8 Qw Xw st|none=>qp)
 rw[b];show fnW τ (callW τ jo n) fn g8 Qw Xw st;unfold fnW;rw[hb];exact h
theorem Y3(n:qc):Jz (callW τ jo (n+1)):=λc xs g8 Qw Xw st k hl q=>by
 have f:=ph k;obtain⟨j,d⟩:=q8.mp<|qV.mp SO _ f;obtain⟨d,b⟩:=q8.mp d;obtain⟨b,i⟩:=q8.mp b;unfold Gw;refine⟨qC j,λa dx ha=>?_⟩;obtain⟨ρ,h1,h2,_⟩:=PZ (xs:=.g::xs) (vs:=.d a::g8) (Di:=λg=>ft) (qh xZ hl)<|qC i;refine Fc (adU.mp Y4 _ f) h1 ?_;have e:(xs.zip g8).map (·.1)=xs:=List.map_fst_zip<|qL hl.symm;show FK τ _ (Gy xs) _ _ _ ρ _;rw[←e];exact Kq (zJ.mp d) (h2 _<|.head _) (l:=[]) (λp m=>h2 p<|.tail _ m) (e.symm▸b) (λg h=>qH h qX) ⟨dq,q a dx ha⟩
abbrev aJ(ad:qe U)(n:qc):be:=vI ad Wk n
theorem K6(n:qc):QD τ ad (aJ ad n) (callW τ jo (n+1)):=by
 induction n with
 |zero=>intro f vs g8 Q X μ g st Qw Xw q;unfold aJ vI at q;exact q.elim
 |succ n ih=>
  intro f vs g8 Q X μ g st Qw Xw q R r k x;have q:dB (jo f) λfn=>fnU ad Wk (aJ ad n) fn vs Q X μ:=by unfold aJ vI at q⊢;exact q
  cases b:jo f with
  |none=>rw[b]at q;exact q.elim
  |some fn=>
   rw[b]at q;have q:dB (BH fn.b vs λa=>ft) λρ=>bZ ad (aJ ad n) fn.a (cD Wk Q) (λa=>X) (λa=>cD Wk Q .u) ρ μ:=q;cases hb:BH fn.b vs (λa=>ft)with
   |none=>rw[hb]at q;exact q.elim
   |some ρ=>
    rw[hb]at q;obtain⟨fU,h1,L⟩:=abR (fU:=λa=>ft) hb r λa a e=>nomatch e
    exact Fc b h1<|aio ih (Y3 n) fn.a q R L (VK k) (λa a a a a e c a=>x _ _ _ e c) λa a a a a e c a q=>VK k _ _ _ .u _ e c .u q
end
set_option genCtorIdx true in
inductive K where
 |j (i:qd)|q (b:qw)|d|e|y (a:qc) deriving xt
set_option genCtorIdx true in
inductive Pw where
 |o|c|d|v|g|e deriving xt
inductive Hd where
 |u (k:K)|s (x:qd)|B (g:qd)|F (x:qd)|G (g:qd)|v|a (lb:qd) (ps:qe qd) (rest:qd)|h|y|A (w:Pw)
inductive T where
 |A(h:Hd)(l:qe T)
inductive E where
 |u (k:K)|s (x:qd)|B (g:qd)|F (x:qd) (e:E)|G (g:qd) (e:E)|v (a b c:E)|y (l:qe E) (e:E)|A (w:Pw) (l:qe E)
 |D(lb:qd)(ps:qe qd)(rest:qd)(b:E)(l:qe E)
 |H(lb f j2:qd)(ps:qe qd)(rest:qd)(d b:E)
 |L(f:qd)(l:qe E)|I (l:qe E)
noncomputable def E.ctorIdx(a:E):qc:=@E.casesOn (λa=>qc) a (λa=>0) (λa=>1) (λa=>2) (λa a=>3) (λa a=>4) (λa a a=>5) (λa a=>6) (λa a=>7) (λa a a a a=>8) (λa a a a a a a=>9) (λa a=>10) (λa=>11)
mutual
noncomputable def E.t:E->T
 |.u k=>.A (.u k) []
 |.s x=>.A (.s x) []
 |.B g=>.A (.B g) []
 |.F x e=>.A (.F x) [e.t]
 |.G g e=>.A (.G g) [e.t]
 |.v a b c=>.A .v [a.t,b.t,c.t]
 |.y l e=>.A .y<|E.C l++[e.t]
 |.A w l=>.A (.A w)<|E.C l
 |.D lb ps rest b l=>.A .h<|.A (.a lb ps rest) [b.t]::E.C l
 |.H lb f j2 ps rest d b=>.A .h [.A (.a lb [f] (-1)) [b.t],.A (.a j2 ps rest) [d.t]]
 |.L f l=>.A .h<|.A (.s f) []::E.C l
 |.I l=>.A .h<|.A (.B 4) []::E.C l
noncomputable def E.C:qe E->qe T
 |[]=>[]
 |e::l=>e.t::E.C l
end
theorem E.J{P:E->Prop}{Ps:qe E->Prop}(hc:∀k,P (.u k))(hl:∀x,P (.s x))(m:∀x,P (.B x))(h:∀x e,P e->P (.F x e))(g:∀x e,P e->P (.G x e))(hi:∀a b c,P a->P b->P c->P (.v a b c))(n:∀l e,Ps l->P e->P (.y l e))(i:∀w l,Ps l->P (.A w l))
  (ha:∀lb ps rest b l,P b->Ps l->P (.D lb ps rest b l))(o:∀lb f j2 ps rest d b,P d->P b->P (.H lb f j2 ps rest d b))(hC:∀f l,Ps l->P (.L f l))(j:∀l,Ps l->P (.I l))(h0:Ps [])(h1:∀e l,P e->Ps l->Ps (e::l)):(∀e,P e)/\∀l,Ps l:=
 ⟨λe=>E.rec (motive_1:=P) (motive_2:=Ps) hc hl m h g hi n i ha o hC j h0 h1 e,λl=>E.rec_1 (motive_1:=P) (motive_2:=Ps) hc hl m h g hi n i ha o hC j h0 h1 l⟩
theorem E.M{P:E->Prop}(hc:∀k,P (.u k))(hl:∀x,P (.s x))(o:∀x,P (.B x))(j:∀x e,P e->P (.F x e))(i:∀x e,P e->P (.G x e))(hi:∀a b c,P a->P b->P c->P (.v a b c))(p:∀l e,(∀x∈l,P x)->P e->P (.y l e))(m:∀w l,(∀x∈l,P x)->P (.A w l))
  (ha:∀lb ps rest b l,P b->(∀x∈l,P x)->P (.D lb ps rest b l))(q:∀lb f j2 ps rest d b,P d->P b->P (.H lb f j2 ps rest d b))(hC:∀f l,(∀x∈l,P x)->P (.L f l))(n:∀l,(∀x∈l,P x)->P (.I l))(e:E):P e:=
 E.rec (motive_1:=P) (motive_2:=λl=>∀x∈l,P x) hc hl o j i hi p m ha q hC n (λr h=>qH h qX) (λe l a b x g=>(qG.mp g).elim (λz=>z▸a) (b x)) e
inductive V where
 |B(k:K)|e (a b:V) (n:qc)
noncomputable def V.ctorIdx(a:V):qc:=@V.casesOn (λa=>qc) a (λa=>0) (λa a a=>1)
inductive SV where
 |C (b:qw)|d (i:qd)|u|f|c (a:qc)|e (a b:SV)|j (i:qd)
noncomputable def oi:K->SV
 |.j i=>.d i
 |.q b=>.C b
 |.d=>.u
 |.e=>.f
 |.y a=>.c a
noncomputable def dO:V->SV
 |.B k=>oi k
 |.e a b _=>.e (dO a)<|dO b
inductive R where
 |E (v:V)|b (l:qe V)
noncomputable def R.ctorIdx(a:R):qc:=@R.casesOn (λa=>qc) a (λa=>0) (λa=>1)
structure Sg where
 c:qe V
 d:qc
 y:V
 z:V
 o:qe (qd×SV)
 e:qc
 r:qc
inductive Ou(α:Type)where
 |c (a:α) (s:Sg)|b (w:Nm) (t:SV) (s:Sg)
noncomputable def Ou.ctorIdx{α:Type}(a:Ou α):qc:=@Ou.casesOn α (λa=>qc) a (λa a=>0) (λa a a=>1)
abbrev Mo(α:Type):=Sg->Ou α
noncomputable def ret{α:Type}(a:α):Mo α:=λs=>.c a s
noncomputable def vZ{α:Type}(w:Nm)(t:SV):Mo α:=λs=>.b w t s
noncomputable def fy{α β:Type}(m:Mo α)(f:α->Mo β):Mo β:=λs=>match m s with
 |.c a s=>f a s
 |.b w t s=>.b w t s
noncomputable def eg{α:Type}(m:Mo α):Mo α:=λs=>m {s with e:=s.e+1}
noncomputable def mk{α:Type}(m:Mo α):Mo α:=λs=>m {s with d:=s.d+1}
abbrev AH:=qe V->Mo R
structure Ev where
 v:qd->qk qc
 f:qd->qk AH
noncomputable def Ev.t:Ev:=⟨λa=>ft,λa=>ft⟩
noncomputable def Ev.p(ρ:Ev)(x:qd)(c:qc):Ev:=⟨λy=>if y=x then dA c else ρ.v y,λy=>if y=x then ft else ρ.f y⟩
noncomputable def Ev.u(ρ:Ev)(x:qd)(d:AH):Ev:=⟨λy=>if y=x then ft else ρ.v y,λy=>if y=x then dA d else ρ.f y⟩
def ln(m:Mo R):Mo V:=fy m λr=>match r with
 |.E v=>ret v
 |.b l=>vZ .cB<|.j l.length
noncomputable def un:V:=.B .e
def AC(c:qc):Mo R:=λs=>.c (.E<|s.c.getD c un) s
def D1(c:qc)(v:V):Mo R:=λs=>.c (.E un) {s with c:=s.c.set c v}
def getv(ρ:Ev)(x:qd):Mo R:=match ρ.v x with
 |some c=>AC c
 |none=>ret<|.E un
def oS(ρ:Ev)(x:qd)(v:V):Mo R:=match ρ.v x with
 |some c=>D1 c v
 |none=>ret<|.E un
noncomputable def EJ(g:qd):Mo R:=λs=>if g=1 then .c (.E s.y) s else if g=2 then .c (.E s.z) s else .b ⟨203⟩ (.j g) s
def du(g:qd)(v:V):Mo R:=λs=>
 let s:={s with o:=s.o++[(g,dO v)]}
 if g=1 then .c (.E un) {s with y:=v}else if g=2 then .c (.E un) {s with z:=v}else .b ⟨203⟩ (.j g) s
noncomputable def rV(a b:V):Mo V:=λs=>.c (.e a b<|s.d+1) {s with d:=s.d+1,r:=s.r+1}
noncomputable def mD:qe V->Mo V
 |[]=>ret<|.B .d
 |v::l=>fy (mD l) λw=>rV v w
noncomputable def same:V->V->qw
 |.B k,.B k'=>decide<|k=k'
 |.e _ _ n,.e _ _ m=>n==m
 |_,_=>np
def Pw.z:Pw->Nm
 |.o=>.nI|.c=>.s8|.d=>.vo|.v=>.rG|.g=>⟨131⟩|.e=>.kB
noncomputable def Pw.I:Pw->qc
 |.o|.e=>2
 |_=>1
noncomputable def oq(v:V):qw:=@V.casesOn (λa=>qw) v (λk=>@K.casesOn (λa=>qw) k (λa=>np) (λb=>!b) np np λa=>np) λa a a=>np
noncomputable def aar(v:V):qw:=@V.casesOn (λa=>qw) v (λa=>np) λa a a=>hY
def blR(b:qw):Mo R:=ret<|.E (.B (.q b))
def K0(n:Nm)(f:V->V->V)(a:V):Mo R:=@V.casesOn (λb=>Mo R) a (λk=>vZ n<|oi k) λx y b=>ret<|.E (f x y)
def aga(l:qe V)(f:V->Mo R):Mo R:=@List.casesOn V (λa=>Mo R) l (ret<|.E un) λb a=>f b
def jp(w:Pw)(vs:qe V):Mo R:=@List.casesOn V (λc=>Mo R) vs (ret<|.E un) λa l=>@Pw.casesOn (λc=>Mo R) w (aga l λb=>fy (rV a b) λv=>ret<|.E v) (K0 .s8 (λx c=>x) a) (K0 .vo (λc y=>y) a) (blR<|oq a) (blR<|aar a)<|aga l λb=>blR<|same a b
noncomputable def cT:qe qd->qe V->Ev->(Ev->Mo R)->Mo R
 |x::ps,v::vs,ρ,k=>λs=>cT ps vs (ρ.p x s.c.length) k {s with c:=s.c++[v]}
 |_,_,ρ,k=>k ρ
def gB(ps:qe qd)(rest:qd)(body:Ev->Mo R)(ρ:Ev):AH:=λvs=>
 if vs.length<ps.length\/(ps.length<vs.length/\rest<0)then vZ ⟨110⟩ (.j vs.length)
 else cT ps vs ρ λρ=>if 0<=rest then fy (mD<|vs.drop ps.length) λv s=>body (ρ.p rest s.c.length) {s with c:=s.c++[v]}else body ρ
noncomputable def manyR(vs:qe V):R:=match vs with
 |[v]=>.E v
 |vs=>.b vs
mutual
noncomputable def ev:E->Ev->Mo R
 |.u k,_=>eg<|ret (.E<|.B k)
 |.s x,ρ=>eg<|getv ρ x
 |.B g,_=>eg<|EJ g
 |.F x e,ρ=>eg<|fy (ln<|ev e ρ) λv=>oS ρ x v
 |.G g e,ρ=>eg<|fy (ln<|ev e ρ) λv=>du g v
 |.v a b c,ρ=>eg (fy (ln<|ev a ρ) λv=>if oq v then ev c ρ else ev b ρ)
 |.y l e,ρ=>eg<|fy (LL l ρ) λh=>ev e ρ
 |.A w l,ρ=>eg<|fy (oz l ρ) λvs=>jp w vs
 |.D _ ps rest b l,ρ=>eg<|eg (mk<|fy (oz l ρ) λvs=>gB ps rest (ev b) ρ vs)
 |.H _ f _ ps rest d b,ρ=>eg<|eg (mk<|eg (mk<|ev b (ρ.u f<|gB ps rest (ev d) ρ)))
 |.L f l,ρ=>eg<|eg (fy (oz l ρ) λvs=>match ρ.f f with|some d=>d vs|none=>ret<|.E un)
 |.I l,ρ=>eg<|eg (fy (oz l ρ) λvs=>ret<|manyR vs)
noncomputable def oz:qe E->Ev->Mo (qe V)
 |[],_=>ret []
 |e::l,ρ=>fy (ln<|ev e ρ) λv=>fy (oz l ρ) λvs=>ret<|v::vs
noncomputable def LL:qe E->Ev->Mo Z8
 |[],_=>ret ()
 |e::l,ρ=>fy (ev e ρ) λa=>LL l ρ
end
inductive Qm where
 |E (v:SV)|b (l:qe SV)|a (w:Nm) (t:SV)
structure oL where
 c:Qm
 o:qe (qd×SV)
 y:SV
 z:SV
noncomputable def At:Sg:=⟨[],0,.B (.j 5),.B (.q np),[],0,0⟩
def NF:Ou R->oL
 |.c (.E v) s=>⟨.E<|dO v,s.o,dO s.y,dO s.z⟩
 |.c (.b l) s=>⟨.b<|l.map dO,s.o,dO s.y,dO s.z⟩
 |.b w t s=>⟨.a w t,s.o,dO s.y,dO s.z⟩
def rS(e:E):oL:=NF<|ev e Ev.t At
structure Fx where
 b:qd->qc
 a:qd->qw
noncomputable def Pw.b:Pw->qw
 |.c|.d=>np
 |_=>hY
mutual
noncomputable def quiet(F:Fx):E->qw
 |.u _=>hY
 |.s x=>!F.a x
 |.v a b c=>quiet F a&&quiet F b&&quiet F c
 |.y l e=>oW F l&&quiet F e
 |.A w l=>w.b&&oW F l
 |.D _ ps rest b l=>decide (rest<0)&&decide (ps.length=l.length)&&oW F l&&quiet F b
 |.H _ _ _ _ _ _ b=>quiet F b
 |_=>np
noncomputable def oW(F:Fx):qe E->qw
 |[]=>hY
 |e::l=>quiet F e&&oW F l
end
noncomputable def gf:E->qw
 |.v _ b c=>gf b&&gf c
 |.y _ e=>gf e
 |.D _ ps rest b l=>decide (rest<0)&&decide (ps.length=l.length)&&gf b
 |.H _ _ _ _ _ _ b=>gf b
 |.L _ _=>np
 |.I _=>np
 |_=>hY
abbrev Sb:=qd->qk E
mutual
noncomputable def sub(g:Sb):E->E
 |.u k=>.u k
 |.s x=>(g x).getD (.s x)
 |.B g=>.B g
 |.F x e=>.F x<|sub g e
 |.G x e=>.G x<|sub g e
 |.v a b c=>.v (sub g a) (sub g b)<|sub g c
 |.y l e=>.y (iI g l)<|sub g e
 |.A w l=>.A w<|iI g l
 |.D lb ps rest b l=>.D lb ps rest (sub g b)<|iI g l
 |.H lb f j2 ps rest d b=>.H lb f j2 ps rest (sub g d)<|sub g b
 |.L f l=>.L f<|iI g l
 |.I l=>.I<|iI g l
noncomputable def iI(g:Sb):qe E->qe E
 |[]=>[]
 |e::l=>sub g e::iI g l
end
noncomputable def K.f:K->qw
 |.y _=>np
 |_=>hY
def cj(F:Fx)(x:qd):E->qw
 |.s y=>!F.a x&&!F.a y
 |.u k=>!F.a x&&(k.f||F.b x==1)
 |_=>np
noncomputable def iX(p:qd->E->qw)(ps:qe qd)(l:qe E):qe (qd×E):=(ps.zip l).filter λq=>p q.1 q.2
def bU(p:qd->E->qw)(ps:qe qd)(l:qe E):qe (qd×E):=iX (λx e=>!p x e) ps l
noncomputable def gN(g:qe (qd×E)):Sb:=λx=>(g.find? λp=>decide<|p.1=x).map (·.2)
noncomputable def without(lb:qd)(s:qe (qd×E))(b:E):E:=match s with
 |[]=>b
 |s=>.D lb (s.map (·.1)) (-1) b (s.map (·.2))
noncomputable def kc(ps:qe qd)(rest:qd)(l:qe E):qw:=decide (rest<0)&&decide (ps.length=l.length)
def oE(F:Fx)(lb:qd)(ps:qe qd)(rest:qd)(b:E)(l:qe E):E:=
 if kc ps rest l then(match iX (cj F) ps l with
  |[]=>.D lb ps rest b l
  |g=>without lb (bU (cj F) ps l) (sub (gN g) b))
 else .D lb ps rest b l
mutual
noncomputable def cp(F:Fx):E->E
 |.u k=>.u k
 |.s x=>.s x
 |.B g=>.B g
 |.F x e=>.F x<|cp F e
 |.G x e=>.G x<|cp F e
 |.v a b c=>.v (cp F a) (cp F b)<|cp F c
 |.y l e=>.y (cps F l)<|cp F e
 |.A w l=>.A w<|cps F l
 |.D lb ps rest b l=>oE F lb ps rest (cp F b)<|cps F l
 |.H lb f j2 ps rest d b=>.H lb f j2 ps rest (cp F d)<|cp F b
 |.L f l=>.L f<|cps F l
 |.I l=>.I<|cps F l
noncomputable def cps(F:Fx):qe E->qe E
 |[]=>[]
 |e::l=>cp F e::cps F l
end
noncomputable def bq(F:Fx)(x:qd):qw:=F.b x==0
def cS(F:Fx)(x:qd)(e:E):qw:=bq F x&&!F.a x&&quiet F e
def oB(F:Fx)(x:qd)(e:E):E:=
 if bq F x then(if quiet F e then .u .e else if gf e then .y [e] (.u .e)else .F x e)else .F x e
def Bv(F:Fx)(lb:qd)(ps:qe qd)(rest:qd)(b:E)(l:qe E):E:=match ps,l with
 |[x],[e]=>if bq F x&&!F.a x&&gf e then .y [e] b else .D lb ps rest b l
 |_,_=>.D lb ps rest b l
def lF(F:Fx)(lb:qd)(ps:qe qd)(rest:qd)(b:E)(l:qe E):E:=
 if kc ps rest l then(match iX (cS F) ps l with
  |[]=>Bv F lb ps rest b l
  |_=>without lb (bU (cS F) ps l) b)
 else .D lb ps rest b l
mutual
noncomputable def dr(F:Fx):E->E
 |.u k=>.u k
 |.s x=>.s x
 |.B g=>.B g
 |.F x e=>oB F x<|dr F e
 |.G x e=>.G x<|dr F e
 |.v a b c=>.v (dr F a) (dr F b)<|dr F c
 |.y l e=>.y (mF F l)<|dr F e
 |.A w l=>.A w<|mF F l
 |.D lb ps rest b l=>lF F lb ps rest (dr F b)<|mF F l
 |.H lb f j2 ps rest d b=>if bq F f&&!F.a f then dr F b else .H lb f j2 ps rest (dr F d) (dr F b)
 |.L f l=>.L f<|mF F l
 |.I l=>.I<|mF F l
noncomputable def mF(F:Fx):qe E->qe E
 |[]=>[]
 |e::l=>dr F e::mF F l
end
mutual
noncomputable def nA(x:qd):E->qc
 |.s y=>if y=x then 1 else 0
 |.F _ e|.G _ e=>nA x e
 |.v a b c=>nA x a+nA x b+nA x c
 |.y l e=>mO x l+nA x e
 |.A _ l|.I l=>mO x l
 |.D _ _ _ b l=>nA x b+mO x l
 |.H _ _ _ _ _ d b=>nA x b+nA x d
 |.L f l=>(if f=x then 1 else 0)+mO x l
 |_=>0
noncomputable def mO(x:qd):qe E->qc
 |[]=>0
 |e::l=>nA x e+mO x l
end
mutual
noncomputable def fK(x:qd):E->qc
 |.F y e=>(if y=x then 1 else 0)+fK x e
 |.G _ e=>fK x e
 |.v a b c=>fK x a+fK x b+fK x c
 |.y l e=>f6 x l+fK x e
 |.A _ l|.I l|.L _ l=>f6 x l
 |.D _ _ _ b l=>fK x b+f6 x l
 |.H _ _ _ _ _ d b=>fK x b+fK x d
 |_=>0
noncomputable def f6(x:qd):qe E->qc
 |[]=>0
 |e::l=>fK x e+f6 x l
end
def cY(e:E):Fx:=⟨λx=>nA x e,λx=>0<fK x e⟩
noncomputable def VR(R:qc->qc->Prop):V->V->Prop
 |.B k,.B k'=>k=k'
 |.e a b n,.e d b' c=>R n c/\VR R a d/\VR R b b'
 |_,_=>qp
structure Wr where
 k:qc->qc->Prop
 r:qc->qc->Prop
 A:qc->V->Prop
 D:qc->V->Prop
 B:qc->Prop
 F:qc->Prop
 G:qc->Prop
 I:qc->Prop
structure Wr.e(a b:Wr):Prop where
 k:∀c d,a.k c d->b.k c d
 r:∀c d,a.r c d->b.r c d
 A:∀c v,a.A c v->b.A c v
 D:∀c v,a.D c v->b.D c v
 B:∀c,a.B c->b.B c
 F:∀c,a.F c->b.F c
 G:∀c,a.G c->b.G c
 I:∀c,a.I c->b.I c
theorem Wr.e.j(a:Wr):a.e a:=⟨λb b h=>h,λb b h=>h,λb b h=>h,λb b h=>h,λb h=>h,λb h=>h,λb h=>h,λb h=>h⟩
theorem Wr.e.i{a b c:Wr}(x:a.e b)(y:b.e c):a.e c:=
 ⟨λd d h=>y.k _ _<|x.k _ _ h,λd d h=>y.r _ _<|x.r _ _ h,λd d h=>y.A _ _<|x.A _ _ h,λd d h=>y.D _ _<|x.D _ _ h,λd h=>y.B _<|x.B _ h,λd h=>y.F _<|x.F _ h,λd h=>y.G _<|x.G _ h,λd h=>y.I _<|x.I _ h⟩
theorem VR.G{R:qc->qc->Prop}(h:∀c d,R c d->e c d):∀{v w:V},VR R v w->VR e v w
 |.B _,.B _,x=>x
 |.e _ _ _,.e _ _ _,⟨a,b,c⟩=>⟨h _ _ a,VR.G h b,VR.G h c⟩
 |.B _,.e _ _ _,x=>x.elim
 |.e _ _ _,.B _,x=>x.elim
theorem VR.i{R:qc->qc->Prop}:∀{v w:V},VR R v w->Internal.dO v=Internal.dO w
 |.B _,.B _,x=>qh oi x
 |.e _ _ _,.e _ _ _,⟨_,b,c⟩=>by show SV.e _ _=SV.e _ _;rw[VR.i b,VR.i c]
 |.B _,.e _ _ _,x=>x.elim
 |.e _ _ _,.B _,x=>x.elim
theorem VR.g{R:qc->qc->Prop}(h:∀c d,R c d->e c d)(inj:∀a b c,e a c->e b c->a=b):∀{v u w:V},VR e v w->VR R u w->v=u
 |.B _,.B _,.B _,x,y=>by cases x;cases y;rfl
 |.e _ _ _,.e _ _ _,.e _ _ _,⟨a,b,c⟩,⟨f,b',c'⟩=>by rw[VR.g h inj b b',VR.g h inj c c',inj _ _ _ a<|h _ _ f]
 |.B _,_,.e _ _ _,x,_=>x.elim
 |.e _ _ _,_,.B _,x,_=>x.elim
 |.B _,.e _ _ _,.B _,_,y=>y.elim
 |.e _ _ _,.B _,.e _ _ _,_,y=>y.elim
def cellOf(s:Sg)(c:qc):V:=s.c.getD c un
structure n9(W:Wr)(s s':Sg):Prop where
 N:∀a b c,W.r a b->W.r a c->b=c
 M:∀a b c,W.r a c->W.r b c->a=b
 K:∀a b,W.r a b->a<=s.d/\b<=s'.d
 O:∀a b c,W.k a b->W.k a c->b=c
 P:∀a b c,W.k a c->W.k b c->a=b
 J:∀a b,W.k a b->a<s.c.length/\b<s'.c.length
 E:∀a b,W.k a b->VR W.r (cellOf s a) (cellOf s' b)
 A:∀c v,W.A c v->c<s.c.length/\cellOf s c=v
 D:∀c v,W.D c v->c<s'.c.length/\cellOf s' c=v
 B:∀c v,W.B c->W.A c v->qp
 F:∀c v,W.F c->W.D c v->qp
 L:∀c,W.B c->c<s.c.length
 Q:∀c,W.F c->c<s'.c.length
 G:∀c d,W.G c->W.k c d->qp
 R:∀c,W.G c->c<s.c.length
 I:∀c d,W.I d->W.k c d->qp
 S:∀c,W.I c->c<s'.c.length
 y:VR W.r s.y s'.y
 z:VR W.r s.z s'.z
 C:s.o=s'.o
abbrev Vg(α β:Type):=Wr->α->β->Prop
def W2{α β:Type}(W:Wr)(oV:Vg α β):Ou α->Ou β->Prop
 |.c a s,.c b s'=>oV W a b/\n9 W s s'
 |.b w t s,.b w' t' s'=>w=w'/\t=t'/\n9 W s s'
 |_,_=>qp
def ee{α β:Type}(W:Wr)(oV:Vg α β)(m:Mo α)(m':Mo β):Prop:=∀a,W.e a->∀s s',n9 a s s'->∃b,a.e b/\W2 b oV (m s) (m' s')
theorem ee.G{α β:Type}{W a:Wr}{oV:Vg α β}{m:Mo α}{m':Mo β}(h:ee W oV m m')(l:W.e a):ee a oV m m':=λb l₁ s s' x=>h b (l.i l₁) s s' x
abbrev Sa:Vg V V:=λW=>VR W.r
inductive uo(r:qc->qc->Prop):qe V->qe V->Prop
 |t:uo r [] []
 |o{v w l m}:VR r v w->uo r l m->uo r (v::l) (w::m)
theorem uo.G{R:qc->qc->Prop}(h:∀c d,R c d->b c d)(x:uo R l m):uo b l m:=by
 induction x with
 |t=>exact .t
 |o a _ ih=>exact .o (a.G h) ih
theorem uo.u(x:uo r l m):l.length=m.length:=by
 induction x with
 |t=>rfl
 |o _ _ ih=>exact qh xZ ih
theorem uo.I:∀(n:qc) {l m:qe V},uo r l m->uo r (l.drop n) (m.drop n)
 |0,_,_,x=>x
 |_+1,_,_,.t=>.t
 |n+1,_,_,.o _ x=>uo.I n x
theorem uo.i(x:uo r l m):l.map Internal.dO=m.map Internal.dO:=by
 induction x with
 |t=>rfl
 |o a _ ih=>rw[ahH,ahH,a.i,ih]
def cL:Vg R R:=λW a b=>match a,b with
 |.E v,.E w=>VR W.r v w
 |.b l,.b m=>uo W.r l m
 |_,_=>qp
section
variable{α β:Type}{W:Wr}{oV:Vg α β}{m:Mo α}{m':Mo β}
theorem ct(h:∀c,W.e c->oV c a b):ee W oV (ret a) (ret b):=λc l s s' x=>⟨c,.j _,h c l,x⟩
theorem w8:ee W oV (vZ w t) (vZ w t):=λb a a a x=>⟨b,.j _,dq,dq,x⟩
theorem bt{γ δ:Type}{adM:Vg γ δ}{f:α->Mo γ}{f':β->Mo δ}(h:ee W oV m m')(k:∀c,W.e c->∀a b,oV c a b->ee c adM (f a) (f' b)):ee W adM (fy m f) (fy m' f'):=λc l s s' x=>by
 obtain⟨d,l₂,o⟩:=h c l s s' x;unfold fy;generalize m s=u at o;generalize m' s'=e at o;cases u with
 |c a t=>cases e with
  |c b t'=>
   obtain⟨g,i,p⟩:=k d (l.i l₂) a b o.1 d (.j _) t t' o.2;exact⟨g,l₂.i i,p⟩
  |b=>exact o.elim
 |b w t s=>cases e with
  |c=>exact o.elim
  |b w' t' s'=>exact⟨d,l₂,o⟩
theorem n9.H(x:n9 W s s')(c:t.c=s.c)(m:s.d<=t.d)(a:t.y=s.y)(b:t.z=s.z)(d:t.o=s.o)
  (c':t'.c=s'.c)(m':s'.d<=t'.d)(e:t'.y=s'.y)(b':t'.z=s'.z)(d':t'.o=s'.o):n9 W t t':=by
 obtain⟨cs,r,h1,h2,tr,u,o⟩:=t;obtain⟨l,i,k,j,f,n,g⟩:=t';dsimp only at c m a b d c' m' e b' d';subst c a b d c' e b' d';exact⟨x.N,x.M,λp q h=>⟨qg (x.K p q h).1 m,qg (x.K p q h).2 m'⟩,x.O,x.P,x.J,x.E,x.A,x.D,x.B,x.F,x.L,x.Q,x.G,x.R,x.I,x.S,x.y,x.z,x.C⟩
theorem eV(h:ee W oV m m'):ee W oV (eg m) m':=λb l a a x=>h b l _ _<|x.H dq (qm _) dq dq dq dq (qm _) dq dq dq
theorem ij(h:ee W oV m m'):ee W oV m (eg m'):=λb l a a x=>h b l _ _<|x.H dq (qm _) dq dq dq dq (qm _) dq dq dq
theorem pN(h:ee W oV m m'):ee W oV (mk m) m':=λb l a a x=>h b l _ _<|x.H dq (xO _) dq dq dq dq (qm _) dq dq dq
theorem B7(h:ee W oV m m'):ee W oV m (mk m'):=λb l a a x=>h b l _ _<|x.H dq (qm _) dq dq dq dq (xO _) dq dq dq
theorem aY(h:ee W oV m m'):ee W oV (eg m) (eg m'):=eV<|ij h
theorem uG(h:ee W oV m m'):ee W oV (mk m) (mk m'):=pN<|B7 h
end
theorem gS(h:ee W cL m m'):ee W Sa (ln m) (ln m'):=bt h λc l a b r=>by
 cases a with
 |E v=>cases b with
  |E w=>exact ct λd l₂=>VR.G l₂.r r
  |b=>exact r.elim
 |b l=>cases b with
  |E w=>exact r.elim
  |b m=>
   have r:uo c.r l m:=r;show ee c Sa (vZ .cB<|.j l.length) (vZ .cB<|.j m.length);rw[r.u];exact w8
theorem DS(h:VR W.r a m)(k:VR W.r b b'):ee W Sa (rV a b) (rV m b'):=λj l s s' x=>by
 have fr:∀c d,j.r c d->c≠s.d+1/\d≠s'.d+1:=λc d q=>⟨λe=>by have:=(x.K c d q).1;exact ags e this,λe=>by have:=(x.K c d q).2;exact ags e this⟩
 refine⟨{j with r:=λc d=>j.r c d\/(c=s.d+1/\d=s'.d+1)},⟨λg g h=>h,λg g h=>.inl h,λg g h=>h,λg g h=>h,λg h=>h,λg h=>h,λg h=>h,λg h=>h⟩,⟨.inr ⟨dq,dq⟩,(h.G l.r).G λg g=>.inl,(k.G l.r).G λg g=>.inl⟩,?_⟩
 refine⟨λp q t e i=>?_,λp q t e i=>?_,λp q e=>?_,x.O,x.P,x.J,λp q e=>(x.E p q e).G λg g=>.inl,x.A,x.D,x.B,x.F,x.L,x.Q,x.G,x.R,x.I,x.S,x.y.G λg g=>.inl,x.z.G λg g=>.inl,x.C⟩
 ·rcases e with e|⟨e,f⟩<;>rcases i with i|⟨i,f'⟩
  ·exact x.N _ _ _ e i
  ·exact qH i (fr _ _ e).1
  ·exact qH e (fr _ _ i).1
  ·rw[f,f']
 ·rcases e with e|⟨e,f⟩<;>rcases i with i|⟨i,f'⟩
  ·exact x.M _ _ _ e i
  ·exact qH f' (fr _ _ e).2
  ·exact qH f (fr _ _ i).2
  ·rw[e,i]
 ·rcases e with e|⟨e,f⟩
  ·exact⟨xl (x.K _ _ e).1,xl (x.K _ _ e).2⟩
  ·exact⟨qL e,qL f⟩
theorem MQ(h:uo W.r l m):ee W Sa (mD l) (mD m):=by
 induction h with
 |t=>exact ct λb b=>dq
 |o a _ ih=>exact bt ih λc le v w r=>DS (a.G le.r) r
set_option tactic.hygienic true in
theorem R0(x:n9 W s s')(h:VR W.r a c)(k:VR W.r b b'):same a b=same c b':=by
 cases a<;>cases c<;>first|exact h.elim|skip
 all_goals cases b<;>cases b'<;>first|exact k.elim|skip
 ·show decide _=decide _;rw[show _=_ from h,show _=_ from k]
 all_goals first|rfl|skip
 rename_i n _ _ d _ _ m _ _ m';show(n==m)=(d==m');have e1:=h.1;have e2:=k.1;by_cases q:n=m
 ·subst q;rw[x.N _ _ _ e1 e2,qZ,qZ]
 ·have q':¬d=m':=λe=>q (by subst e;exact x.M _ _ _ e1 e2)
  rw[ael.mpr q,ael.mpr q']
noncomputable def eT(v:V)(s:Sg):Sg:={s with c:=s.c++[v]}
theorem t6(h:c<s.c.length):cellOf (eT v s) c=cellOf s c:=by
 show(s.c++[v]).getD c un=s.c.getD c un;simp only[List.getD_eq_getElem?_getD,List.getElem?_append_left h]
theorem pB(s:Sg)(v:V):cellOf (eT v s) s.c.length=v:=by
 show(s.c++[v]).getD s.c.length un=v;simp only[List.getD_eq_getElem?_getD,List.getElem?_append_right<|Nat.le_refl _,Nat.sub_self];rfl
theorem gb(s:Sg)(v:V):(eT v s).c.length=s.c.length+1:=by
 show(s.c++[v]).length=_;rw[qs];rfl
section
variable{W:Wr}{s:Sg}{v v':V}
theorem n9.VQ(x:n9 W s s'):n9 W (eT v s) s':=
 ⟨x.N,x.M,x.K,x.O,x.P,λa b h=>⟨by rw[gb];exact xW (x.J a b h).1,(x.J a b h).2⟩,λa b h=>by rw[t6 (x.J a b h).1];exact x.E a b h,
  λc w h=>⟨by rw[gb];exact xW (x.A c w h).1,by rw[t6 (x.A c w h).1];exact(x.A c w h).2⟩,x.D,x.B,x.F,λc h=>by rw[gb];exact xW (x.L c h),x.Q,x.G,λc h=>by rw[gb];exact xW (x.R c h),x.I,x.S,x.y,x.z,x.C⟩
theorem n9.VP(x:n9 W s s'):n9 W s (eT v' s'):=
 ⟨x.N,x.M,x.K,x.O,x.P,λa b h=>⟨(x.J a b h).1,by rw[gb];exact xW (x.J a b h).2⟩,λa b h=>by rw[t6 (x.J a b h).2];exact x.E a b h,
  x.A,λc w h=>⟨by rw[gb];exact xW (x.D c w h).1,by rw[t6 (x.D c w h).1];exact(x.D c w h).2⟩,x.B,x.F,x.L,λc h=>by rw[gb];exact xW (x.Q c h),x.G,x.R,x.I,λc h=>by rw[gb];exact xW (x.S c h),x.y,x.z,x.C⟩
noncomputable def Wr.Y(W:Wr)(c c':qc):Wr:={W with k:=λa b=>W.k a b\/(a=c/\b=c')}
noncomputable def Wr.T(W:Wr)(c:qc)(v:V):Wr:={W with A:=λa w=>W.A a w\/(a=c/\w=v)}
noncomputable def Wr.Z(W:Wr)(c:qc)(v:V):Wr:={W with D:=λa w=>W.D a w\/(a=c/\w=v)}
noncomputable def Wr.U(W:Wr)(c:qc):Wr:={W with B:=λa=>W.B a\/a=c}
noncomputable def Wr.X(W:Wr)(c:qc):Wr:={W with F:=λa=>W.F a\/a=c}
noncomputable def Wr.wL(W:Wr)(c:qc):Wr:={W with G:=λa=>W.G a\/a=c}
noncomputable def Wr.ub(W:Wr)(c:qc):Wr:={W with I:=λa=>W.I a\/a=c}
theorem Tl(W:Wr)(c c':qc):W.e (W.Y c c'):=⟨λa a=>.inl,λa a h=>h,λa a h=>h,λa a h=>h,λa h=>h,λa h=>h,λa h=>h,λa h=>h⟩
theorem Ew(W:Wr)(c:qc)(v:V):W.e (W.T c v):=⟨λa a h=>h,λa a h=>h,λa a=>.inl,λa a h=>h,λa h=>h,λa h=>h,λa h=>h,λa h=>h⟩
theorem Ke(W:Wr)(c:qc)(v:V):W.e (W.Z c v):=⟨λa a h=>h,λa a h=>h,λa a h=>h,λa a=>.inl,λa h=>h,λa h=>h,λa h=>h,λa h=>h⟩
theorem Eu(W:Wr)(c:qc):W.e (W.U c):=⟨λa a h=>h,λa a h=>h,λa a h=>h,λa a h=>h,λa=>.inl,λa h=>h,λa h=>h,λa h=>h⟩
theorem A9(W:Wr)(c:qc):W.e (W.X c):=⟨λa a h=>h,λa a h=>h,λa a h=>h,λa a h=>h,λa h=>h,λa=>.inl,λa h=>h,λa h=>h⟩
theorem GA(W:Wr)(c:qc):W.e (W.wL c):=⟨λa a h=>h,λa a h=>h,λa a h=>h,λa a h=>h,λa h=>h,λa h=>h,λa=>.inl,λa h=>h⟩
theorem Ey(W:Wr)(c:qc):W.e (W.ub c):=⟨λa a h=>h,λa a h=>h,λa a h=>h,λa a h=>h,λa h=>h,λa h=>h,λa h=>h,λa=>.inl⟩
theorem n9.Y(x:n9 W s s')(h:∀d,¬W.k c d)(h':∀d,¬W.k d c')(b:c<s.c.length)(b':c'<s'.c.length)(e:VR W.r (cellOf s c) (cellOf s' c'))(nd:¬W.G c)(g:¬W.I c'):n9 (W.Y c c') s s':=by
 refine⟨x.N,x.M,x.K,λp q t e a=>?_,λp q t e a=>?_,λp q e=>?_,λp q e=>?_,x.A,x.D,x.B,x.F,x.L,x.Q,λp q d e=>?_,x.R,λp q d e=>?_,x.S,x.y,x.z,x.C⟩
 ·rcases e with e|⟨e,f⟩<;>rcases a with a|⟨a,f'⟩
  ·exact x.O _ _ _ e a
  ·exact qH (a▸e)<|h _
  ·exact qH (e▸a)<|h _
  ·rw[f,f']
 ·rcases e with e|⟨e,f⟩<;>rcases a with a|⟨a,f'⟩
  ·exact x.P _ _ _ e a
  ·exact qH (f'▸e)<|h' _
  ·exact qH (f▸a)<|h' _
  ·rw[e,a]
 ·rcases e with e|⟨rfl,rfl⟩
  ·exact x.J _ _ e
  ·exact⟨b,b'⟩
 ·rcases e with e|⟨rfl,rfl⟩
  ·exact x.E _ _ e
  ·assumption
 ·rcases e with e|⟨rfl,rfl⟩
  ·exact x.G _ _ d e
  ·exact nd d
 ·rcases e with e|⟨rfl,rfl⟩
  ·exact x.I _ _ d e
  ·exact g d
theorem n9.T(x:n9 W s s')(b:c<s.c.length)(e:cellOf s c=v)(h:¬W.B c):n9 (W.T c v) s s':=
 ⟨x.N,x.M,x.K,x.O,x.P,x.J,x.E,λp w q=>by
  rcases q with q|⟨rfl,rfl⟩
  ·exact x.A _ _ q
  ·exact⟨b,e⟩,x.D,λp w m q=>by
  rcases q with q|⟨rfl,rfl⟩
  ·exact x.B _ _ m q
  ·exact h m,x.F,x.L,x.Q,x.G,x.R,x.I,x.S,x.y,x.z,x.C⟩
theorem n9.Z(x:n9 W s s')(b:c<s'.c.length)(e:cellOf s' c=v)(h:¬W.F c):n9 (W.Z c v) s s':=
 ⟨x.N,x.M,x.K,x.O,x.P,x.J,x.E,x.A,λp w q=>by
  rcases q with q|⟨rfl,rfl⟩
  ·exact x.D _ _ q
  ·exact⟨b,e⟩,x.B,λp w m q=>by
  rcases q with q|⟨rfl,rfl⟩
  ·exact x.F _ _ m q
  ·exact h m,x.L,x.Q,x.G,x.R,x.I,x.S,x.y,x.z,x.C⟩
theorem n9.U(x:n9 W s s')(b:c<s.c.length)(h:∀v,¬W.A c v):n9 (W.U c) s s':=
 ⟨x.N,x.M,x.K,x.O,x.P,x.J,x.E,x.A,x.D,λp w m q=>by
  rcases m with m|rfl
  ·exact x.B _ _ m q
  ·exact h _ q,x.F,λp m=>by
  rcases m with m|rfl
  ·exact x.L _ m
  ·exact b,x.Q,x.G,x.R,x.I,x.S,x.y,x.z,x.C⟩
theorem n9.X(x:n9 W s s')(b:c<s'.c.length)(h:∀v,¬W.D c v):n9 (W.X c) s s':=
 ⟨x.N,x.M,x.K,x.O,x.P,x.J,x.E,x.A,x.D,x.B,λp w m q=>by
  rcases m with m|rfl
  ·exact x.F _ _ m q
  ·exact h _ q,x.L,λp m=>by
  rcases m with m|rfl
  ·exact x.Q _ m
  ·exact b,x.G,x.R,x.I,x.S,x.y,x.z,x.C⟩
theorem n9.wL(x:n9 W s s')(b:c<s.c.length)(h:∀d,¬W.k c d):n9 (W.wL c) s s':=
 ⟨x.N,x.M,x.K,x.O,x.P,x.J,x.E,x.A,x.D,x.B,x.F,x.L,x.Q,λp q d e=>by
  rcases d with d|rfl
  ·exact x.G _ _ d e
  ·exact h _ e,λp d=>by
  rcases d with d|rfl
  ·exact x.R _ d
  ·exact b,x.I,x.S,x.y,x.z,x.C⟩
theorem n9.ub(x:n9 W s s')(b:c<s'.c.length)(h:∀d,¬W.k d c):n9 (W.ub c) s s':=
 ⟨x.N,x.M,x.K,x.O,x.P,x.J,x.E,x.A,x.D,x.B,x.F,x.L,x.Q,x.G,x.R,λp q d e=>by
  rcases d with d|rfl
  ·exact x.I _ _ d e
  ·exact h _ e,λp d=>by
  rcases d with d|rfl
  ·exact x.S _ d
  ·exact b,x.y,x.z,x.C⟩
end
def CR(W:Wr)(st:qw)(c c':qc):Prop:=W.k c c'/\(st=hY->W.B c/\W.F c')/\(st=np->∃v v',W.A c v/\W.D c' v'/\VR W.r v v')
theorem CR.G{st:qw}(x:CR W st c c')(l:W.e f):CR f st c c':=
 ⟨l.k _ _ x.1,λe=>⟨l.B _ (x.2.1 e).1,l.F _ (x.2.1 e).2⟩,λe=>let⟨v,v',a,b,d⟩:=x.2.2 e;⟨v,v',l.A _ _ a,l.D _ _ b,d.G l.r⟩⟩
section
variable{W:Wr}{v v':V}
theorem pM{α β:Type}{oV:Vg α β}(st:qw){b:qc->Mo α}{b':qc->Mo β}(h:VR W.r v v')(k:∀a,W.e a->∀c c',CR a st c c'->ee a oV (b c) (b' c')):
  ee W oV (λs=>b s.c.length<|eT v s) (λs=>b' s.c.length<|eT v' s):=λa l s s' x=>by
 have t:n9 a (eT v s) (eT v' s'):=x.VQ.VP;have b1:s.c.length<(eT v s).c.length:=by rw[gb];exact xS _
 have b2:s'.c.length<(eT v' s').c.length:=by rw[gb];exact xS _
 have n:=t.Y (c:=s.c.length) (c':=s'.c.length) (λd q=>xr _ (x.J _ _ q).1) (λd q=>xr _ (x.J _ _ q).2) b1 b2 (by rw[pB,pB];exact h.G l.r) (λq=>xr _<|x.R _ q) λq=>xr _<|x.S _ q
 have l2:=Tl a s.c.length s'.c.length;cases st with
 |true=>
  have i:=n.U b1 λw q=>xr _ (x.A _ _ q).1;have g:=i.X b2 λw q=>xr _ (x.D _ _ q).1;have f:=(l2.i<|Eu _ s.c.length).i (A9 _ s'.c.length);obtain⟨j,m,o⟩:=k _ (l.i f) _ _ ⟨.inr ⟨rfl,rfl⟩,λp=>⟨.inr rfl,.inr rfl⟩,(λe=>nomatch e)⟩ _ (.j _) _ _ g
  exact⟨j,f.i m,o⟩
 |false=>
  have i:=n.T b1 (pB s v) λq=>xr _<|x.L _ q;have g:=i.Z b2 (pB s' v') λq=>xr _<|x.Q _ q;have f:=(l2.i<|Ew _ s.c.length v).i (Ke _ s'.c.length v');obtain⟨j,m,o⟩:=k _ (l.i f) _ _ ⟨.inr ⟨rfl,rfl⟩,(λe=>nomatch e),λp=>⟨v,v',.inr ⟨rfl,rfl⟩,.inr ⟨rfl,rfl⟩,h.G l.r⟩⟩ _ (.j _) _ _ g
  exact⟨j,f.i m,o⟩
theorem k9{α β:Type}{oV:Vg α β}(st:qw){b:qc->Mo α}{m':Mo β}(k:∀a,W.e a->∀c,(st=hY->a.B c/\a.G c)->(st=np->a.A c v)->ee a oV (b c) m'):ee W oV (λs=>b s.c.length (eT v s)) m':=λa l s s' x=>by
 have j:n9 a (eT v s) s':=x.VQ;have b1:s.c.length<(eT v s).c.length:=by rw[gb];exact xS _
 cases st with
 |true=>
  have g:=(j.U b1 λw q=>xr _ (x.A _ _ q).1).wL b1 λd q=>xr _ (x.J _ _ q).1;have f:=(Eu a s.c.length).i (GA _ s.c.length);obtain⟨h,i,o⟩:=k _ (l.i f) _ (λm=>⟨.inr rfl,.inr rfl⟩) (λe=>nomatch e) _ (.j _) _ _ g
  exact⟨h,f.i i,o⟩
 |false=>
  have g:=j.T b1 (pB s v) λq=>xr _<|x.L _ q;have f:=Ew a s.c.length v;obtain⟨h,i,o⟩:=k _ (l.i f) _ (λe=>nomatch e) (λm=>.inr ⟨rfl,rfl⟩) _ (.j _) _ _ g
  exact⟨h,f.i i,o⟩
theorem uF{α β:Type}{oV:Vg α β}(st:qw){m:Mo α}{b':qc->Mo β}(k:∀a,W.e a->∀c,(st=hY->a.F c/\a.I c)->ee a oV m (b' c)):ee W oV m (λs=>b' s.c.length (eT v' s)):=λa l s s' x=>by
 have b:n9 a s (eT v' s'):=x.VP;have b1:s'.c.length<(eT v' s').c.length:=by rw[gb];exact xS _
 cases st with
 |true=>
  have g:=(b.X b1 λw q=>xr _ (x.D _ _ q).1).ub b1 λd q=>xr _ (x.J _ _ q).2;have f:=(A9 a s'.c.length).i (Ey _ s'.c.length);obtain⟨h,i,o⟩:=k _ (l.i f) _ (λj=>⟨.inr rfl,.inr rfl⟩) _ (.j _) _ _ g;exact⟨h,f.i i,o⟩
 |false=>exact k a l _ (λe=>nomatch e) _ (.j _) _ _ b
theorem MS(h:W.k c c'):ee W cL (AC c) (AC c'):=λa l s s' x=>⟨a,.j _,x.E _ _<|l.k _ _ h,x⟩
theorem JM(a:W.A c v)(b:W.D c' v')(h:VR W.r v v'):ee W cL (AC c) (AC c'):=λd l s s' x=>
 ⟨d,.j _,by
  show VR d.r (cellOf s c) (cellOf s' c');rw[(x.A _ _ (l.A _ _ a)).2,(x.D _ _ (l.D _ _ b)).2];exact h.G l.r,x⟩
theorem DW(a:W.A c (.B k)):ee W cL (AC c) (ret (.E (.B k))):=λb l s s' x=>
 ⟨b,.j _,by
  show VR b.r (cellOf s c) (.B k);rw[(x.A _ _ (l.A _ _ a)).2];exact dq,x⟩
theorem ki(s:Sg)(c d:qc)(v:V):cellOf {s with c:=s.c.set c v} d=if c=d/\c<s.c.length then v else cellOf s d:=by
 show(s.c.set c v).getD d un=if c=d/\c<s.c.length then v else s.c.getD d un
 simp only[List.getD_eq_getElem?_getD,List.getElem?_set];by_cases e:c=d
 ·subst e;by_cases h:c<s.c.length
  ·simp[h]
  ·simp[h,List.getElem?_eq_none<|Nat.le_of_not_lt h]
 ·simp[e]
theorem MP(h:W.k c c')(m:W.B c)(m':W.F c')(f:VR W.r v v'):ee W cL (D1 c v) (D1 c' v'):=λg l s s' x=>by
 refine⟨g,.j _,rfl,⟨x.N,x.M,x.K,x.O,x.P,λa b e=>by simpa using x.J a b e,λa b e=>?_,λd w e=>⟨by simpa using(x.A d w e).1,?_⟩,λd w e=>⟨by simpa using(x.D d w e).1,?_⟩,x.B,x.F,λc e=>by simpa using x.L c e,λc e=>by simpa using x.Q c e,x.G,λc e=>by simpa using x.R c e,x.I,λc e=>by simpa using x.S c e,x.y,x.z,x.C⟩⟩
 ·rw[ki,ki];have hb:=x.J _ _<|l.k _ _ h;by_cases q:c=a
  ·subst q;obtain rfl:=x.O _ _ _ (l.k _ _ h) e;rw[qK ⟨dq,hb.1⟩,qK ⟨dq,hb.2⟩];exact f.G l.r
  ·have q':¬c'=b:=λw=>q (by subst w;exact x.P _ _ _ (l.k _ _ h) e)
   rw[if_neg λw=>q w.1,if_neg λw=>q' w.1];exact x.E a b e
 ·rw[ki,if_neg λw=>x.B _ _ (l.B _ m)<|w.1▸e];exact(x.A d w e).2
 ·rw[ki,if_neg λw=>x.F _ _ (l.F _ m')<|w.1▸e];exact(x.D d w e).2
theorem vh(m:W.B c)(d:W.G c):ee W cL (D1 c v) (ret (.E un)):=λf l s s' x=>by
 refine⟨f,.j _,rfl,⟨x.N,x.M,x.K,x.O,x.P,λa b e=>by simpa using x.J a b e,λa b e=>?_,λd w e=>⟨by simpa using(x.A d w e).1,?_⟩,x.D,x.B,x.F,λc e=>by simpa using x.L c e,x.Q,x.G,λc e=>by simpa using x.R c e,x.I,x.S,x.y,x.z,x.C⟩⟩
 ·rw[ki,if_neg λw=>x.G _ _ (l.G _ d)<|w.1▸e];exact x.E a b e
 ·rw[ki,if_neg λw=>x.B _ _ (l.B _ m)<|w.1▸e];exact(x.A _ w e).2
theorem B6(h:ee W cL m (ret (.E un)))(m':W.F c)(d:W.I c):ee W cL m (D1 c v'):=λg l s s' x=>by
 obtain⟨f,l₂,o⟩:=h g l s s' x;refine⟨f,l₂,?_⟩;have o:W2 f cL (m s) (.c (.E un) s'):=o;show W2 f cL (m s) (.c (.E un) {s' with c:=s'.c.set c v'})
 generalize m s=u at o;cases u with
 |b=>exact o.elim
 |c a t=>
  obtain⟨o,x⟩:=o;have l:=l.i l₂;refine⟨o,x.N,x.M,x.K,x.O,x.P,λa b e=>by simpa using x.J a b e,λa b e=>?_,x.A,λd w e=>⟨by simpa using(x.D d w e).1,?_⟩,x.B,x.F,x.L,λc e=>by simpa using x.Q c e,x.G,x.R,x.I,λc e=>by simpa using x.S c e,x.y,x.z,x.C⟩
  ·rw[ki,if_neg λw=>x.I _ _ (l.I _ d)<|w.1▸e];exact x.E a b e
  ·rw[ki,if_neg λw=>x.F _ _ (l.F _ m')<|w.1▸e];exact(x.D _ w e).2
theorem DV(g:qd):ee W cL (EJ g) (EJ g):=λa l s s' x=>by
 unfold EJ;by_cases h:g=1
 ·rw[qK h,qK h];exact⟨a,.j _,x.y,x⟩
 ·rw[if_neg h,if_neg h];by_cases h:g=2
  ·rw[qK h,qK h];exact⟨a,.j _,x.z,x⟩
  ·rw[if_neg h,if_neg h];exact⟨a,.j _,dq,dq,x⟩
theorem DP(g:qd)(h:VR W.r v v'):ee W cL (du g v) (du g v'):=λb l s s' x=>by
 have a:n9 b {s with o:=s.o++[(g,Internal.dO v)]} {s' with o:=s'.o++[(g,Internal.dO v')]}:=
  ⟨x.N,x.M,x.K,x.O,x.P,x.J,x.E,x.A,x.D,x.B,x.F,x.L,x.Q,x.G,x.R,x.I,x.S,x.y,x.z,by show s.o++_=s'.o++_;rw[x.C,h.i]⟩
 have c:=h.G l.r;unfold du;by_cases h:g=1
 ·simp only[if_pos h];exact⟨b,.j _,dq,a.N,a.M,a.K,a.O,a.P,a.J,a.E,a.A,a.D,a.B,a.F,a.L,a.Q,a.G,a.R,a.I,a.S,c,a.z,a.C⟩
 ·simp only[if_neg h];by_cases h:g=2
  ·simp only[if_pos h];exact⟨b,.j _,dq,a.N,a.M,a.K,a.O,a.P,a.J,a.E,a.A,a.D,a.B,a.F,a.L,a.Q,a.G,a.R,a.I,a.S,a.y,c,a.C⟩
  ·simp only[if_neg h];exact⟨b,.j _,dq,dq,a⟩
end
def FnR(W:Wr)(d d':AH):Prop:=∀a,W.e a->∀vs ws,uo a.r vs ws->ee a cL (d vs) (d' ws)
theorem FnR.G(h:FnR W d d')(l:W.e a):FnR a d d':=λb l₁=>h b<|l.i l₁
def sA(W:Wr)(aI:Ev)(e:E)(v:V):Prop:=(∃k,e=.u k/\v=.B k)\/∃y,e=.s y/\((∃c v',aI.v y=dA c/\W.D c v'/\VR W.r v v')\/(aI.v y=ft/\v=un))
theorem sA.G(h:sA W aI e v)(l:W.e f):sA f aI e v:=by
 rcases h with h|⟨y,e,⟨c,v',a,b,d⟩|h⟩
 ·exact .inl h
 ·exact .inr ⟨y,e,.inl ⟨c,v',a,l.D _ _ b,d.G l.r⟩⟩
 ·exact .inr ⟨y,e,.inr h⟩
theorem sA.H(h:sA W aI e v)(n:e≠.s x)(c:qc):sA W (aI.p x c) e v:=by
 rcases h with h|⟨y,rfl,h⟩
 ·exact .inl h
 ·have:¬y=x:=λq=>n<|q▸dq;refine .inr ⟨y,dq,?_⟩;simp only[Ev.p,this,if_false];exact h
theorem sA.u(h:sA W aI e v)(n:e≠.s x)(d:AH):sA W (aI.u x d) e v:=by
 rcases h with h|⟨y,rfl,h⟩
 ·exact .inl h
 ·have:¬y=x:=λq=>n<|q▸dq;refine .inr ⟨y,dq,?_⟩;simp only[Ev.u,this,if_false];exact h
structure fz(W:Wr)(st:qd->qw)(live:qd->Prop)(th:Sb)(ρ aI:Ev):Prop where
 o:∀x c,live x->th x=ft->ρ.v x=dA c->∃c',aI.v x=dA c'/\CR W (st x) c c'
 u:∀x,live x->th x=ft->ρ.v x=ft->aI.v x=ft
 C:∀x d,live x->th x=ft->ρ.f x=dA d->∃d',aI.f x=dA d'/\FnR W d d'
 D:∀x,live x->th x=ft->ρ.f x=ft->aI.f x=ft
 t:∀x e,th x=dA e->st x=np/\∃c v,ρ.v x=dA c/\W.A c v/\sA W aI e v
 i:∀x c,¬live x->ρ.v x=dA c->st x=hY->W.B c/\W.G c
 B:∀x c,¬live x->aI.v x=dA c->st x=hY->W.F c/\W.I c
noncomputable abbrev Ee:Sb:=λzz=>ft
section
variable{W:Wr}{st:qd->qw}{live:qd->Prop}{th:Sb}{ρ aI:Ev}
theorem fz.G(x:fz W st live th ρ aI)(l:W.e g):fz g st live th ρ aI:=
 ⟨λy c a b e=>let⟨c',p,q⟩:=x.o y c a b e;⟨c',p,q.G l⟩,x.u,λy d a n e=>let⟨d',p,q⟩:=x.C y d a n e;⟨d',p,q.G l⟩,x.D,
  λy e q=>let⟨a,c,v,b,d,f⟩:=x.t y e q;⟨a,c,v,b,l.A _ _ d,f.G l⟩,λy c a b e=>let⟨p,q⟩:=x.i y c a b e;⟨l.B _ p,l.G _ q⟩,λy c a b e=>let⟨p,q⟩:=x.B y c a b e;⟨l.F _ p,l.I _ q⟩⟩
structure vb(W:Wr)(P:E->V->Prop)(s:qw)(l:Prop)(t:qk E)(v v':qk qc)(f f':qk AH):Prop where
 o:∀c,l->t=ft->v=dA c->∃c',v'=dA c'/\CR W s c c'
 u:l->t=ft->v=ft->v'=ft
 C:∀d,l->t=ft->f=dA d->∃d',f'=dA d'/\FnR W d d'
 D:l->t=ft->f=ft->f'=ft
 t:∀e,t=dA e->s=np/\∃c w,v=dA c/\W.A c w/\P e w
 i:∀c,¬l->v=dA c->s=hY->W.B c/\W.G c
 B:∀c,¬l->v'=dA c->s=hY->W.F c/\W.I c
theorem fz.A(h:∀x,vb W (sA W aI) (st x) (live x) (th x) (ρ.v x) (aI.v x) (ρ.f x) (aI.f x)):fz W st live th ρ aI:=⟨λx=>(h x).o,λx=>(h x).u,λx=>(h x).C,λx=>(h x).D,λx=>(h x).t,λx=>(h x).i,λx=>(h x).B⟩
theorem fz.r(E:fz W st live th ρ aI)(x:qd):vb W (sA W aI) (st x) (live x) (th x) (ρ.v x) (aI.v x) (ρ.f x) (aI.f x):=⟨E.o x,E.u x,E.C x,E.D x,E.t x,E.i x,E.B x⟩
section
variable{P:E->V->Prop}{s:qw}{l:Prop}{t:qk E}{v v':qk qc}{f f':qk AH}
theorem vb.n(a:vb W P s l t v v' f f')(h:∀e w,t=dA e->P e w->Q e w):vb W Q s l t v v' f f':=⟨a.o,a.u,a.C,a.D,λe q=>(a.t e q).imp id λ⟨c,w,b,d,g⟩=>⟨c,w,b,d,h e w q g⟩,a.i,a.B⟩
theorem gI{α:Type}{a:α}{C:Prop}(h:ft=dA a):C:=qH h.symm<|ZF a
theorem vb.m{c c':qc}(f:t=ft)(h:l->CR W s c c')(h2:¬l->s=hY->W.B c/\W.G c)(h3:¬l->s=hY->W.F c'/\W.I c'):vb W P s l t (dA c) (dA c') ft ft:=
 ⟨λd a b e=>⟨c',dq,qA e▸h a⟩,λa b e=>gI e.symm,λd a b e=>gI e,λa b e=>dq,λe q=>gI<|f.symm.trans q,λd a e s=>qA e▸h2 a s,λd a e s=>qA e▸h3 a s⟩
theorem vb.r{d d':AH}(c:t=ft)(h:FnR W d d'):vb W P s l t ft ft (dA d) (dA d'):=
 ⟨λd a b e=>gI e,λa b e=>dq,λk a b e=>⟨d',dq,qA e▸h⟩,λa b e=>gI e.symm,λe q=>gI<|c.symm.trans q,λd a e s=>gI e,λd a e s=>gI e⟩
theorem vb.p{c:qc}{w:V}{e:Internal.E}(g:s=np)(hc:W.A c w)(h:P e w):vb W P s l (dA e) (dA c) v' f f':=
 ⟨λd a b=>gI b.symm,λa b=>gI b.symm,λd a b=>gI b.symm,λa b=>gI b.symm,λk q=>⟨g,c,w,dq,hc,qA q▸h⟩,λd a e k=>qH (g.symm.trans k) qB,λd a e k=>qH (g.symm.trans k) qB⟩
theorem vb.j(b:t=ft)(hl:¬l)(h1:∀c,v=dA c->s=hY->W.B c/\W.G c)(h2:∀c,¬l->v'=dA c->s=hY->W.F c/\W.I c):vb W P s l t v v' f f':=
 ⟨λd a=>qH a hl,λa=>qH a hl,λd a=>qH a hl,λa=>qH a hl,λk q=>gI<|b.symm.trans q,λc a=>h1 c,h2⟩
end
theorem pv(ρ:Ev)(x:qd)(c:qc):(ρ.p x c).v x=dA c:=qK dq
theorem pvf(ρ:Ev)(x:qd)(c:qc):(ρ.p x c).f x=ft:=qK dq
theorem HS(z:¬y=x):(ρ.p x c).v y=ρ.v y:=if_neg z
theorem Cb(z:¬y=x):(ρ.p x c).f y=ρ.f y:=if_neg z
theorem pf(ρ:Ev)(x:qd)(d:AH):(ρ.u x d).v x=ft:=qK dq
theorem pff(ρ:Ev)(x:qd)(d:AH):(ρ.u x d).f x=dA d:=qK dq
theorem ND(z:¬y=x):(ρ.u x d).v y=ρ.v y:=if_neg z
theorem Gh(z:¬y=x):(ρ.u x d).f y=ρ.f y:=if_neg z
theorem fz.j(E:fz W st live th ρ aI)(a:th x=ft)(hr:∀y,th y≠dA (.s x))(h:live x->CR W (st x) c c')(h2:¬live x->st x=hY->W.B c/\W.G c)(h3:¬live x->st x=hY->W.F c'/\W.I c'):
  fz W st live th (ρ.p x c) (aI.p x c'):=.A λy=>by
 by_cases z:y=x
 ·rw[z,pv,pv,pvf,pvf];exact .m a h h2 h3
 ·rw[HS z,HS z,Cb z,Cb z];exact(E.r y).n λe v q g=>g.H (λw=>hr y<|w▸q) c'
theorem fz.s(E:fz W st live th ρ aI)(b:st x=np)(hc:W.A c v)(a:sA W aI e v):fz W st live (λy=>if y=x then dA e else th y) (ρ.p x c) aI:=.A λy=>by
 by_cases z:y=x
 ·rw[z,qK dq,pv];exact .p b hc a
 ·rw[if_neg z,HS z,Cb z];exact E.r y
theorem fz.F(E:fz W st live th ρ aI)(a:th x=ft)(hl:¬live x)(b:st x=np):fz W st live th (ρ.p x c) aI:=.A λy=>by
 by_cases z:y=x
 ·rw[z];exact .j a hl (λd e k=>qH (b.symm.trans k) qB)<|E.B x
 ·rw[HS z,Cb z];exact E.r y
theorem fz.H(E:fz W st live th ρ aI)(a:th x=ft)(hr:∀y,th y≠dA (.s x))(h:FnR W d d'):fz W st live th (ρ.u x d) (aI.u x d'):=.A λy=>by
 by_cases z:y=x
 ·rw[z,pf,pf,pff,pff];exact .r a h
 ·rw[ND z,ND z,Gh z,Gh z];exact(E.r y).n λe v q g=>g.u (λw=>hr y<|w▸q) d'
theorem fz.m(E:fz W st live th ρ aI){x:qd}{d:AH}(a:th x=ft)(hl:¬live x):fz W st live th (ρ.u x d) aI:=.A λy=>by
 by_cases z:y=x
 ·rw[z,pf];exact .j a hl (λd e=>gI e)<|E.B x
 ·rw[ND z,Gh z];exact E.r y
theorem DU(E:fz W st live th ρ aI)(hl:live x)(a:th x=ft):ee W cL (getv ρ x) (getv aI x):=by
 unfold getv;cases e:ρ.v x with
 |none=>rw[E.u x hl a e];exact ct λb b=>dq
 |some c=>
  obtain⟨c',d,h⟩:=E.o x c hl a e;rw[d];exact MS h.1
theorem DO(E:fz W st live th ρ aI)(hl:live x)(a:st x=hY)(h:VR W.r v v'):ee W cL (oS ρ x v) (oS aI x v'):=by
 have d:th x=ft:=by
  cases e:th x with
  |none=>rfl
  |some b=>have:=(E.t x b e).1;rw[a]at this;cases this
 unfold oS;cases e:ρ.v x with
 |none=>rw[E.u x hl d e];exact ct λf f=>dq
 |some c=>
  obtain⟨c',b,k⟩:=E.o x c hl d e;rw[b];exact MP k.1 (k.2.1 a).1 (k.2.1 a).2 h
theorem Aq(E:fz W st live th ρ aI)(hl:¬live x)(d:st x=hY)(v v':V):ee W cL (oS ρ x v) (oS aI x v'):=by
 have h:ee W cL (oS ρ x v) (ret (.E un)):=by
  unfold oS;cases e:ρ.v x with
  |none=>exact ct λf f=>dq
  |some c=>obtain⟨a,b⟩:=E.i x c hl e d;exact vh a b
 show ee W cL _ (match aI.v x with|some c=>D1 c v'|none=>ret<|.E un)
 cases e:aI.v x with
 |none=>exact h
 |some c=>obtain⟨a,b⟩:=E.B x c hl e d;exact B6 h a b
theorem sO(E:fz W st live th ρ aI)(hl:¬live x)(f:st x=hY)(v:V):ee W cL (oS ρ x v) (ret (.E un)):=by
 unfold oS;cases e:ρ.v x with
 |none=>exact ct λd d=>dq
 |some c=>obtain⟨a,b⟩:=E.i x c hl e f;exact vh a b
theorem w9:∀{ps:qe qd} {vs ws:qe V} {W:Wr} {ρ aI:Ev},fz W st live th ρ aI->uo W.r vs ws->(∀x∈ps,th x=ft/\∀y,th y≠dA (.s x))->
  (∀d,W.e d->∀ρ aI,fz d st live th ρ aI->ee d cL (k ρ) (k' aI))->ee W cL (cT ps vs ρ k) (cT ps ws aI k')
 |[],vs,ws,W,ρ,aI,E,_,_,h=>by
  cases vs<;>cases ws<;>exact h W (.j _) _ _ E
 |x::ps,_,_,W,ρ,aI,E,.t,_,h=>h W (.j _) _ _ E
 |x::ps,_,_,W,ρ,aI,E,.o (v:=v) (w:=w) a t,g,h=>by
  have e:=g x<|.head _;by_cases hl:live x
  ·exact pM (st x) (b:=λc=>cT ps _ (ρ.p x c) k) (b':=λc=>cT ps _ (aI.p x c) k') a λd l c c' cr=>
    w9 ((E.G l).j e.1 e.2 (λi=>cr) (λq=>qH hl q) λq=>qH hl q) (t.G l.r) (λy f=>g y<|.tail _ f) λj l₂=>h j<|l.i l₂
  ·exact k9 (st x) (b:=λc=>cT ps _ (ρ.p x c) k) λd l c h1 h2=>uF (st x) (b':=λc=>cT ps _ (aI.p x c) k') λj l₂ c' h3=>
    w9 ((E.G<|l.i l₂).j e.1 e.2 (λq=>qH q hl) (λi q=>⟨l₂.B _ (h1 q).1,l₂.G _ (h1 q).2⟩) λi=>h3) (t.G (l.i l₂).r) (λy f=>g y<|.tail _ f) λm n=>h m<|(l.i l₂).i n
theorem pO(E:fz W st live th ρ aI)(j:uo W.r vs ws)(o:∀x∈ps,th x=ft/\∀y,th y≠dA (.s x))(hr:0<=rest->th rest=ft/\∀y,th y≠dA (.s rest))
  (h:∀f,W.e f->∀ρ aI,fz f st live th ρ aI->ee f cL (k ρ) (k' aI)):ee W cL (gB ps rest k ρ vs) (gB ps rest k' aI ws):=by
 unfold gB;rw[j.u];split
 ·exact w8
 ·refine w9 E j o λf l ρ aI d=>?_;split
  ·rename_i q;have g:=hr q;refine bt (MQ<|(j.I _).G l.r) λs l₂ a b r=>?_;by_cases hl:live rest
   ·exact pM (st rest) (b:=λc=>k (ρ.p rest c)) (b':=λc=>k' (aI.p rest c)) r λn e c c' cr=>
     h _ ((l.i l₂).i e) _ _ (((d.G l₂).G e).j g.1 g.2 (λm=>cr) (λq=>qH hl q) λq=>qH hl q)
   ·exact k9 (st rest) (b:=λc=>k (ρ.p rest c)) λn e c h1 h2=>uF (st rest) (b':=λc=>k' (aI.p rest c)) λp i c' h3=>
     h _ (((l.i l₂).i e).i i) _ _ ((((d.G l₂).G e).G i).j g.1 g.2 (λq=>qH q hl) (λm q=>⟨i.B _ (h1 q).1,i.G _ (h1 q).2⟩) λm=>h3)
  ·exact h f l _ _ d
theorem HN(c:∀{x y b y'},VR W.r x b->VR W.r y y'->VR W.r (f x y) (f b y'))(a:VR W.r v v'):ee W cL (K0 n f v) (K0 n f v'):=by
 cases v with
 |B k=>cases v' with
  |B k'=>rw[show k=k' from a];exact w8
  |e=>exact a.elim
 |e x y i=>cases v' with
  |B k'=>exact a.elim
  |e b y' e=>exact ct λd l=>(c a.2.1 a.2.2).G l.r
theorem Hw(a:VR W.r v v'):oq v=oq v'/\aar v=aar v':=by
 cases v with
 |B k=>cases v' with
  |B k'=>rw[show k=k' from a];exact⟨dq,dq⟩
  |e=>exact a.elim
 |e x y i=>cases v' with
  |B k'=>exact a.elim
  |e b y' c=>exact⟨dq,dq⟩
theorem DR(h:uo W.r vs ws):ee W cL (jp w vs) (jp w ws):=by
 have d:ee W cL (ret<|.E un) (ret<|.E un):=ct λc c=>dq;have f:∀{b b':qw},b=b'->ee W cL (blR b) (blR b'):=λe=>e▸ct λc c=>dq;cases h with
 |t=>exact d
 |o a t=>cases w with
  |c=>exact HN (λx c=>x) a
  |d=>exact HN (λc y=>y) a
  |v=>exact f (Hw a).1
  |g=>exact f (Hw a).2
  |o=>cases t with
   |t=>exact d
   |o b t=>exact bt (DS a b) λc c c c r=>ct λc l=>r.G l.r
  |e=>cases t with
   |t=>exact d
   |o b t=>exactλg l s s' x=>⟨g,.j _,qh K.q<|R0 x (a.G l.r) (b.G l.r),x⟩
end
noncomputable def rs(rest:qd):qe qd:=if 0<=rest then[rest]else[]
mutual
noncomputable def bd:E->qe qd
 |.F _ e|.G _ e=>bd e
 |.v a b c=>bd a++bd b++bd c
 |.y l e=>lM l++bd e
 |.A _ l|.L _ l|.I l=>lM l
 |.D _ ps rest b l=>ps++rs rest++bd b++lM l
 |.H _ f _ ps rest d b=>f::bd b++(ps++rs rest++bd d)
 |_=>[]
noncomputable def lM:qe E->qe qd
 |[]=>[]
 |e::l=>bd e++lM l
end
mutual
noncomputable def WS:qe qd->qe qd->E->Prop
 |Γ,_,.s x=>x∈Γ
 |Γ,Φ,.F x e=>x∈Γ/\WS Γ Φ e
 |Γ,Φ,.G g e=>(g=1\/g=2\/g=3)/\WS Γ Φ e
 |_,_,.B g=>g=1\/g=2\/g=3
 |Γ,Φ,.v a b c=>WS Γ Φ a/\WS Γ Φ b/\WS Γ Φ c
 |Γ,Φ,.y l e=>oJ Γ Φ l/\WS Γ Φ e
 |Γ,Φ,.A w l=>l.length=w.I/\oJ Γ Φ l
 |Γ,Φ,.I l=>oJ Γ Φ l
 |Γ,Φ,.L f l=>f∈Φ/\oJ Γ Φ l
 |Γ,Φ,.D _ ps rest b l=>WS (ps++rs rest++Γ) Φ b/\oJ Γ Φ l
 |Γ,Φ,.H _ f _ ps rest d b=>WS Γ (f::Φ) b/\WS (ps++rs rest++Γ) Φ d
 |_,_,.u _=>xT
noncomputable def oJ:qe qd->qe qd->qe E->Prop
 |_,_,[]=>xT
 |Γ,Φ,e::l=>WS Γ Φ e/\oJ Γ Φ l
end
structure Th(Γ Φ:qe qd)(th:Sb):Prop where
 j:∀x∈Γ,x∉Φ
 g:∀x e,th x=dA e->x∈Γ/\((∃k,e=.u k)\/∃y∈Γ,e=.s y)
theorem Th.v(t:Th Γ Φ th)(h:x∉Γ):th x=ft/\∀y,th y≠dA (.s x):=by
 refine⟨?_,λy e=>?_⟩
 ·cases e:th x with
  |none=>rfl
  |some b=>exact qH (t.g _ _ e).1 h
 ·rcases(t.g _ _ e).2 with⟨k,q⟩|⟨z,a,q⟩
  ·cases q
  ·cases q;exact h a
theorem Th.u(t:Th Γ Φ th)(h:∀x∈ps,x∉Φ):Th (ps++Γ) Φ th:=
 ⟨λx d=>(qY.mp d).elim (h x) (t.j x),λx e q=>let⟨a,b⟩:=t.g x e q;⟨qJ _ a,b.imp id λ⟨y,c,z⟩=>⟨y,qJ _ c,z⟩⟩⟩
theorem Th.i(t:Th Γ Φ th)(h:f∉Γ):Th Γ (f::Φ) th:=
 ⟨λx a q=>(qG.mp q).elim (λe=>h<|e▸a) (t.j x a),t.g⟩
def Fr(Γ Φ:qe qd)(l:qe qd):Prop:=l.Nodup/\∀x∈l,x∉Γ/\x∉Φ
theorem Fr.g(h:Fr Γ Φ (l++m)):Fr Γ Φ l:=⟨(xp.mp h.1).1,λx a=>h.2 x<|qx _ a⟩
theorem Fr.i(h:Fr Γ Φ (l++m)):Fr Γ Φ m:=⟨(xp.mp h.1).2.1,λx a=>h.2 x<|qJ _ a⟩
theorem Fr.b(h:Fr Γ Φ (l++m)):Fr (l++Γ) Φ m:=
 ⟨(xp.mp h.1).2.1,λx a=>⟨λq=>(qY.mp q).elim (λz=>(xp.mp h.1).2.2 x z x a dq) (h.2 x<|qJ _ a).1,(h.2 x<|qJ _ a).2⟩⟩
theorem Fr.d(h:Fr Γ Φ (f::m)):Fr Γ (f::Φ) m:=
 ⟨(xi.mp h.1).2,λx a=>⟨(h.2 x<|.tail _ a).1,λq=>(qG.mp q).elim (λz=>(xi.mp h.1).1 (z▸a)) (h.2 x<|.tail _ a).2⟩⟩
theorem Fr.p(h:Fr Γ Φ (f::m)):Fr Γ Φ m:=⟨(xi.mp h.1).2,λx a=>h.2 x<|.tail _ a⟩
theorem Fr.c(h:Fr Γ Φ (f::m)):f∉Γ/\f∉Φ:=h.2 f<|.head _
def thn(th g:Sb):Sb:=λx=>match g x with
 |some e=>dA<|sub th e
 |none=>th x
theorem JJ(th g:Sb):(∀e:E,sub th (sub g e)=sub (thn th g) e)/\∀l:qe E,iI th (iI g l)=iI (thn th g) l:=
 E.J
  (λh=>dq)
  (λx=>by
  show sub th ((g x).getD (.s x))=(thn th g x).getD (.s x);unfold thn;cases g x<;>rfl)
  (λh=>dq)
  (λx e i1=>qh (E.F x)<|i1)
  (λx e i1=>qh (E.G x)<|i1)
  (λa b c i0 i1 i2=>by show E.v _ _ _=E.v _ _ _;rw[i0,i1,i2])
  (λl e i0 i1=>by show E.y _ _=E.y _ _;rw[i0,i1])
  (λw l i1=>qh (E.A w)<|i1)
  (λlb ps rest b l m k=>by show E.D _ _ _ _ _=E.D _ _ _ _ _;rw[k,m])
  (λlb f j2 ps rest d b j i=>by show E.H _ _ _ _ _ _ _=E.H _ _ _ _ _ _ _;rw[j,i])
  (λf l i1=>qh (E.L f)<|i1)
  (λl i0=>qh E.I<|i0)
  (dq)
  (λe l i0 i1=>by show _::_=_::_;rw[i0,i1])
theorem sub_sub(th g:Sb)(e:E):sub th (sub g e)=sub (thn th g) e:=(JJ th g).1 e
theorem sI(th:Sb):∀l:qe E,iI th l=l.map (sub th)
 |[]=>rfl
 |e::l=>qh (sub th e::·)<|sI th l
inductive AR(F:Fx)(th:Sb)(aI:Ev)(W:Wr):qe qd->qe E->qe V->qe V->Prop
 |t:AR F th aI W [] [] [] []
 |j{x e v ps l vs ws}:cj F x e=hY->sA W aI (sub th e) v->AR F th aI W ps l vs ws->AR F th aI W (x::ps) (e::l) (v::vs) ws
 |r{x e v w ps l vs ws}:cj F x e=np->VR W.r v w->AR F th aI W ps l vs ws->AR F th aI W (x::ps) (e::l) (v::vs) (w::ws)
theorem AR.G(h:AR F th aI W ps l vs ws)(le:W.e c):AR F th aI c ps l vs ws:=by
 induction h with
 |t=>exact .t
 |j a b _ ih=>exact .j a (b.G le) ih
 |r a b _ ih=>exact .r a (b.G le.r) ih
theorem AR.H(h:AR F th aI W ps l vs ws)(c:qc)(n:∀e∈l,sub th e≠.s x):AR F th (aI.p x c) W ps l vs ws:=by
 induction h with
 |t=>exact .t
 |j a b _ ih=>exact .j a (b.H (n _<|.head _) c)<|ih λe d=>n e<|.tail _ d
 |r a b _ ih=>exact .r a b<|ih λe d=>n e<|.tail _ d
theorem CE(h:p x e=hY):iX p (x::ps) (e::l)=(x,e)::iX p ps l:=ahL h
theorem CG(h:p x e=np):iX p (x::ps) (e::l)=iX p ps l:=List.filter_cons_of_neg λk=>qB<|h.symm.trans k
theorem gD(h:p x e=hY):bU p (x::ps) (e::l)=bU p ps l:=CG (by rw[h];rfl)
theorem gE(h:p x e=np):bU p (x::ps) (e::l)=(x,e)::bU p ps l:=CE (by rw[h];rfl)
theorem AR.u(h:AR F th aI W ps l vs ws):vs.length=ps.length/\ws.length=(bU (cj F) ps l).length:=by
 induction h with
 |t=>exact⟨dq,dq⟩
 |j a b _ ih=>exact⟨qh xZ ih.1,by rw[gD a];exact ih.2⟩
 |r a b _ ih=>exact⟨qh xZ ih.1,by rw[gE a];exact qh xZ ih.2⟩
theorem lh(h:q∈iX p ps l):q.1∈ps/\q.2∈l:=aka (acs.mp h).1
theorem nb(h:(!b)=hY):b=np:=xc b▸h
theorem p8(h:cj F x e=hY):F.a x=np/\((∃y,e=.s y/\F.a y=np)\/∃k,e=.u k):=by
 cases e with
 |s y=>exact⟨nb<|bA h,.inl ⟨y,dq,nb<|bB h⟩⟩
 |u k=>exact⟨nb<|bA h,.inr ⟨k,dq⟩⟩
 |_=>exact qH h qB
theorem li{F:Fx}{lb:qd}{ps:qe qd}{rest:qd}{b:E}{l:qe E}{P:E->Prop}(h0:P (.D lb ps rest b l))(h1:kc ps rest l=hY->P (without lb (bU (cj F) ps l) (sub (gN (iX (cj F) ps l)) b))):P (oE F lb ps rest b l):=by
 unfold oE;cases h:kc ps rest l with
 |false=>rw[if_neg qB];exact h0
 |true=>
  have h1:=h1 h;rw[qK dq];cases g:iX (cj F) ps l with
  |nil=>exact h0
  |cons q r=>rw[g]at h1;exact h1
noncomputable def Wi(e:E):qw:=@E.casesOn (λa=>qw) e (λa=>np) (λa=>hY) (λa=>np) (λa a=>np) (λa a=>np) (λa a a=>np) (λa a=>np) (λa a=>np) (λa a a a a=>np) (λa a a a a a a=>np) (λa a=>np) λa=>np
theorem Rv:sub th e=.s y->∃z,e=.s z/\(th z).getD (.s z)=.s y:=by
 cases e with
 |s z=>exactλq=>⟨z,dq,q⟩
 |_=>exactλq=>qH (qh Wi q) qB
theorem Fg(h:gN g x=dA e):(x,e)∈g:=by
 obtain⟨p,a,rfl⟩:=qS.mp h;have:p.1=x:=by simpa using List.find?_some a
 subst this;exact zI a
def U5(a:Sb)(g:qe (qd×E))(th:Sb):Sb:=λx=>match gN g x with
 |some e=>dA<|sub a e
 |none=>th x
theorem Ln(h:∀q∈g,q.1≠x):U5 a ((x,e)::g) th=U5 a g λy=>if y=x then dA (sub a e)else th y:=by
 funext y;unfold U5 gN;rw[act];by_cases z:y=x
 ·subst z;rw[decide_eq_true (dq:y=y)];have:g.find? (λp=>decide (p.1=y))=none:=List.find?_eq_none.mpr λq b=>by simpa using h q b
  rw[this];exact(qK (dq:y=y)).symm
 ·rw[xN (show¬x=y fromλq=>z q.symm)];show _=(match q0 (·.2) (g.find? λp=>decide (p.1=y))with|some e=>dA (sub a e)|none=>if y=x then dA (sub a e)else th y)
  rw[if_neg z]
theorem US:∀{l:qe E} {vs ws:qe V} {W:Wr} {ρ aI:Ev} {d:Sb},AR F th aI W ps l vs ws->fz W F.a (λs=>xT) d ρ aI->
  (∀x∈ps,d x=ft/\∀y,d y≠dA (.s x))->(∀x∈ps,∀e∈l,sub th e≠.s x)->ps.Nodup->
  (∀o,W.e o->∀ρ aI,fz o F.a (λs=>xT) (U5 th (iX (cj F) ps l) d) ρ aI->ee o cL (k ρ) (k' aI))->
  ee W cL (cT ps vs ρ k) (cT ((bU (cj F) ps l).map (·.1)) ws aI k'):=by
 induction ps with
 |nil=>
  intro l vs ws W ρ aI d h E j m nd i;cases h;exact i W (.j _) _ _ E
 |cons x ps ih=>
  intro l vs ws W ρ aI d h E j m nd i;have r:=xi.mp nd;cases h with
  |@j _ e v _ l vs _ a b t=>
   have e1:=gD (ps:=ps) (l:=l) a;have e2:=CE (ps:=ps) (l:=l) a;have C:F.a x=np:=(p8 a).1;rw[e1];rw[e2,Ln (g:=iX (cj F) ps l) λq G z=>r.1 (by rw[←z];exact(lh G).1)]at i
   refine k9 (F.a x) (b:=λc=>cT ps vs (ρ.p x c) k) λo le c s h2=>?_;refine ih (t.G le) ((E.G le).s C (h2 C) (b.G le)) (λy f=>?_) (λy f n p=>m y (.tail _ f) n<|.tail _ p) r.2 λu l₂=>i u<|le.i l₂;have D:¬y=x:=λz=>r.1<|z▸f;refine⟨by rw[if_neg D];exact(j y<|.tail _ f).1,λz=>?_⟩
   by_cases A:z=x
   ·rw[qK A];exactλq=>m y (.tail _ f) e (.head _)<|qA q
   ·rw[if_neg A];exact(j y<|.tail _ f).2 z
  |@r _ e v w _ l vs ws a b t=>
   have e1:=gE (ps:=ps) (l:=l) a;have e2:=CG (ps:=ps) (l:=l) a;rw[e1];rw[e2]at i;have B:=j x<|.head _;refine pM (F.a x) (b:=λc=>cT ps vs (ρ.p x c) k) (b':=λc=>cT ((bU (cj F) ps l).map (·.1)) ws (aI.p x c) k') b λo le c c' cr=>?_;exact ih ((t.G le).H c' λn p=>m x (.head _) n<|.tail _ p) ((E.G le).j B.1 B.2 (λs=>cr) (λq=>qH oy q) λq=>qH oy q) (λy f=>j y<|.tail _ f) (λy f n p=>m y (.tail _ f) n<|.tail _ p) r.2 λu l₂=>i u<|le.i l₂
def Ss(F:Fx)(n:qd->qc):Prop:=∀x,0<n x->F.a x=hY
theorem Ss.l{F:Fx}{a b:qd->qc}(h:Ss F λx=>a x+b x):Ss F a:=λx q=>h x<|q9 q (qj _ _)
theorem Ss.r{F:Fx}{a b:qd->qc}(h:Ss F λx=>a x+b x):Ss F b:=λx q=>h x<|q9 q (qr _ _)
def Cl(W:Wr)(aI:Ev)(e:E):Prop:=(∃k,e=.u k)\/∃y,e=.s y/\((∃c v',aI.v y=dA c/\W.D c v')\/aI.v y=ft)
theorem MR(h:ee W cL m (ev e aI))(c:Cl W aI e):ee W (λW v (_:Z8)=>sA W aI e v) (ln m) (ret ()):=λd l s s' x=>by
 rcases c with⟨k,rfl⟩|⟨y,rfl,c⟩
 ·obtain⟨b,l₂,o⟩:=h d l s s' x;have o:W2 b cL (m s) (.c (.E (.B k)) {s' with e:=s'.e+1}):=o
  unfold ln fy;generalize m s=u at o;cases u with
  |b=>exact o.elim
  |c a t=>
   cases a with
   |b=>exact o.1.elim
   |E v=>
    refine⟨b,l₂,.inl ⟨k,dq,?_⟩,o.2.H dq (qm _) dq dq dq dq (qm _) dq dq dq⟩;have r:VR b.r v (.B k):=o.1;cases v<;>first|exact r.elim|exact qh V.B r
 ·obtain⟨b,l₂,o⟩:=h d l s s' x;have o:W2 b cL (m s) (getv aI y {s' with e:=s'.e+1}):=o
  unfold getv at o;unfold ln fy;generalize m s=u at o;rcases c with⟨c,v',e,i⟩|e
  ·rw[e]at o;have o:W2 b cL u (.c (.E (cellOf {s' with e:=s'.e+1} c)) {s' with e:=s'.e+1}):=o
   cases u with
   |b=>exact o.elim
   |c a t=>
    cases a with
    |b=>exact o.1.elim
    |E v=>
     refine⟨b,l₂,.inr ⟨y,dq,.inl ⟨c,v',e,(l.i l₂).D _ _ i,?_⟩⟩,o.2.H dq (qm _) dq dq dq dq (qm _) dq dq dq⟩;have r:VR b.r v (cellOf {s' with e:=s'.e+1} c):=o.1
     rw[(o.2.D c v'<|(l.i l₂).D _ _ i).2]at r;exact r
  ·rw[e]at o;have o:W2 b cL u (.c (.E un) {s' with e:=s'.e+1}):=o
   cases u with
   |b=>exact o.elim
   |c a t=>
    cases a with
    |b=>exact o.1.elim
    |E v=>
     refine⟨b,l₂,.inr ⟨y,dq,.inr ⟨e,?_⟩⟩,o.2.H dq (qm _) dq dq dq dq (qm _) dq dq dq⟩;have r:VR b.r v un:=o.1;cases v<;>first|exact r.elim|exact qh V.B r
set_option tactic.hygienic true in
theorem afP(f:fz W F.a (λi=>xT) th ρ aI)(h:cj F x e=hY):Cl W aI (sub th e):=by
 rcases(p8 h).2 with⟨y,rfl,g⟩|⟨k,rfl⟩
 ·show Cl W aI ((th y).getD (.s y));cases q:th y with
  |none=>
   refine .inr ⟨y,dq,?_⟩;cases r:ρ.v y with
   |none=>exact .inr<|f.u y oy q r
   |some c=>
    obtain⟨c',d,k⟩:=f.o y c trivial q r;obtain⟨v,v',_,b,_⟩:=k.2.2 g;exact .inl ⟨c',v',d,b⟩
  |some d=>
   obtain⟨_,c,v,_,_,z⟩:=f.t y d q;rcases z with⟨k,rfl,_⟩|⟨y',rfl,⟨c',v',a,b,_⟩|⟨a,_⟩⟩
   ·exact .inl ⟨k,dq⟩
   ·exact .inr ⟨y',dq,.inl ⟨c',v',a,b⟩⟩
   ·exact .inr ⟨y',dq,.inr a⟩
 ·exact .inl ⟨k,dq⟩
theorem As(n:fz W F.a (λc=>xT) th ρ aI)(h:cj F x e=hY)
  (a:ee W cL (ev f ρ) (ev (sub th e) aI))(b:ee W (λW=>AR F th aI W ps l) (oz d ρ) (oz (iI th ((bU (cj F) ps l).map (·.2))) aI)):
  ee W (λW=>AR F th aI W (x::ps)<|e::l) (oz (f::d) ρ) (oz (iI th ((bU (cj F) (x::ps)<|e::l).map (·.2))) aI):=by
 rw[gD h];have g:=MR a<|afP n h
 have:ee W (λW=>AR F th aI W (x::ps) (e::l)) (fy (ln (ev f ρ)) λv=>fy (oz d ρ) λvs=>ret (v::vs)) (fy (ret ()) λc=>fy (oz (iI th ((bU (cj F) ps l).map (·.2))) aI) λws=>ret ws):=
  bt g λk l₁ v c m=>bt (b.G l₁) λj l₂ vs ws r=>ct λp i=>.j h ((m.G l₂).G i)<|r.G i
 refineλk l₁ s s' x=>?_;obtain⟨j,l₂,o⟩:=this k l₁ s s' x;refine⟨j,l₂,?_⟩
 have e:(fy (ret ()) λc=>fy (oz (iI th ((bU (cj F) ps l).map (·.2))) aI) λws=>ret ws) s'=oz (iI th ((bU (cj F) ps l).map (·.2))) aI s':=by
  show fy (oz _ _) _ s'=_;unfold fy;cases oz (iI th ((bU (cj F) ps l).map (·.2))) aI s'<;>rfl
 rw[e]at o;exact o
theorem jc(h:kc ps rest l=hY)(n:vs.length=l.length):gB ps rest k ρ vs=cT ps vs ρ k:=by
 unfold kc at h;rw[qz,zw,zw]at h;unfold gB;rw[if_neg (by exact alL h n)]
 congr 1;funext ρ;rw[if_neg (by exact alJ h)]
def uh(e:E):Prop:=(∃k,e=.u k)\/∃y,e=.s y
theorem vH(h:cj F x e=hY):uh e/\F.a x=np:=⟨(p8 h).2.elim (λ⟨y,e,_⟩=>.inr ⟨y,e⟩) .inl,(p8 h).1⟩
theorem GL(h:q∈iX p ps l):p q.1 q.2=hY:=(acs.mp h).2
theorem tL:∀{ps:qe qd} {l:qe E},ps.length=l.length->∀x∈ps,(∃e,(x,e)∈iX p ps l)\/∃e,(x,e)∈bU p ps l
 |[],_,_,x,h=>by cases h
 |_::_,[],h,_,_=>by cases h
 |y::ps,e::l,n,x,h=>by
  cases a:p y e with
  |true=>
   rw[CE a,gD a];rcases qG.mp h with h|h
   ·exact .inl ⟨e,h▸.head _⟩
   ·exact(tL (zH n) x h).imp (λ⟨e,q⟩=>⟨e,.tail _ q⟩) id
  |false=>
   rw[CG a,gE a];rcases qG.mp h with h|h
   ·exact .inr ⟨e,h▸.head _⟩
   ·exact(tL (zH n) x h).imp id λ⟨e,q⟩=>⟨e,.tail _ q⟩
theorem Lk(h:(x,e)∈g):∃a,gN g x=dA a:=by
 cases q:gN g x with
 |some a=>exact⟨a,dq⟩
 |none=>
  have:=List.find?_eq_none.mp (Zl.mp q) _ h;simp at this
theorem MH(m:∀y e,g y=dA e->fK x e=0):(∀e:E,fK x (sub g e)=fK x e)/\∀l:qe E,f6 x (iI g l)=f6 x l:=
 E.J
  (λf=>dq)
  (λy=>by
  show fK x ((g y).getD (.s y))=0;cases q:g y with
  |none=>rfl
  |some e=>exact m _ _ q)
  (λf=>dq)
  (λy e i1=>qh ((if y=x then 1 else 0)+·)<|i1)
  (λf e i1=>i1)
  (λa b c i0 i1 i2=>by show fK x _+fK x _+fK x _=fK x a+fK x b+fK x c;rw[i0,i1,i2])
  (λl e i0 i1=>by show f6 x _+fK x _=f6 x l+fK x e;rw[i0,i1])
  (λf l i1=>i1)
  (λf f f b l k j=>by show fK x _+f6 x _=fK x b+f6 x l;rw[j,k])
  (λf f f f f d b i h=>by show fK x _+fK x _=fK x b+fK x d;rw[i,h])
  (λf l i1=>i1)
  (λl i0=>i0)
  (dq)
  (λe l i0 i1=>by show fK x _+f6 x _=fK x e+f6 x l;rw[i0,i1])
theorem XR(a:∀y e,g y=dA e->fK x e=0)(e:E):fK x (sub g e)=fK x e:=(MH a).1 e
theorem pK:∀{ps:qe qd} {l:qe E},f6 x ((bU p ps l).map (·.2))<=f6 x l
 |[],_=>qP _
 |_::_,[]=>qP _
 |y::ps,e::l=>by
  cases a:p y e with
  |true=>rw[gD a];exact qg pK<|qr _ _
  |false=>rw[gE a];exact qn (pK (ps:=ps) (l:=l)) _
theorem Oi(h:uh e)(x:qd):fK x e=0:=by
 rcases h with⟨k,rfl⟩|⟨y,rfl⟩<;>rfl
theorem wY:fK x (without lb s b)=fK x b+f6 x (s.map (·.2)):=by
 cases s<;>rfl
theorem i7(h:gN (iX (cj F) ps l) y=dA e):uh e/\F.a y=np/\y∈ps/\e∈l:=
 have m:=Fg h;have k:=vH<|GL m
 ⟨k.1,k.2,(lh m).1,(lh m).2⟩
theorem MI:fK x (oE F lb ps rest b l)<=fK x b+f6 x l:=
 li (P:=λe=>fK x e<=fK x b+f6 x l) (qm _) λh=>by
  rw[wY,XR λy e h=>Oi (i7 h).1 x];exact qn pK _
theorem Ry(F:Fx)(x:qd):(∀e:E,fK x (cp F e)<=fK x e)/\∀l:qe E,f6 x (cps F l)<=f6 x l:=
 E.J
  (λf=>qm _)
  (λf=>qm _)
  (λf=>qm _)
  (λy e i1=>qn (i1) _)
  (λf e i1=>i1)
  (λa b c i0 i1 i2=>qM (qM (i0)<|i1)<|i2)
  (λl e i0 i1=>qM (i0)<|i1)
  (λf l i1=>i1)
  (λf f f b l j i=>qg MI<|qM (j) (i))
  (λf f f f f d b h g=>qM (g)<|h)
  (λf l i1=>i1)
  (λl i0=>i0)
  (qm _)
  (λe l i0 i1=>qM (i0)<|i1)
theorem adv(F:Fx)(x:qd)(e:E):fK x (cp F e)<=fK x e:=(Ry F x).1 e
theorem Ss.i(h:Ss F λx=>fK x e):Ss F λx=>fK x (cp F e):=λx q=>h x<|q9 q (adv F x e)
def Dh(lO Γ:qe qd)(g:Sb)(n:qd->qc):Prop:=∀x∈lO,(g x=ft->x∈Γ)/\(∀e,g x=dA e->(∃k,e=.u k)\/∃y∈Γ,e=.s y)/\(0<n x->x∈Γ)
theorem Dh.s(h:Dh lO Γ g n)(k:∀x,m x<=n x):Dh lO Γ g m:=λx a=>⟨(h x a).1,(h x a).2.1,λq=>(h x a).2.2 (q9 q<|k x)⟩
theorem Dh.u(h:Dh lO Γ g n)(j:∀x∈ps,g x=ft):Dh (ps++lO) (ps++Γ) g n:=λx i=>by
 rcases qY.mp i with q|q
 ·exact⟨λd=>qx _ q,(λe r=>by rw[j x q]at r;cases r),λd=>qx _ q⟩
 ·obtain⟨a,b,c⟩:=h x q;exact⟨λr=>qJ _<|a r,λe r=>(b e r).imp id λ⟨y,f,z⟩=>⟨y,qJ _ f,z⟩,λr=>qJ _<|c r⟩
theorem Qg:(∀e:E,∀(lO Γ Φ:qe qd),WS lO Φ e->Dh lO Γ g (λx=>fK x e)->(∀x∈bd e,g x=ft)->WS Γ Φ (sub g e))/\∀l:qe E,∀(lO Γ Φ:qe qd),oJ lO Φ l->Dh lO Γ g (λx=>f6 x l)->(∀x∈lM l,g x=ft)->oJ Γ Φ (iI g l):=
 E.J
  (λi i i i i i i=>oy)
  (λx i i i h k i=>by
  show WS _ _ ((g x).getD (.s x));cases q:g x with
  |none=>exact(k x h).1 q
  |some e=>
   rcases(k x h).2.1 e q with⟨k,rfl⟩|⟨y,s,rfl⟩
   ·trivial
   ·exact s)
  (λi i i i h i i=>h)
  (λx e i1 i i i h k n=>⟨(k x h.1).2.2 (by show 0<(if x=x then 1 else 0)+_;rw[qK dq];exact alI),(i1 _ _ _) h.2 (k.s λy=>qr _ _) n⟩)
  (λi e i1 i i i h k n=>⟨h.1,(i1 _ _ _) h.2 k n⟩)
  (λa b c i0 i1 i2 i i i h k n=>⟨(i0 _ _ _) h.1 (k.s λy=>qg (qj _ _) (qj _ _)) λx j=>n x (qx _ (qx _ j)),
   (i1 _ _ _) h.2.1 (k.s λy=>qg (qr _ _) (qj _ _)) λx j=>n x (qx _ (qJ _ j)),(i2 _ _ _) h.2.2 (k.s λy=>qr _ _) λx j=>n x (qJ _ j)⟩)
  (λl e i0 i1 i i i h k n=>⟨(i0 _ _ _) h.1 (k.s λy=>qj _ _) λx j=>n x<|qx _ j,(i1 _ _ _) h.2 (k.s λy=>qr _ _) λx j=>n x<|qJ _ j⟩)
  (λw l i1 i i i h k n=>⟨by rw[sI,qI];exact h.1,(i1 _ _ _) h.2 k n⟩)
  (λi ps rest b l r p i i i h k n=>⟨(r _ _ _) h.1 ((k.s λy=>qj _ _).u λx j=>n x (qx _ (qx _ j))) λx j=>n x (qx _ (qJ _ j)),
   (p _ _ _) h.2 (k.s λy=>qr _ _) λx j=>n x (qJ _ j)⟩)
  (λi f i ps rest d b o m i i i h k n=>⟨(m _ _ _) h.1 (k.s λy=>qj _ _) λx j=>n x (.tail _ (qx _ j)),
   (o _ _ _) h.2 ((k.s λy=>qr _ _).u λx j=>n x (.tail _ (qJ _ (qx _ j)))) λx j=>n x (.tail _ (qJ _ (qJ _ j)))⟩)
  (λf l i1 i i i h k n=>⟨h.1,(i1 _ _ _) h.2 k n⟩)
  (λl i0 i i i h k n=>(i0 _ _ _) h k n)
  (λi i i i i i=>oy)
  (λe l i0 i1 i i i h k n=>⟨(i0 _ _ _) h.1 (k.s λy=>qj _ _) λx j=>n x<|qx _ j,(i1 _ _ _) h.2 (k.s λy=>qr _ _) λx j=>n x<|qJ _ j⟩)
theorem ab8(e:E):WS lO Φ e->Dh lO Γ g (λx=>fK x e)->(∀x∈bd e,g x=ft)->WS Γ Φ (sub g e):=(Qg).1 e _ _ _
theorem rh:∀{l:qe E},oJ Γ Φ l->∀e∈l,WS Γ Φ e
 |_::_,h,_,.head _=>h.1
 |_::_,h,_,.tail _ a=>rh h.2 _ a
theorem Hk:∀{l:qe E},(∀e∈l,WS Γ Φ e)->oJ Γ Φ l
 |[],_=>trivial
 |_::_,h=>⟨h _<|.head _,Hk λe a=>h e<|.tail _ a⟩
theorem P5(o:∀y e,g y=dA e->uh e):(∀e:E,bd (sub g e)=bd e)/\∀l:qe E,lM (iI g l)=lM l:=
 E.J
  (λh=>dq)
  (λy=>by
  show bd ((g y).getD (.s y))=[];cases q:g y with
  |none=>rfl
  |some e=>rcases o _ _ q with⟨k,rfl⟩|⟨z,rfl⟩<;>rfl)
  (λh=>dq)
  (λy e i1=>i1)
  (λh e i1=>i1)
  (λa b c i0 i1 i2=>by show bd _++bd _++bd _=bd a++bd b++bd c;rw[i0,i1,i2])
  (λl e i0 i1=>by show lM _++bd _=lM l++bd e;rw[i0,i1])
  (λh l i1=>i1)
  (λh ps rest b l n m=>by show ps++rs rest++bd _++lM _=ps++rs rest++bd b++lM l;rw[m,n])
  (λh f h ps rest d b j i=>by show f::bd _++(ps++rs rest++bd _)=f::bd b++(ps++rs rest++bd d);rw[j,i])
  (λh l i1=>i1)
  (λl i0=>i0)
  (dq)
  (λe l i0 i1=>by show bd _++lM _=bd e++lM l;rw[i0,i1])
theorem abT(a:∀y e,g y=dA e->uh e)(e:E):bd (sub g e)=bd e:=(P5 a).1 e
theorem p9:∀{ps:qe qd} {l:qe E},(lM ((bU p ps l).map (·.2))).Sublist (lM l)
 |[],_=>zi _
 |_::_,[]=>zi _
 |y::ps,e::l=>by
  cases a:p y e with
  |true=>rw[gD a];exact ahv p9<|Za _ _
  |false=>rw[gE a];exact Zs (xb _)<|p9 (ps:=ps) (l:=l)
theorem nK:∀{ps:qe qd} {l:qe E},((bU p ps l).map (·.1)).Sublist ps
 |[],_=>zi _
 |_::_,[]=>zi _
 |y::ps,e::l=>by
  cases a:p y e with
  |true=>rw[gD a];exact List.Sublist.cons _ nK
  |false=>rw[gE a];exact List.Sublist.cons_cons _<|nK (ps:=ps) (l:=l)
theorem Ab:bd (without lb s b)=s.map (·.1)++bd b++lM (s.map (·.2)):=by
 cases s with
 |nil=>exact(qO _).symm
 |cons q s=>show _++rs (-1)++_++_=_;rw[show rs (-1)=[]from dq,qO]
theorem F0(h:rest<0):rs rest=[]:=if_neg (by exact alH h)
theorem jT(h:kc ps rest l=hY):rest<0/\ps.length=l.length:=by
 unfold kc at h;rw[qz,zw,zw]at h;exact h
theorem P6:(bd (oE F lb ps rest b l)).Sublist (ps++rs rest++bd b++lM l):=
 li (P:=λe=>(bd e).Sublist (ps++rs rest++bd b++lM l)) (xb _) λh=>by
  rw[Ab,abT λy e h=>(i7 h).1];exact Zs (Zs (nK.trans<|zm _ _)<|xb _) p9
theorem UV(F:Fx):(∀e:E,(bd (cp F e)).Sublist (bd e))/\∀l:qe E,(lM (cps F l)).Sublist (lM l):=
 E.J
  (λf=>xb _)
  (λf=>xb _)
  (λf=>xb _)
  (λf e i1=>i1)
  (λf e i1=>i1)
  (λa b c i0 i1 i2=>((i0).append (i1)).append (i2))
  (λl e i0 i1=>(i0).append (i1))
  (λf l i1=>i1)
  (λf f f b l j i=>P6.trans<|((xb _).append (j)).append (i))
  (λf f f f f d b h g=>((g).append ((xb _).append (h))).cons_cons _)
  (λf l i1=>i1)
  (λl i0=>i0)
  (xb _)
  (λe l i0 i1=>(i0).append (i1))
theorem Js(F:Fx)(e:E):(bd (cp F e)).Sublist (bd e):=(UV F).1 e
theorem wq(F:Fx):∀l:qe E,(cps F l).length=l.length
 |[]=>rfl
 |_::l=>qh xZ<|wq F l
theorem Qk(hb:WS (ps++rs rest++Γ) Φ b)(hl:oJ Γ Φ l)(fr:Fr Γ Φ (ps++rs rest++bd b))(s:Ss F λx=>fK x b):WS Γ Φ (oE F lb ps rest b l):=by
 refine li (P:=λe=>WS Γ Φ e) ⟨hb,hl⟩ λh=>?_
 ·obtain⟨h1,h2⟩:=jT h
  ·have d:oJ Γ Φ ((bU (cj F) ps l).map (·.2)):=Hk λe c=>by
    obtain⟨q,f,rfl⟩:=xf.mp c;exact rh hl _ (lh f).2
   have body:WS ((bU (cj F) ps l).map (·.1)++Γ) Φ (sub (gN (iX (cj F) ps l)) b):=by
    refine ab8 b hb (λx a=>?_) λx a=>?_
    ·rw[F0 h1,qO]at a;refine⟨λn=>?_,λe q=>?_,λq=>?_⟩
     ·rcases qY.mp a with a|a
      ·rcases tL (p:=cj F) h2 x a with⟨e,m⟩|⟨e,m⟩
       ·obtain⟨g,q⟩:=Lk m;rw[q]at n;cases n
       ·exact qx _<|xf.mpr ⟨_,m,dq⟩
      ·exact qJ _ a
     ·obtain⟨lf,_,_,c⟩:=i7 q;have w:=rh hl _ c;rcases lf with⟨k,rfl⟩|⟨y,rfl⟩
      ·exact .inl ⟨k,dq⟩
      ·exact .inr ⟨y,qJ _ w,dq⟩
     ·rcases qY.mp a with a|a
      ·rcases tL (p:=cj F) h2 x a with⟨e,m⟩|⟨e,m⟩
       ·have:=(vH<|GL m).2;rw[s x q]at this;cases this
       ·exact qx _<|xf.mpr ⟨_,m,dq⟩
      ·exact qJ _ a
    ·cases q:gN (iX (cj F) ps l) x with
     |none=>rfl
     |some e=>exact qH dq<|(xp.mp fr.1).2.2 x (qx _ (i7 q).2.2.1) x a
   generalize bU (cj F) ps l=st at d body;cases st with
   |nil=>exact body
   |cons q st=>exact⟨by rw[show rs (-1)=[]from dq,qO];exact body,d⟩
theorem Jx(F:Fx):(∀e:E,∀(Γ Φ:qe qd),WS Γ Φ e->Fr Γ Φ (bd e)->Ss F (λx=>fK x e)->WS Γ Φ (cp F e))/\∀l:qe E,∀(Γ Φ:qe qd),oJ Γ Φ l->Fr Γ Φ (lM l)->Ss F (λx=>f6 x l)->oJ Γ Φ (cps F l):=
 E.J
  (λi i i i i i=>oy)
  (λi i i h i i=>h)
  (λi i i h i i=>h)
  (λx e i1 i i h f s=>⟨h.1,(i1 _ _) h.2 f s.r⟩)
  (λi e i1 i i h f s=>⟨h.1,(i1 _ _) h.2 f s⟩)
  (λa b c i0 i1 i2 i i h f s=>⟨(i0 _ _) h.1 f.g.g s.l.l,(i1 _ _) h.2.1 f.g.i s.l.r,(i2 _ _) h.2.2 f.i s.r⟩)
  (λl e i0 i1 i i h f s=>⟨(i0 _ _) h.1 f.g s.l,(i1 _ _) h.2 f.i s.r⟩)
  (λw l i1 i i h f s=>⟨by rw[wq];exact h.1,(i1 _ _) h.2 f s⟩)
  (λlb ps rest b l n m i i h f s=>
  Qk ((n _ _) h.1 f.g.b s.l) ((m _ _) h.2 f.i s.r) ⟨f.g.1.sublist ((xb _).append (Js F b)),λx o=>f.g.2 x (((xb _).append (Js F b)).subset o)⟩ (Ss.i s.l))
  (λi i i i i d b k j i i h f s=>⟨(j _ _) h.1 f.d.g s.l,(k _ _) h.2 (Fr.b f.p.i) s.r⟩)
  (λg l i1 i i h f s=>⟨h.1,(i1 _ _) h.2 f s⟩)
  (λl i0 i i h f s=>(i0 _ _) h f s)
  (λi i i i i=>oy)
  (λe l i0 i1 i i h f s=>⟨(i0 _ _) h.1 f.g s.l,(i1 _ _) h.2 f.i s.r⟩)
theorem WU(F:Fx)(e:E):WS Γ Φ e->Fr Γ Φ (bd e)->Ss F (λx=>fK x e)->WS Γ Φ (cp F e):=(Jx F).1 e _ _
theorem ab7(F:Fx)(l:qe E):oJ Γ Φ l->Fr Γ Φ (lM l)->Ss F (λx=>f6 x l)->oJ Γ Φ (cps F l):=(Jx F).2 l _ _
abbrev Qb:qd->Prop:=λzz=>xT
theorem RG{st:qd->qw}(h:fz W st Qb th ρ aI)(x:qd):ee W cL (ev (.s x) ρ) (ev (sub th (.s x)) aI):=by
 show ee W cL (eg<|getv ρ x) (ev ((th x).getD (.s x)) aI);cases q:th x with
 |none=>exact aY<|DU h oy q
 |some e=>
  obtain⟨_,c,v,a,b,z⟩:=h.t x e q;have e1:getv ρ x=AC c:=by unfold getv;rw[a]
  rw[e1];rcases z with⟨k,rfl,rfl⟩|⟨y,rfl,⟨c',v',d,f,g⟩|⟨d,rfl⟩⟩
  ·exact aY<|DW b
  ·show ee W cL (eg (AC c)) (eg (getv aI y));rw[show getv aI y=AC c' by unfold getv;rw[d]]
   exact aY<|JM b f g
  ·show ee W cL (eg (AC c)) (eg (getv aI y));rw[show getv aI y=ret (.E un)by unfold getv;rw[d]]
   exact aY<|DW b
theorem HL(r:VR W.r v v')(ha:ee W cL a c)(hb:ee W cL b b'):ee W cL (if oq v then a else b) (if oq v' then c else b'):=by
 have:oq v=oq v':=by cases v<;>cases v'<;>first|exact r.elim|rfl|(rw[show _=_ from r])
 rw[this];split
 ·exact ha
 ·exact hb
theorem DT(h:uo W.r vs ws):ee W cL (ret (manyR vs)) (ret (manyR ws)):=by
 cases h with
 |t=>exact ct λc c=>uo.t
 |o a t=>cases t with
  |t=>exact ct λc l=>a.G l.r
  |o b t=>exact ct λc l=>(uo.o a<|.o b t).G l.r
theorem HM{st:qd->qw}(b:fz W st live th ρ aI)(hl:live f)(a:th f=ft)(h:uo W.r vs ws):
  ee W cL (match ρ.f f with|some d=>d vs|none=>ret<|.E un) (match aI.f f with|some d=>d ws|none=>ret<|.E un):=by
 cases q:ρ.f f with
 |none=>rw[b.D f hl a q];exact ct λc c=>dq
 |some d=>
  obtain⟨d',q',k⟩:=b.C f d hl a q;rw[q'];exact k W (.j _) _ _ h
theorem DN
  (h:ee W cL m (fy (oz (iI th (s.map (·.2))) aI) λws=>gB (s.map (·.1)) (-1) (ev<|sub th b) aI ws)):ee W cL m (ev (sub th<|without lb s b) aI):=by
 cases s with
 |nil=>
  refineλc l s s' x=>?_;obtain⟨a,l₂,o⟩:=h c l s s' x;exact⟨a,l₂,o⟩
 |cons q s=>exact ij<|ij (B7 h)
def Vl(F:Fx)(e:E):Prop:=∀{Γ Φ:qe qd} {th:Sb} {W:Wr} {ρ aI:Ev},WS Γ Φ e->Ss F (λx=>fK x e)->Fr Γ Φ (bd e)->Th Γ Φ th->fz W F.a Qb th ρ aI->ee W cL (ev e ρ) (ev (sub th<|cp F e) aI)
section
variable{F:Fx}{l:qe E}(ih:∀e∈l,Vl F e){Γ Φ:qe qd}{th:Sb}{W:Wr}{ρ aI:Ev}
theorem wB:(∀e∈l,Vl F e)->∀{W:Wr} {ρ aI:Ev},oJ Γ Φ l->Ss F (λx=>f6 x l)->Fr Γ Φ (lM l)->Th Γ Φ th->fz W F.a Qb th ρ aI->ee W (λW=>uo W.r) (oz l ρ) (oz (iI th (cps F l)) aI):=by
 induction l with
 |nil=>exactλa a a a a a a a a=>ct λa a=>.t
 |cons e l ih=>exactλH a a a h s f t c=>bt (gS<|H e (.head _) h.1 s.l f.g t c) λj l₁ v v' r=>bt (ih (λx d=>H x<|.tail _ d) h.2 s.r f.i t<|c.G l₁) λi l₂ vs ws rs=>ct λg b=>.o (VR.G (l₂.i b).r r)<|rs.G b.r
theorem Uv:(∀e∈l,Vl F e)->∀{W:Wr} {ρ aI:Ev},oJ Γ Φ l->Ss F (λx=>f6 x l)->Fr Γ Φ (lM l)->Th Γ Φ th->fz W F.a Qb th ρ aI->ee W (λa a a=>xT) (LL l ρ) (LL (iI th (cps F l)) aI):=by
 induction l with
 |nil=>exactλa a a a a a a a a=>ct λa a=>oy
 |cons e l ih=>exactλH a a a h s f t b=>bt (H e (.head _) h.1 s.l f.g t b) λd l₁ a a a=>ih (λx c=>H x<|.tail _ c) h.2 s.r f.i t<|b.G l₁
theorem Uw:(∀e∈l,Vl F e)->∀{ps:qe qd} {W:Wr} {ρ aI:Ev},ps.length=(cps F l).length->oJ Γ Φ l->Ss F (λx=>f6 x l)->Fr Γ Φ (lM l)->Th Γ Φ th->fz W F.a Qb th ρ aI->
  ee W (λW=>AR F th aI W ps<|cps F l) (oz l ρ) (oz (iI th ((bU (cj F) ps<|cps F l).map (·.2))) aI):=by
 induction l with
 |nil=>
  intro _ ps W ρ aI n _ _ _ _ _;rw[wy n];exact ct λi i=>.t
 |cons e l ih=>
  intro H ps W ρ aI n h s f t b;cases ps with
  |nil=>cases n
  |cons x ps=>
   show ee W (λW=>AR F th aI W (x::ps)<|cp F e::cps F l) _ (oz (iI th ((bU (cj F) (x::ps)<|cp F e::cps F l).map (·.2))) aI);have c:=H e (.head _) h.1 s.l f.g t b;have hl:=λ{g:Wr} {ρ aI:Ev}=>ih (λx j=>H x<|.tail _ j) (ps:=ps) (W:=g) (ρ:=ρ) (aI:=aI) (zH n) h.2 s.r f.i t;cases a:cj F x (cp F e)with
   |true=>exact As b a c<|hl b
   |false=>
    rw[gE a];exact bt (gS c) λg l₁ v v' r=>bt (hl<|b.G l₁) λm l₂ vs ws rs=>ct λk d=>.r a (VR.G (l₂.i d).r r)<|rs.G d
end
theorem abw(hb:Vl F b)(hl:∀e∈l,Vl F e):Vl F (.D lb ps rest b l):=λ{Γ Φ th W ρ aI} h s f t j=>by
 have i:Fr Γ Φ (ps++rs rest++bd b):=f.g;have c:∀x∈ps++rs rest,x∉Γ/\x∉Φ:=λx a=>i.2 x<|qx _ a
 have plain:ee W cL (ev (.D lb ps rest b l) ρ) (ev (sub th (.D lb ps rest (cp F b) (cps F l))) aI):=
  aY (aY (uG (bt (wB hl h.2 s.r f.i t j) λG l₁ vs ws r=>pO (j.G l₁) r (λx a=>t.v (c x (qx _ a)).1)
   (λq=>t.v (c rest (List.mem_append_right _ (by unfold rs;rw[if_pos q];exact .head _))).1) λC l₂ ρ aI o=>hb h.1 s.l i.b (t.u λx a=>(c x a).2) o)))
 show ee W cL _ (ev (sub th<|oE F lb ps rest (cp F b) (cps F l)) aI);refine li (P:=λe=>ee W cL (ev (.D lb ps rest b l) ρ)<|ev (sub th e) aI) plain λp=>?_
 ·obtain⟨h1,h2⟩:=jT p
  ·refine eV (eV (pN (DN (bt (Uw hl h2 h.2 s.r f.i t j) λG l₁ vs ws v=>?_))));have n:=v.u;rw[jc p (by exact alG h2 n)]
   have e2:gB ((bU (cj F) ps (cps F l)).map (·.1)) (-1) (ev (sub th (sub (gN (iX (cj F) ps (cps F l))) (cp F b)))) aI ws=cT ((bU (cj F) ps (cps F l)).map (·.1)) ws aI (ev (sub th (sub (gN (iX (cj F) ps (cps F l))) (cp F b)))):=
    jc (l:=(bU (cj F) ps<|cps F l).map (·.2)) (by unfold kc;rw[List.length_map,List.length_map];simp) (by rw[List.length_map];exact n.2)
   rw[e2];have wl:=ab7 F l h.2 f.i s.r
   have m:∀e∈cps F l,∀y,sub th e=.s y->y∈Γ:=λe g y q=>by
    have w:=rh wl e g;obtain⟨z,rfl,d⟩:=Rv q;cases r:th z with
    |none=>rw[r]at d;exact(E.noConfusion d λh=>h:z=y)▸w
    |some u=>
     rw[r]at d;rcases(t.g z _ r).2 with⟨k,z⟩|⟨y',B,z⟩
     ·exact qH (qh Wi<|z.symm.trans d) qB
     ·exact(E.noConfusion (z.symm.trans d) λh=>h:y'=y)▸B
   refine US v (j.G l₁) (λx a=>t.v (c x<|qx _ a).1) (λx a e g q=>(c x<|qx _ a).1 (m e g x q)) (xp.mp (xp.mp i.1).1).1 λC l₂ D H o=>?_;rw[sub_sub];refine hb h.1 s.l i.b ⟨(t.u λx a=>(c x a).2).j,λx e q=>?_⟩ o;unfold thn at q;cases r:gN (iX (cj F) ps<|cps F l) x with
   |none=>
    rw[r]at q;exact(t.u λx a=>(c x a).2).g x e q
   |some u=>
    rw[r]at q;obtain rfl:sub th u=e:=qA q;obtain⟨lf,_,a,g⟩:=i7 r;refine⟨qx _<|qx _ a,?_⟩;rcases lf with⟨k,rfl⟩|⟨y,rfl⟩
    ·exact .inl ⟨k,dq⟩
    ·have w:y∈Γ:=rh wl _ g;show(∃k,(th y).getD (.s y)=_)\/∃z∈_,(th y).getD (.s y)=_;cases r2:th y with
     |none=>exact .inr ⟨y,qJ _ w,dq⟩
     |some e2=>exact(t.g y e2 r2).2.imp id λ⟨z,A,q⟩=>⟨z,qJ _ A,q⟩
theorem abv(F:Fx)(e:E):Vl F e:=
 E.M (P:=Vl F) (λk {i i i i i i} i i i i i=>aY (ct λi i=>dq)) (λx {i i i i i i} i i i i j=>RG j x) (λg {i i i i i i} i i i i i=>aY (DV g))
  (λx e ih {i i i i i i} h s f t j=>aY<|bt (gS<|ih h.2 s.r f t j) λn l v v' r=>DO (j.G l) oy (s x (by show 0<(if x=x then 1 else 0)+_;rw[qK dq];exact q9 acH<|qj _ _)) r)
  (λg e ih {i i i i i i} h s f t j=>aY<|bt (gS<|ih h.2 s f t j) λn l v v' r=>DP g r)
  (λa b c A ib z {i i i i i i} h s f t j=>aY<|bt (gS<|A h.1 s.l.l f.g.g t j) λn l v v' r=>HL r (z h.2.2 s.r f.i t<|j.G l)<|ib h.2.1 s.l.r f.g.i t (j.G l))
  (λl e m y {i i i i i i} h s f t j=>aY<|bt (Uv m h.1 s.l f.g t j) λn l₁ i i i=>y h.2 s.r f.i t<|j.G l₁)
  (λw l m {i i i i i i} h s f t j=>aY<|bt (wB m h.2 s f t j) λn l₁ vs ws r=>DR r)
  (λi i i i i ib m=>abw ib m)
  (λlb g j2 ps rest d b id ib {Γ Φ th W ρ aI} h s f t j=>by
   have u:g∉Γ:=f.c.1;have fd:Fr Γ Φ (ps++rs rest++bd d):=f.p.i;have p:∀x∈ps++rs rest,x∉Γ/\x∉Φ:=λx o=>fd.2 x<|qx _ o;refine aY<|aY (uG<|aY (uG<|ib h.1 s.l f.d.g (t.i u) (j.H (t.v u).1 (t.v u).2 λn l₁ vs ws r=>?_)))
   exact pO (j.G l₁) r (λx o=>t.v (p x (List.mem_append_left _ o)).1) (λq=>t.v (p rest (List.mem_append_right _ (by unfold rs;rw[if_pos q];exact .head _))).1)
    λC l₂ ρ aI B=>id h.2 s.r fd.b (t.u λx o=>(p x o).2) B)
  (λg l m {i i i i i i} h s f t j=>aY<|aY (bt (wB m h.2 s f t j) λn l₁ vs ws r=>HM (j.G l₁) oy (t.v λq=>t.j g q h.1).1 r))
  (λl m {i i i i i i} h s f t j=>aY<|aY (bt (wB m h s f t j) λn l₁ vs ws r=>DT r)) e
theorem uI:∀{ps:qe qd} {l:qe E},mO x ((bU p ps l).map (·.2))<=mO x l
 |[],_=>qP _
 |_::_,[]=>qP _
 |y::ps,e::l=>by
  cases a:p y e with
  |true=>rw[gD a];exact qg uI<|qr _ _
  |false=>rw[gE a];exact qn (uI (ps:=ps) (l:=l)) _
theorem F1:nA x (without lb s b)=nA x b+mO x (s.map (·.2)):=by
 cases s<;>rfl
theorem EY(F:Fx)(lb:qd)(ps:qe qd)(rest:qd)(b:E)(l:qe E):Bv F lb ps rest b l=.D lb ps rest b l\/∃x e,ps=[x]/\l=[e]/\bq F x=hY/\F.a x=np/\gf e=hY/\Bv F lb ps rest b l=.y [e] b:=by
 cases ps with
 |nil=>exact .inl dq
 |cons x ps=>cases ps with
  |cons=>exact .inl (by cases l<;>rfl)
  |nil=>cases l with
   |nil=>exact .inl dq
   |cons e l=>cases l with
    |cons=>exact .inl dq
    |nil=>
     by_cases h:(bq F x&&!F.a x&&gf e)=hY
     ·exact .inr ⟨x,e,dq,dq,bA<|bA h,(xc _).mp (bB<|bA h),bB h,qK h⟩
     ·exact .inl<|if_neg h
theorem g7(F:Fx)(lb:qd)(ps:qe qd)(rest:qd)(b:E)(l:qe E):lF F lb ps rest b l=.D lb ps rest b l\/
  (kc ps rest l=hY/\((∃x e,ps=[x]/\l=[e]/\bq F x=hY/\F.a x=np/\gf e=hY/\lF F lb ps rest b l=.y [e] b)\/lF F lb ps rest b l=without lb (bU (cS F) ps l) b)):=by
 unfold lF;split
 ·rename_i h;split
  ·rcases EY F lb ps rest b l with q|⟨x,e,q⟩
   ·exact .inl q
   ·exact .inr ⟨h,.inl ⟨x,e,q⟩⟩
  ·exact .inr ⟨h,.inr dq⟩
 ·exact .inl dq
theorem g6(F:Fx)(x:qd)(e:E):oB F x e=.F x e\/(bq F x=hY/\((quiet F e=hY/\oB F x e=.u .e)\/(gf e=hY/\oB F x e=.y [e] (.u .e)))):=by
 unfold oB;split
 ·rename_i h;split
  ·rename_i q;exact .inr ⟨h,.inl ⟨q,dq⟩⟩
  ·split
   ·rename_i q;exact .inr ⟨h,.inr ⟨q,dq⟩⟩
   ·exact .inl dq
 ·exact .inl dq
section
variable(F:Fx)(x:qd)
theorem YA:(∀e:E,nA x (dr F e)<=nA x e)/\∀l:qe E,mO x (mF F l)<=mO x l:=
 E.J (λg=>qm _) (λg=>qm _) (λg=>qm _)
  (λy e ih=>by
   show nA x (oB F y<|dr F e)<=_;rcases g6 F y (dr F e)with q|⟨_,⟨_,q⟩|⟨_,q⟩⟩<;>rw[q]
   ·exact ih
   ·exact qP _
   ·exact ih)
  (λg e i=>i) (λa b c i j k=>qM (qM i j) k) (λl e i j=>qM i j) (λg l i=>i)
  (λlb ps rest b l h1 h2=>by
   show nA x (lF F lb ps rest (dr F b)<|mF F l)<=nA x b+mO x l;rcases g7 F lb ps rest (dr F b) (mF F l)with q|⟨_,⟨y,e,_,h,_,_,_,q⟩|q⟩<;>rw[q]
   ·exact qM h1 h2
   ·rw[h]at h2;exact qg (qM h2 h1)<|qL (xa _ _)
   ·rw[F1];exact qM h1 (qg uI h2))
  (λlb f j2 ps rest d b i j=>by
   show nA x (if bq F f&&!F.a f then dr F b else .H lb f j2 ps rest (dr F d) (dr F b))<=nA x b+nA x d
   split
   ·exact qg j<|qj _ _
   ·exact qM j i)
  (λf l i=>qn i _) (λl i=>i) (qm _) λe l i j=>qM i j
theorem adN(e:E):nA x (dr F e)<=nA x e:=(YA F x).1 e
theorem XU:(∀e:E,fK x (dr F e)<=fK x e)/\∀l:qe E,f6 x (mF F l)<=f6 x l:=
 E.J (λg=>qm _) (λg=>qm _) (λg=>qm _)
  (λy e ih=>by
   show fK x (oB F y<|dr F e)<=_;rcases g6 F y (dr F e)with q|⟨_,⟨_,q⟩|⟨_,q⟩⟩<;>rw[q]
   ·exact qn ih _
   ·exact qP _
   ·exact qg ih (qr _ _))
  (λg e i=>i) (λa b c i j k=>qM (qM i j) k) (λl e i j=>qM i j) (λg l i=>i)
  (λlb ps rest b l h1 h2=>by
   show fK x (lF F lb ps rest (dr F b)<|mF F l)<=fK x b+f6 x l;rcases g7 F lb ps rest (dr F b) (mF F l)with q|⟨_,⟨y,e,_,h,_,_,_,q⟩|q⟩<;>rw[q]
   ·exact qM h1 h2
   ·rw[h]at h2;exact qg (qM h2 h1)<|qL (xa _ _)
   ·rw[wY];exact qM h1 (qg pK h2))
  (λlb f j2 ps rest d b i j=>by
   show fK x (if bq F f&&!F.a f then dr F b else .H lb f j2 ps rest (dr F d) (dr F b))<=fK x b+fK x d
   split
   ·exact qg j<|qj _ _
   ·exact qM j i)
  (λf l i=>i) (λl i=>i) (qm _) λe l i j=>qM i j
theorem adu(e:E):fK x (dr F e)<=fK x e:=(XU F x).1 e
end
def Sp{α:Type}(l m:qe α):Prop:=(m.Nodup->l.Nodup)/\∀x∈l,x∈m
theorem Sp.j(l:qe α):Sp l l:=⟨id,λa=>id⟩
theorem Sp.A(h:l.Sublist m):Sp l m:=⟨λn=>n.sublist h,λb a=>h.subset a⟩
theorem Sp.i(a:Sp l m)(b:Sp m n):Sp l n:=⟨λh=>a.1<|b.1 h,λx c=>b.2 x<|a.2 x c⟩
theorem Sp.f(a:Sp l m)(b:Sp d m'):Sp (l++d) (m++m'):=
 ⟨λh=>by
  obtain⟨h1,h2,h3⟩:=xp.mp h;exact xp.mpr ⟨a.1 h1,b.1 h2,λx c y e=>h3 x (a.2 x c) y<|b.2 y e⟩,
  λx c=>(qY.mp c).elim (λq=>qx _ (a.2 x q)) λq=>qJ _ (b.2 x q)⟩
theorem Sp.o(x:α)(a:Sp l m):Sp (x::l) (x::m):=Sp.f (Sp.j [x]) a
theorem Sp.k(l m:qe α):Sp (l++m) (m++l):=⟨λh=>Zx.nodup_iff.mp h,λx a=>Zx.mem_iff.mp a⟩
mutual
noncomputable def gZ:E->qe qd
 |.F _ e|.G _ e=>gZ e
 |.v a b c=>gZ a++gZ b++gZ c
 |.y l e=>j9 l++gZ e
 |.A _ l|.L _ l|.I l=>j9 l
 |.D lb _ _ b l=>lb::gZ b++j9 l
 |.H lb _ j2 _ _ d b=>lb::gZ b++(j2::gZ d)
 |_=>[]
noncomputable def j9:qe E->qe qd
 |[]=>[]
 |e::l=>gZ e++j9 l
end
theorem Kf(o:∀y e,g y=dA e->uh e):(∀e:E,gZ (sub g e)=gZ e)/\∀l:qe E,j9 (iI g l)=j9 l:=
 E.J
  (λh=>dq)
  (λy=>by
  show gZ ((g y).getD (.s y))=[];cases q:g y with
  |none=>rfl
  |some e=>rcases o _ _ q with⟨k,rfl⟩|⟨z,rfl⟩<;>rfl)
  (λh=>dq)
  (λy e i1=>i1)
  (λh e i1=>i1)
  (λa b c i0 i1 i2=>by show gZ _++gZ _++gZ _=gZ a++gZ b++gZ c;rw[i0,i1,i2])
  (λl e i0 i1=>by show j9 _++gZ _=j9 l++gZ e;rw[i0,i1])
  (λh l i1=>i1)
  (λlb ps rest b l n m=>by show lb::gZ _++j9 _=lb::gZ b++j9 l;rw[m,n])
  (λlb f j2 ps rest d b j i=>by show lb::gZ _++(j2::gZ _)=lb::gZ b++(j2::gZ d);rw[j,i])
  (λh l i1=>i1)
  (λl i0=>i0)
  (dq)
  (λe l i0 i1=>by show gZ _++j9 _=gZ e++j9 l;rw[i0,i1])
theorem Tm(a:∀y e,g y=dA e->uh e)(e:E):gZ (sub g e)=gZ e:=(Kf a).1 e
theorem nJ:∀{ps:qe qd} {l:qe E},(j9 ((bU p ps l).map (·.2))).Sublist (j9 l)
 |[],_=>zi _
 |_::_,[]=>zi _
 |y::ps,e::l=>by
  cases a:p y e with
  |true=>rw[gD a];exact ahv nJ<|Za _ _
  |false=>rw[gE a];exact Zs (xb _)<|nJ (ps:=ps) (l:=l)
theorem vA:(gZ (without lb s b)).Sublist (lb::gZ b++j9 (s.map (·.2))):=by
 cases s with
 |nil=>exact(zm _ _).cons _
 |cons q s=>exact xb _
theorem Kg:(gZ (oE F lb ps rest b l)).Sublist (lb::gZ b++j9 l):=
 li (P:=λe=>(gZ e).Sublist (lb::gZ b++j9 l)) (xb _) λh=>by
  refine vA.trans ?_;rw[Tm λy e h=>(i7 h).1];exact((xb _).append nJ)
section
variable(F:Fx)
theorem Ol:(∀e:E,(gZ (cp F e)).Sublist (gZ e))/\∀l:qe E,(j9 (cps F l)).Sublist (j9 l):=
 E.J
  (λf=>xb _)
  (λf=>xb _)
  (λf=>xb _)
  (λf e i1=>i1)
  (λf e i1=>i1)
  (λa b c i0 i1 i2=>((i0).append (i1)).append (i2))
  (λl e i0 i1=>(i0).append (i1))
  (λf l i1=>i1)
  (λf f f b l j i=>Kg.trans<|((j).cons_cons _).append (i))
  (λf f f f f d b h g=>((g).cons_cons _).append ((h).cons_cons _))
  (λf l i1=>i1)
  (λl i0=>i0)
  (xb _)
  (λe l i0 i1=>(i0).append (i1))
theorem aah(e:E):(gZ (cp F e)).Sublist (gZ e):=(Ol F).1 e
theorem UU:(∀e:E,Sp (bd (dr F e)) (bd e))/\∀l:qe E,Sp (lM (mF F l)) (lM l):=
 E.J
  (λg=>Sp.j _)
  (λg=>Sp.j _)
  (λg=>Sp.j _)
  (λy e i1=>by
  have ih:=i1;show Sp (bd<|oB F y (dr F e)) (bd e);rcases g6 F y (dr F e)with q|⟨_,⟨_,q⟩|⟨_,q⟩⟩<;>rw[q]
  ·exact ih
  ·exact .A<|zi _
  ·show Sp (bd (dr F e)++[]++[]) _;rw[qO,qO];exact ih)
  (λg e i1=>i1)
  (λa b c i0 i1 i2=>((i0).f (i1)).f (i2))
  (λl e i0 i1=>(i0).f (i1))
  (λg l i1=>i1)
  (λlb ps rest b l m k=>by
  have h1:=m;have h2:=k;show Sp (bd<|lF F lb ps rest (dr F b) (mF F l)) (ps++rs rest++bd b++lM l);rcases g7 F lb ps rest (dr F b) (mF F l)with q|⟨_,⟨y,e,_,i,_,_,_,q⟩|q⟩<;>rw[q]
  ·exact((Sp.j _).f h1).f h2
  ·rw[i]at h2;refine(Sp.k (lM [e])<|bd (dr F b)).i ((h1.f h2).i (.A ?_));rw[qR (ps++rs rest)];exact Za _ _
  ·rw[Ab];exact((Sp.A (nK.trans (zm _ _))).f h1).f ((Sp.A p9).i h2))
  (λlb f j2 ps rest d b j h=>by
  show Sp (bd (if bq F f&&!F.a f then dr F b else .H lb f j2 ps rest (dr F d) (dr F b))) (f::bd b++(ps++rs rest++bd d))
  split
  ·exact(h).i (.A<|(zm _ _).cons _)
  ·exact((h).o _).f ((Sp.j _).f (j)))
  (λg l i1=>i1)
  (λl i0=>i0)
  (Sp.j _)
  (λe l i0 i1=>(i0).f (i1))
theorem af5(e:E):Sp (bd (dr F e)) (bd e):=(UU F).1 e
theorem Oj:(∀e:E,Sp (gZ (dr F e)) (gZ e))/\∀l:qe E,Sp (j9 (mF F l)) (j9 l):=
 E.J
  (λg=>Sp.j _)
  (λg=>Sp.j _)
  (λg=>Sp.j _)
  (λy e i1=>by
  have ih:=i1;show Sp (gZ<|oB F y (dr F e)) (gZ e);rcases g6 F y (dr F e)with q|⟨_,⟨_,q⟩|⟨_,q⟩⟩<;>rw[q]
  ·exact ih
  ·exact .A<|zi _
  ·show Sp (gZ (dr F e)++[]++[]) _;rw[qO,qO];exact ih)
  (λg e i1=>i1)
  (λa b c i0 i1 i2=>((i0).f (i1)).f (i2))
  (λl e i0 i1=>(i0).f (i1))
  (λg l i1=>i1)
  (λlb ps rest b l m k=>by
  have h1:=m;have h2:=k;show Sp (gZ<|lF F lb ps rest (dr F b) (mF F l)) (lb::gZ b++j9 l);rcases g7 F lb ps rest (dr F b) (mF F l)with q|⟨_,⟨y,e,_,i,_,_,_,q⟩|q⟩<;>rw[q]
  ·exact(h1.o _).f h2
  ·rw[i]at h2;exact(Sp.k (j9 [e])<|gZ (dr F b)).i ((h1.f h2).i (.A<|List.sublist_cons_self _ _))
  ·exact(Sp.A vA).i ((h1.o _).f ((Sp.A nJ).i h2)))
  (λlb f j2 ps rest d b j h=>by
  show Sp (gZ (if bq F f&&!F.a f then dr F b else .H lb f j2 ps rest (dr F d) (dr F b))) (lb::gZ b++(j2::gZ d))
  split
  ·exact(h).i (.A<|(zm _ _).cons _)
  ·exact((h).o _).f ((j).o _))
  (λg l i1=>i1)
  (λl i0=>i0)
  (Sp.j _)
  (λe l i0 i1=>(i0).f (i1))
theorem aag(e:E):Sp (gZ (dr F e)) (gZ e):=(Oj F).1 e
end
structure Nr(lO Γ vN Φ:qe qd)(r s:qd->qc):Prop where
 v:∀x∈lO,x∈Γ\/(r x=0/\s x=0)
 f:∀x∈vN,x∈Φ\/r x=0
theorem Nr.I(h:Nr lO Γ d Φ r s)(a:∀x,e x<=r x)(b:∀x,s' x<=s x):Nr lO Γ d Φ e s':=
 ⟨λx c=>by
  rcases h.v x c with q|⟨p,q⟩
  ·exact .inl q
  ·have:=a x;have:=b x;exact .inr ⟨by grind,by grind⟩,λx c=>by
  rcases h.f x c with q|p
  ·exact .inl q
  ·have:=a x;exact .inr (by exact aa2 p this)⟩
theorem Nr.l{lO Γ a Φ:qe qd}{r s c s':qd->qc}(h:Nr lO Γ a Φ (λx=>r x+c x) (λx=>s x+s' x)):Nr lO Γ a Φ r s:=h.I (λb=>qj _ _) λb=>qj _ _
theorem Nr.r{lO Γ a Φ:qe qd}{r s b s':qd->qc}(h:Nr lO Γ a Φ (λx=>r x+b x) (λx=>s x+s' x)):Nr lO Γ a Φ b s':=h.I (λc=>qr _ _) λc=>qr _ _
theorem Nr.u{lO Γ a Φ ps:qe qd}{r s:qd->qc}(h:Nr lO Γ a Φ r s):Nr (ps++lO) (ps++Γ) a Φ r s:=
 ⟨λx b=>(qY.mp b).elim (λq=>.inl<|qx _ q) λq=>(h.v x q).imp (qJ _) id,h.f⟩
theorem Nr.i{lO Γ a Φ:qe qd}{f:qd}{r s:qd->qc}(h:Nr lO Γ a Φ r s):Nr lO Γ (f::a) (f::Φ) r s:=
 ⟨h.v,λx b=>(qG.mp b).elim (λq=>.inl<|q▸.head _) λq=>(h.f x q).imp (.tail _) id⟩
theorem ab9:(∀(e:E) (lO Γ m Φ:qe qd),WS lO m e->Nr lO Γ m Φ (λx=>nA x e) (λx=>fK x e)->WS Γ Φ e)/\∀(l:qe E) (lO Γ m Φ:qe qd),oJ lO m l->Nr lO Γ m Φ (λx=>mO x l) (λx=>f6 x l)->oJ Γ Φ l:=
 have no:∀{x:qd} {n:qc},¬(if x=x then 1 else 0)+n=0:=λq=>by rw[qK dq]at q;exact afa _<|(xa _ _).trans q
 E.J (λg g g g g g g=>oy)
  (λx g g g g h n=>(n.v x h).elim id λq=>qH q.1<|no (n:=0)) (λg g g g g h g=>h) (λx e i g g g g h n=>⟨(n.v x h.1).elim id λq=>qH q.2 no,i _ _ _ _ h.2<|n.I (λg=>qm _) λg=>qr _ _⟩) (λg e i g g g g h n=>⟨h.1,i _ _ _ _ h.2 n⟩)
  (λa b c i j k g g g g h n=>⟨i _ _ _ _ h.1 n.l.l,j _ _ _ _ h.2.1 n.l.r,k _ _ _ _ h.2.2 n.r⟩) (λl e i j g g g g h n=>⟨i _ _ _ _ h.1 n.l,j _ _ _ _ h.2 n.r⟩) (λw l i g g g g h n=>⟨h.1,i _ _ _ _ h.2 n⟩) (λg ps rest b l i j g g g g h n=>⟨i _ _ _ _ h.1 n.l.u,j _ _ _ _ h.2 n.r⟩)
  (λg f g ps rest d b i j g g g g h n=>⟨j _ _ _ _ h.1 n.l.i,i _ _ _ _ h.2 n.r.u⟩) (λf l i g g g g h n=>⟨(n.f f h.1).elim id λq=>qH q no,i _ _ _ _ h.2<|n.I (λg=>qr _ _) λg=>qm _⟩) (λl i g g g g h n=>i _ _ _ _ h n) (λg g g g g g=>oy) λe l i j g g g g h n=>⟨i _ _ _ _ h.1 n.l,j _ _ _ _ h.2 n.r⟩
theorem Qh(e:E)(h:WS lO a e)(n:Nr lO Γ a Φ (λx=>nA x e) (λx=>fK x e)):WS Γ Φ e:=ab9.1 e _ _ _ _ h n
structure Kn(F:Fx)(r s:qd->qc):Prop where
 r:∀x,0<r x->0<F.b x
 s:∀x,0<s x->F.a x=hY
theorem Kn.I{F:Fx}{r s c s':qd->qc}(h:Kn F r s)(a:∀x,c x<=r x)(b:∀x,s' x<=s x):Kn F c s':=⟨λx q=>h.r x<|q9 q (a x),λx q=>h.s x<|q9 q (b x)⟩
theorem Kn.d{F:Fx}{r s b s':qd->qc}(h:Kn F (λx=>r x+b x) (λx=>s x+s' x)):Kn F r s:=h.I (λa=>qj _ _) λa=>qj _ _
theorem Kn.f{F:Fx}{r s a s':qd->qc}(h:Kn F (λx=>r x+a x) (λx=>s x+s' x)):Kn F a s':=h.I (λb=>qr _ _) λb=>qr _ _
theorem Kn.k{F:Fx}{e:E}(h:Kn F (λx=>nA x e) λx=>fK x e):Kn F (λx=>nA x (dr F e)) λx=>fK x (dr F e):=h.I (λx=>adN F x e) λx=>adu F x e
theorem Kn.g{F:Fx}{r s:qd->qc}(h:Kn F r s){x:qd}(u:bq F x=hY):r x=0:=by
 cases q:r x with
 |zero=>rfl
 |succ n=>
  have:=h.r x (by exact aa3 q)
  have u:F.b x=0:=by simpa [bq]using u
  exact aa4 this u
theorem Kn.i{F:Fx}{r s:qd->qc}(h:Kn F r s){x:qd}(u:F.a x=np):s x=0:=by
 cases q:s x with
 |zero=>rfl
 |succ n=>have:=h.s x (by exact aa3 q);rw[u]at this;cases this
theorem pz(h:cS F x e=hY):bq F x=hY/\F.a x=np/\quiet F e=hY:=by
 unfold cS at h;rw[qz,qz]at h;exact⟨h.1.1,by simpa using h.1.2,h.2⟩
theorem Qi{F:Fx}{Γ Φ:qe qd}{lb:qd}{ps:qe qd}{rest:qd}{b:E}{l:qe E}(hb:WS (ps++rs rest++Γ) Φ b)(hl:oJ Γ Φ l)(k:Kn F (λx=>nA x b) λx=>fK x b):WS Γ Φ (lF F lb ps rest b l):=by
 rcases g7 F lb ps rest b l with q|⟨c,⟨y,e,g,h,u,s,_,q⟩|q⟩<;>rw[q]
 ·exact⟨hb,hl⟩
 ·subst g h;refine⟨hl,Qh b hb ⟨λx a=>?_,λx a=>.inl a⟩⟩;rw[F0 (jT c).1]at a;rcases qY.mp a with a|a
  ·obtain rfl:x=y:=by simpa using a
   exact .inr ⟨k.g u,k.i s⟩
  ·exact .inl a
 ·have f:oJ Γ Φ ((bU (cS F) ps l).map (·.2)):=Hk λe j=>by
   obtain⟨q,i,rfl⟩:=xf.mp j;exact rh hl _ (lh i).2
  have body:WS ((bU (cS F) ps l).map (·.1)++Γ) Φ b:=Qh b hb ⟨λx a=>by
   rw[F0 (jT c).1,qO]at a;rcases qY.mp a with a|a
   ·rcases tL (p:=cS F) (jT c).2 x a with⟨e,m⟩|⟨e,m⟩
    ·have d:=pz<|GL m;exact .inr ⟨k.g d.1,k.i d.2.1⟩
    ·exact .inl<|qx _ (xf.mpr ⟨_,m,dq⟩)
   ·exact .inl (qJ _ a),λx a=>.inl a⟩
  generalize bU (cS F) ps l=st at f body;cases st with
  |nil=>exact body
  |cons q st=>exact⟨by rw[show rs (-1)=[]from dq,qO];exact body,f⟩
theorem tD(F:Fx):∀l:qe E,(mF F l).length=l.length
 |[]=>rfl
 |_::l=>qh xZ<|tD F l
theorem aca(F:Fx):(∀(e:E) (Γ Φ:qe qd),WS Γ Φ e->Kn F (λx=>nA x e) (λx=>fK x e)->WS Γ Φ (dr F e))/\∀(l:qe E) (Γ Φ:qe qd),oJ Γ Φ l->Kn F (λx=>mO x l) (λx=>f6 x l)->oJ Γ Φ (mF F l):=
 E.J (λn n n n n=>oy) (λn n n h n=>h) (λn n n h n=>h)
  (λx e i n n h k=>by
   have ih:=i _ _ h.2<|k.I (λn=>qm _) λn=>qr _ _;show WS _ _ (oB F x<|dr F e);rcases g6 F x (dr F e)with q|⟨_,⟨_,q⟩|⟨_,q⟩⟩<;>rw[q]
   ·exact⟨h.1,ih⟩
   ·trivial
   ·exact⟨⟨ih,oy⟩,oy⟩)
  (λn e i n n h k=>⟨h.1,i _ _ h.2 k⟩) (λa b c i j m n n h k=>⟨i _ _ h.1 k.d.d,j _ _ h.2.1 k.d.f,m _ _ h.2.2 k.f⟩) (λl e i j n n h k=>⟨i _ _ h.1 k.d,j _ _ h.2 k.f⟩) (λw l i n n h k=>⟨by rw[tD];exact h.1,i _ _ h.2 k⟩)
  (λlb ps rest b l i j n n h k=>Qi (i _ _ h.1 k.d) (j _ _ h.2 k.f) k.d.k)
  (λlb f j2 ps rest d b i j n n h k=>by
   have hb:=j _ _ h.1 k.d;show WS _ _ (if bq F f&&!F.a f then dr F b else .H lb f j2 ps rest (dr F d) (dr F b))
   split
   ·rename_i q;exact Qh _ hb ⟨λx o=>.inl o,λx o=>(qG.mp o).elim (λe=>.inr<|e▸k.d.k.g (bA q)) .inl⟩
   ·exact⟨hb,i _ _ h.2 k.f⟩)
  (λg l i n n h k=>⟨h.1,i _ _ h.2<|k.I (λn=>qr _ _) λn=>qm _⟩) (λl i n n h k=>i _ _ h k) (λn n n n=>oy) λe l i j n n h k=>⟨i _ _ h.1 k.d,j _ _ h.2 k.f⟩
theorem Qj(F:Fx)(e:E)(h:WS Γ Φ e)(k:Kn F (λx=>nA x e) (λx=>fK x e)):WS Γ Φ (dr F e):=(aca F).1 e _ _ h k
structure Gr(s t:Sg):Prop where
 c:∃m,t.c=s.c++m
 d:s.d<=t.d
 y:t.y=s.y
 z:t.z=s.z
 C:t.o=s.o
theorem Gr.j(s:Sg):Gr s s:=⟨⟨[],(qO _).symm⟩,qm _,dq,dq,dq⟩
theorem Gr.i(a:Gr s t)(b:Gr t u):Gr s u:=
 ⟨let⟨m,p⟩:=a.c;let⟨n,q⟩:=b.c;⟨m++n,by rw[q,p,qR]⟩,qg a.d b.d,b.y.trans a.y,b.z.trans a.z,b.C.trans a.C⟩
def oh{α:Type}(P:α->Prop)(m:Mo α):Prop:=∀s,∃a t,m s=.c a t/\P a/\Gr s t
def vC(r:R):Prop:=∃v,r=.E v
section
variable{α:Type}{P:α->Prop}{m:Mo α}
theorem jE(h:P a):oh P (ret a):=λs=>⟨a,s,dq,h,.j _⟩
theorem kj(h:oh P m)(k:∀a,P a->oh Q (f a)):oh Q (fy m f):=λs=>by
 obtain⟨a,t,e,p,g⟩:=h s;obtain⟨b,u,c,q,g'⟩:=k a p t;exact⟨b,u,by unfold fy;rw[e];exact c,q,g.i g'⟩
theorem gx(h:oh P m):oh P (eg m):=λs=>let⟨a,t,e,p,g⟩:=h {s with e:=s.e+1};⟨a,t,e,p,g.c,g.d,g.y,g.z,g.C⟩
theorem C3(h:oh P m):oh P (mk m):=λs=>let⟨a,t,e,p,g⟩:=h {s with d:=s.d+1};⟨a,t,e,p,g.c,qg (xO _) g.d,g.y,g.z,g.C⟩
end
theorem BC(h:oh vC m):oh (λa=>xT) (ln m):=kj h λr ⟨v,e⟩=>by rw[e];exact jE oy
theorem K4(ρ:Ev)(x:qd):oh vC (getv ρ x):=by
 unfold getv;split
 ·exactλs=>⟨_,s,dq,⟨_,dq⟩,.j _⟩
 ·exact jE ⟨_,dq⟩
theorem BD(h:∀ρ,oh vC (k ρ)):∀(ps:qe qd) (vs:qe V) (ρ:Ev),oh vC (cT ps vs ρ k)
 |[],vs,ρ=>by cases vs<;>exact h ρ
 |_::_,[],ρ=>h ρ
 |x::ps,v::vs,ρ=>λs=>by
  obtain⟨a,t,e,p,g⟩:=BD h ps vs (ρ.p x s.c.length) {s with c:=s.c++[v]}
  exact⟨a,t,e,p,(show Gr s {s with c:=s.c++[v]}from⟨⟨[v],dq⟩,qm _,dq,dq,dq⟩).i g⟩
theorem K3(h:w.b=hY)(n:vs.length=w.I):oh vC (jp w vs):=by
 cases w with
 |c=>cases h
 |d=>cases h
 |o=>
  match vs,n with
  |[a,b],_=>exactλs=>⟨_,_,dq,⟨_,dq⟩,⟨[],(qO _).symm⟩,xO _,dq,dq,dq⟩
 |e=>
  match vs,n with
  |[a,b],_=>exact jE ⟨_,dq⟩
 |v=>
  match vs,n with
  |[a],_=>exact jE ⟨_,dq⟩
 |g=>
  match vs,n with
  |[a],_=>exact jE ⟨_,dq⟩
theorem F9(F:Fx):(∀e:E,∀(Γ Φ:qe qd) (ρ:Ev),WS Γ Φ e->quiet F e=hY->oh vC (ev e ρ))/\∀l:qe E,∀(Γ Φ:qe qd) (ρ:Ev),oJ Γ Φ l->oW F l=hY->oh (λvs:qe V=>vs.length=l.length) (oz l ρ)/\oh (λz:Z8=>xT) (LL l ρ):=
 E.J
  (λk z z ρ z z=>gx<|jE ⟨_,dq⟩) (λx z z ρ z z=>gx<|K4 ρ x) (λz z z z z h=>qH h qB) (λz z z z z z z h=>qH h qB) (λz z z z z z z h=>qH h qB)
  (λa b c i j k Γ Φ ρ w h=>by
   have h:(quiet F a&&quiet F b&&quiet F c)=hY:=h;rw[qz,qz]at h;refine gx<|kj (BC<|i Γ Φ ρ w.1 h.1.1) λv z=>?_;split
   ·exact k Γ Φ ρ w.2.2 h.2
   ·exact j Γ Φ ρ w.2.1 h.1.2)
  (λl e i j Γ Φ ρ w h=>gx<|kj (i Γ Φ ρ w.1<|bA h).2 λz z=>j Γ Φ ρ w.2<|bB h)
  (λp l i Γ Φ ρ w h=>gx<|kj (i Γ Φ ρ w.2<|bB h).1 λvs n=>K3 (bA h)<|n.trans w.1)
  (λlb ps rest b l i j Γ Φ ρ w h=>by
   refine gx (gx (C3 (kj (j Γ Φ ρ w.2 (bB (bA h))).1 λvs n=>?_)));rw[jc (l:=l) (bA (bA h)) n];exact BD (λρ=>i _ Φ ρ w.1 (bB h)) _ _ _)
  (λz f z ps rest d b i j Γ Φ ρ w h=>gx<|gx (C3<|gx (C3<|j _ _ _ w.1 h)))
  (λz z z z z z z h=>qH h qB) (λz z z z z z h=>qH h qB)
  (λz z z z z=>⟨jE dq,jE oy⟩)
  (λe l i j Γ Φ ρ w h=>⟨kj (BC<|i Γ Φ ρ w.1 (bA h)) λv z=>kj (j Γ Φ ρ w.2<|bB h).1 λvs n=>jE<|qh xZ n,kj (i Γ Φ ρ w.1<|bA h) λz z=>(j Γ Φ ρ w.2<|bB h).2⟩)
theorem yi(F:Fx)(e:E)(ρ:Ev)(w:WS Γ Φ e)(h:quiet F e=hY):oh vC (ev e ρ):=(F9 F).1 e Γ Φ ρ w h
def G1(m:Mo R):Prop:=∀s l t,m s≠.c (.b l) t
theorem iu{m:Mo R}(h:G1 m):G1 (eg m):=λa=>h _
theorem O8{m:Mo R}(h:G1 m):G1 (mk m):=λa=>h _
theorem nS(v:V):G1 (ret (.E v)):=λa a a e=>by cases e
theorem pn{α:Type}{m:Mo α}{f:α->Mo R}(h:∀a,G1 (f a)):G1 (fy m f):=λs l t e=>by
 unfold fy at e;cases q:m s with
 |c a u=>rw[q]at e;exact h a u l t e
 |b w x u=>rw[q]at e;cases e
theorem IM{k:Ev->Mo R}(h:∀ρ,G1 (k ρ)):∀(ps:qe qd) (vs:qe V) (ρ:Ev),G1 (cT ps vs ρ k)
 |[],vs,ρ=>by cases vs<;>exact h ρ
 |_::_,[],ρ=>h ρ
 |x::ps,v::vs,ρ=>λs=>IM h ps vs _ _
theorem O9{ps:qe qd}{rest:qd}{k:Ev->Mo R}{ρ:Ev}{vs:qe V}(h:∀ρ,G1 (k ρ)):G1 (gB ps rest k ρ vs):=by
 unfold gB;split
 ·exactλa a a e=>by cases e
 ·refine IM (λρ=>?_) _ _ _;split
  ·exact pn λv s=>h _ _
  ·exact h _
theorem T2(ρ:Ev)(x:qd):G1 (getv ρ x):=by
 unfold getv;split
 ·exactλa a a e=>by cases e
 ·exact nS _
theorem TZ(ρ:Ev)(x:qd)(v:V):G1 (oS ρ x v):=by
 unfold oS;split
 ·exactλa a a e=>by cases e
 ·exact nS _
theorem T3(g:qd):G1 (EJ g):=λs l t e=>by
 unfold EJ at e;split at e
 ·cases e
 ·split at e<;>cases e
theorem T0(g:qd)(v:V):G1 (du g v):=λs l t e=>by
 unfold du at e;dsimp only at e;split at e
 ·cases e
 ·split at e<;>cases e
theorem T1(w:Pw)(vs:qe V):G1 (jp w vs):=by
 have Jg:∀{n f} (v:V),G1 (K0 n f v):=λv=>by
  cases v with
  |B=>exactλc c c e=>nomatch e
  |e=>exact nS _
 cases vs with
 |nil=>exact nS _
 |cons a l=>cases w with
  |c=>exact Jg a
  |d=>exact Jg a
  |o=>cases l with
   |nil=>exact nS _
   |cons b l=>exact pn (m:=rV a b) λv=>nS v
  |e=>cases l<;>exact nS _
  |_=>exact nS _
theorem lD:∀(e:E) (ρ:Ev),gf e=hY->G1 (ev e ρ)
 |.u k,_,_=>iu<|nS _
 |.s x,ρ,_=>iu<|T2 ρ x
 |.B g,_,_=>iu<|T3 g
 |.F x e,ρ,_=>iu<|pn λv=>TZ ρ x v
 |.G g e,_,_=>iu<|pn λv=>T0 g v
 |.A w l,_,_=>iu<|pn λvs=>T1 w vs
 |.v a b c,ρ,h=>by
  have h:(gf b&&gf c)=hY:=h;rw[qz]at h;refine iu<|pn λv=>?_;split
  ·exact lD c ρ h.2
  ·exact lD b ρ h.1
 |.y l e,ρ,h=>iu<|pn λi=>lD e ρ h
 |.D lb ps rest b l,ρ,h=>by
  have h:(decide (rest<0)&&decide (ps.length=l.length)&&gf b)=hY:=h;rw[qz]at h;exact iu<|iu (O8<|pn λvs=>O9 λρ=>lD b ρ h.2)
 |.H _ f _ ps rest d b,ρ,h=>iu<|iu (O8<|iu (O8<|lD b _ h))
 |.L _ _,_,h=>by cases h
 |.I _,_,h=>by cases h
theorem DX{W:Wr}{m m':Mo R}(h:ee W cL m m')(c:oh vC m'):ee W (λf f (_:Z8)=>xT) (ln m) (ret ()):=λd l s s' x=>by
 obtain⟨p,l₂,o⟩:=h d l s s' x;obtain⟨z,t',e,⟨v',rfl⟩,g⟩:=c s';rw[e]at o;unfold ln fy;generalize m s=u at o;cases u with
 |b=>exact o.elim
 |c a t=>
  obtain⟨i,y⟩:=o;cases a with
  |b=>exact i.elim
  |E v=>
   refine⟨d,.j _,oy,x.N,x.M,λa b q=>⟨(y.K a b<|l₂.r _ _ q).1,(x.K a b q).2⟩,x.O,x.P,λa b q=>⟨(y.J a b<|l₂.k _ _ q).1,(x.J a b q).2⟩,λa b q=>?_,λc w q=>y.A c w<|l₂.A _ _ q,x.D,x.B,x.F,λc q=>y.L c<|l₂.B _ q,x.Q,x.G,λc q=>y.R c<|l₂.G _ q,x.I,x.S,?_,?_,?_⟩
   ·have h1:=y.E a b (l₂.k _ _ q)
    have e2:cellOf t' b=cellOf s' b:=by
     obtain⟨n,j⟩:=g.c;show t'.c.getD b un=s'.c.getD b un;rw[j];simp only[List.getD_eq_getElem?_getD,List.getElem?_append_left (x.J a b q).2]
    rw[e2]at h1;rw[VR.g l₂.r y.M h1 (x.E a b q)];exact x.E a b q
   ·have h1:=y.y;rw[g.y]at h1;rw[VR.g l₂.r y.M h1 x.y];exact x.y
   ·have h1:=y.z;rw[g.z]at h1;rw[VR.g l₂.r y.M h1 x.z];exact x.z
   ·exact y.C.trans g.C
theorem AS{W:Wr}{m m':Mo R}(h:ee W cL m m')(c:G1 m'):ee W (λb b (_:Z8)=>xT) (ln m) (fy m' λb=>ret ()):=λf l s s' x=>by
 obtain⟨e,l₂,o⟩:=h f l s s' x;unfold ln fy;have c:=c s';generalize m s=u at o;generalize m' s'=d at o c;cases u with
 |b w t s=>cases d with
  |c=>exact o.elim
  |b w' t' s'=>exact⟨e,l₂,o⟩
 |c a t=>cases d with
  |b=>exact o.elim
  |c g t'=>
   cases a with
   |E v=>exact⟨e,l₂,oy,o.2⟩
   |b vs=>cases g with
    |E=>exact o.1.elim
    |b ws=>exact qH dq<|c ws t'
abbrev lv(F:Fx):qd->Prop:=λx=>0<F.b x
abbrev EnD(F:Fx)(W:Wr)(ρ aI:Ev):Prop:=fz W F.a (lv F) Ee ρ aI
theorem yy{F:Fx}{x:qd}(h:bq F x=hY):¬lv F x:=λq=>by
 have:F.b x=0:=by simpa [bq]using h
 unfold lv at q;exact aa5 q this
inductive AD(F:Fx)(W:Wr):qe qd->qe E->qe V->qe V->Prop
 |t:AD F W [] [] [] []
 |j{x e v ps l vs ws}:cS F x e=hY->AD F W ps l vs ws->AD F W (x::ps) (e::l) (v::vs) ws
 |r{x e v w ps l vs ws}:cS F x e=np->VR W.r v w->AD F W ps l vs ws->AD F W (x::ps) (e::l) (v::vs) (w::ws)
theorem AD.G{F:Fx}{W c:Wr}{ps:qe qd}{l:qe E}{vs ws:qe V}(h:AD F W ps l vs ws)(le:W.e c):AD F c ps l vs ws:=by
 induction h with
 |t=>exact .t
 |j a _ ih=>exact .j a ih
 |r a b _ ih=>exact .r a (b.G le.r) ih
theorem AD.u{F:Fx}{W:Wr}{ps:qe qd}{l:qe E}{vs ws:qe V}(h:AD F W ps l vs ws):vs.length=ps.length/\ws.length=(bU (cS F) ps l).length:=by
 induction h with
 |t=>exact⟨dq,dq⟩
 |j a _ ih=>exact⟨qh xZ ih.1,by rw[gD a];exact ih.2⟩
 |r a b _ ih=>exact⟨qh xZ ih.1,by rw[gE a];exact qh xZ ih.2⟩
theorem iK(x:qd):Ee x=ft/\∀y,Ee y≠dA (.s x):=⟨dq,λa e=>by cases e⟩
theorem UR{F:Fx}{k k':Ev->Mo R}{ps:qe qd}:∀{l:qe E} {vs ws:qe V} {W:Wr} {ρ aI:Ev},AD F W ps l vs ws->EnD F W ρ aI->
  (∀f,W.e f->∀ρ aI,EnD F f ρ aI->ee f cL (k ρ) (k' aI))->ee W cL (cT ps vs ρ k) (cT ((bU (cS F) ps l).map (·.1)) ws aI k'):=by
 induction ps with
 |nil=>
  intro l vs ws W ρ aI h E i;cases h;exact i W (.j _) _ _ E
 |cons x ps ih=>
  intro l vs ws W ρ aI h E i;cases h with
  |@j _ e v _ l vs _ a t=>
   have d:=pz a;rw[gD a]
   exact k9 (F.a x) (b:=λc=>cT ps vs (ρ.p x c) k) λf le c g g=>
    ih (t.G le) ((E.G le).F dq (yy d.1) d.2.1) λj l₂=>i j<|le.i l₂
  |@r _ e v w _ l vs ws a b t=>
   rw[gE a];by_cases hl:lv F x
   ·exact pM (F.a x) (b:=λc=>cT ps vs (ρ.p x c) k) (b':=λc=>cT ((bU (cS F) ps l).map (·.1)) ws (aI.p x c) k') b λf le c c' cr=>
     ih (t.G le) ((E.G le).j (iK x).1 (iK x).2 (λg=>cr) (λq=>qH hl q) λq=>qH hl q) λj l₂=>i j<|le.i l₂
   ·exact k9 (F.a x) (b:=λc=>cT ps vs (ρ.p x c) k) λf le c h1 g=>uF (F.a x) (b':=λc=>cT ((bU (cS F) ps l).map (·.1)) ws (aI.p x c) k') λj l₂ c' h3=>
     ih (t.G<|le.i l₂) ((E.G<|le.i l₂).j (iK x).1 (iK x).2 (λq=>qH q hl) (λg q=>⟨l₂.B _ (h1 q).1,l₂.G _ (h1 q).2⟩) λg=>h3) λm n=>i m<|(le.i l₂).i n
theorem DQ{α β γ:Type}{W:Wr}{oV:Vg α β}{m:Mo α}{a:γ}{f:γ->Mo β}(h:ee W oV m (fy (ret a) f)):ee W oV m (f a):=h
theorem B5{W:Wr}{aI:Ev}{m:Mo R}{lb:qd}{s:qe (qd×E)}{b:E}
  (h:ee W cL m (fy (oz (s.map (·.2)) aI) λws=>gB (s.map (·.1)) (-1) (ev b) aI ws)):ee W cL m (ev (without lb s b) aI):=by
 cases s with
 |nil=>exactλa l s s' x=>h a l s s' x
 |cons q s=>exact ij<|ij (B7 h)
def QU(F:Fx)(e:E):Prop:=∀{Γ Φ:qe qd} {W:Wr} {ρ aI:Ev},WS Γ Φ e->Kn F (λx=>nA x e) (λx=>fK x e)->EnD F W ρ aI->ee W cL (ev e ρ) (ev (dr F e) aI)
section
variable{F:Fx}{l:qe E}{Γ Φ:qe qd}
theorem wA:(∀e∈l,QU F e)->∀{W:Wr} {ρ aI:Ev},oJ Γ Φ l->Kn F (λx=>mO x l) (λx=>f6 x l)->EnD F W ρ aI->ee W (λW=>uo W.r) (oz l ρ) (oz (mF F l) aI):=by
 induction l with
 |nil=>exactλa a a a a a a=>ct λa a=>.t
 |cons e l ih=>exactλH a a a h k c=>bt (gS<|H e (.head _) h.1 k.d c) λi l₁ v v' r=>bt (ih (λx d=>H x<|.tail _ d) h.2 k.f<|c.G l₁) λg l₂ vs ws rs=>ct λf b=>.o (VR.G (l₂.i b).r r)<|rs.G b.r
theorem Uf:(∀e∈l,QU F e)->∀{W:Wr} {ρ aI:Ev},oJ Γ Φ l->Kn F (λx=>mO x l) (λx=>f6 x l)->EnD F W ρ aI->ee W (λa a a=>xT) (LL l ρ) (LL (mF F l) aI):=by
 induction l with
 |nil=>exactλa a a a a a a=>ct λa a=>oy
 |cons e l ih=>exactλH a a a h k b=>bt (H e (.head _) h.1 k.d b) λd l₁ a a a=>ih (λx c=>H x<|.tail _ c) h.2 k.f<|b.G l₁
theorem abM{α:Type}{m:Mo α}:(fy (ret ()) λa=>fy m λws=>ret ws)=m:=by
 funext s;show fy m _ s=_;unfold fy;cases m s<;>rfl
theorem Ui:(∀e∈l,QU F e)->∀{ps:qe qd} {W:Wr} {ρ aI:Ev},ps.length=(mF F l).length->oJ Γ Φ l->Kn F (λx=>mO x l) (λx=>f6 x l)->EnD F W ρ aI->
  ee W (λW=>AD F W ps<|mF F l) (oz l ρ) (oz ((bU (cS F) ps<|mF F l).map (·.2)) aI):=by
 induction l with
 |nil=>
  intro _ ps W ρ aI n _ _ _;rw[wy n];exact ct λc c=>.t
 |cons e l ih=>
  intro H ps W ρ aI n h k f;cases ps with
  |nil=>cases n
  |cons x ps=>
   have g:=H e (.head _) h.1 k.d f;have hl:=λ{d:Wr} {ρ aI:Ev}=>ih (λx j=>H x<|.tail _ j) (ps:=ps) (W:=d) (ρ:=ρ) (aI:=aI) (zH n) h.2 k.f;show ee W (λW=>AD F W (x::ps)<|dr F e::mF F l) _ (oz ((bU (cS F) (x::ps)<|dr F e::mF F l).map (·.2)) aI);cases a:cS F x (dr F e)with
   |true=>
    rw[gD a,←abM (m:=oz ((bU (cS F) ps<|mF F l).map (·.2)) aI)];exact bt (DX g<|yi F (dr F e) aI (Qj F e h.1 k.d) (pz a).2.2) λd l₁ v c c=>bt ((hl f).G l₁) λo l₂ vs ws r=>ct λi b=>.j a<|r.G b
   |false=>
    rw[gE a];exact bt (gS g) λd l₁ v v' r=>bt (hl<|f.G l₁) λo l₂ vs ws rs=>ct λi b=>.r a (VR.G (l₂.i b).r r)<|rs.G b
end
theorem Uj{F:Fx}{x:qd}{e:E}(ih:QU F e):QU F (.F x e):=λ{Γ Φ W ρ aI} h k b=>by
 have g:Kn F (λx=>nA x e) λx=>fK x e:=k.I (λd=>qm _) λd=>qr _ _;have i:F.a x=hY:=k.s x (by show 0<(if x=x then 1 else 0)+_;rw[qK dq];exact q9 acH<|qj _ _)
 show ee W cL _ (ev (oB F x<|dr F e) aI);rcases g6 F x (dr F e)with q|⟨u,⟨c,q⟩|⟨c,q⟩⟩<;>rw[q]
 ·by_cases hl:lv F x
  ·exact aY<|bt (gS<|ih h.2 g b) λj l v v' r=>DO (b.G l) hl i r
  ·exact aY<|bt (gS<|ih h.2 g b) λj l v v' r=>Aq (b.G l) hl i v v'
 ·refine eV<|ij ?_;exact DQ (oV:=cL) (a:=()) (f:=λd=>ret<|R.E un)<|bt (DX (ih h.2 g b)<|yi F (dr F e) aI (Qj F e h.2 g) c) λj l v d d=>sO (b.G l) (yy u) i v
 ·refine eV<|ij ?_;exact bt (AS (ih h.2 g b)<|lD _ _ c) λj l v d d=>ij<|sO (b.G l) (yy u) i v
theorem Ul{W:Wr}{ρ aI:Ev}{e a:E}(H:ee W cL (ev e ρ) (ev a aI))(c:gf a=hY):ee W (λb vs b=>∃v,vs=[v]) (oz [e] ρ) (fy (ev a aI) λb=>ret ()):=λg l₁ s s' x=>by
 obtain⟨f,l₂,o⟩:=AS H (lD _ _ c) g l₁ s s' x;refine⟨f,l₂,?_⟩;generalize(fy (ev a aI) λb=>ret ()) s'=d at o;show W2 f _ (fy (ln<|ev e ρ) (λv=>fy (ret []) λvs=>ret<|v::vs) s) d;unfold fy;generalize ln (ev e ρ) s=u at o;cases u with
 |c v t=>cases d with
  |c=>exact⟨⟨v,dq⟩,o.2⟩
  |b=>exact o.elim
 |b=>cases d with
  |c=>exact o.elim
  |b=>exact o
theorem YT{F:Fx}{l:qe E}{e:E}(h:mF F l=[e]):∃b,l=[b]/\dr F b=e:=by
 cases l with
 |nil=>cases h
 |cons a l=>cases l with
  |nil=>exact⟨a,dq,(afd h).1⟩
  |cons=>cases h
theorem abm{F:Fx}{lb rest:qd}{ps:qe qd}{b:E}{l:qe E}(hb:QU F b)(hl:∀e∈l,QU F e):QU F (.D lb ps rest b l):=λ{Γ Φ W ρ aI} h k d=>by
 show ee W cL _ (ev (lF F lb ps rest (dr F b)<|mF F l) aI);rcases g7 F lb ps rest (dr F b) (mF F l)with q|⟨a,⟨y,e,A,j,u,s,c,q⟩|q⟩<;>rw[q]
 ·exact aY<|aY (uG<|bt (wA hl h.2 k.f d) λt l₁ vs ws r=>pO (d.G l₁) r (λx f=>iK x) (λf=>iK rest) λo l₂ ρ aI i=>hb h.1 k.d i)
 ·obtain⟨m,z,w⟩:=YT j;cases z;rw[A]at a⊢;refine eV (eV (pN (ij (bt (Ul (w▸hl m (.head _) h.2.1 k.f.d d) c) λt l₁ vs f ⟨v,B⟩=>?_))));rw[B,jc (l:=[m]) (by rw[j]at a;exact a) dq]
  exact k9 (F.a y) (b:=λc=>ev b<|ρ.p y c) λo l₂ c f f=>hb h.1 k.d<|((d.G l₁).G l₂).F dq (yy u) s
 ·refine eV (eV (pN (B5 (bt (Ui hl (jT a).2 h.2 k.f d) λt l₁ vs ws p=>?_))));have n:=p.u;have g:=jT a;rw[jc a (by exact aa6 n g)]
  have e2:gB ((bU (cS F) ps (mF F l)).map (·.1)) (-1) (ev (dr F b)) aI ws=cT ((bU (cS F) ps (mF F l)).map (·.1)) ws aI (ev (dr F b)):=
   jc (l:=(bU (cS F) ps<|mF F l).map (·.2)) (by unfold kc;rw[List.length_map,List.length_map];simp) (by rw[List.length_map];exact n.2)
  rw[e2];exact UR p (d.G l₁) λo l₂ C D i=>hb h.1 k.d i
theorem abi(F:Fx)(e:E):QU F e:=
 E.M (P:=QU F) (λk {f f f f f} f f f=>aY (ct λf f=>dq)) (λx {f f f f f} f k i=>aY (DU i (k.r x (by show 0<(if x=x then 1 else 0);rw[qK dq];exact acH)) dq)) (λg {f f f f f} f f f=>aY (DV g))
  (λx e ih=>Uj ih) (λg e ih {f f f f f} h k i=>aY<|bt (gS<|ih h.2 k i) λm l v v' r=>DP g r)
  (λa b c p ib o {f f f f f} h k i=>aY<|bt (gS<|p h.1 k.d.d i) λm l v v' r=>HL r (o h.2.2 k.f<|i.G l)<|ib h.2.1 k.d.f (i.G l))
  (λl e j n {f f f f f} h k i=>aY<|bt (Uf j h.1 k.d i) λm l₁ f f f=>n h.2 k.f<|i.G l₁)
  (λw l j {f f f f f} h k i=>aY<|bt (wA j h.2 k i) λm l₁ vs ws r=>DR r)
  (λf f f f f ib j=>abm ib j)
  (λlb g j2 ps rest d b id ib {Γ Φ W ρ aI} h k i=>by
   show ee W cL _ (ev (if bq F g&&!F.a g then dr F b else .H lb g j2 ps rest (dr F d) (dr F b)) aI)
   split
   ·rename_i q;exact eV<|eV (pN<|eV (pN<|ib h.1 k.d (i.m dq<|yy (bA q))))
   ·exact aY (aY (uG (aY (uG (ib h.1 k.d (i.H (iK g).1 (iK g).2 λm l₁ vs ws r=>
     pO (i.G l₁) r (λx f=>iK x) (λf=>iK rest) λt l₂ ρ aI s=>id h.2 k.f s)))))))
  (λg l j {f f f f f} h k i=>aY (aY (bt (wA j h.2 (k.I (λf=>qr _ _) λf=>qm _) i) λm l₁ vs ws r=>
   HM (i.G l₁) (k.r g (by show 0<(if g=g then 1 else 0)+_;rw[qK dq];exact q9 acH (qj _ _))) dq r)))
  (λl j {f f f f f} h k i=>aY<|aY (bt (wA j h k i) λm l₁ vs ws r=>DT r)) e
theorem Ru:(∀e:E,sub Ee e=e)/\∀l:qe E,iI Ee l=l:=
 E.J (λg=>dq) (λg=>dq) (λg=>dq) (λx e i=>qh (E.F x) i) (λx e i=>qh (E.G x) i) (λa b c i j k=>by show E.v _ _ _=_;rw[i,j,k]) (λl e i j=>by show E.y _ _=_;rw[i,j]) (λw l i=>qh (E.A w) i)
  (λlb ps rest b l i j=>by show E.D _ _ _ _ _=_;rw[i,j]) (λlb f j2 ps rest d b i j=>by show E.H _ _ _ _ _ _ _=_;rw[i,j]) (λf l i=>qh (E.L f) i) (λl i=>qh E.I i) dq λe l i j=>by show _::_=_;rw[i,j]
theorem XK(e:E):sub Ee e=e:=Ru.1 e
noncomputable def W0:Wr:=⟨λa a=>qp,λa a=>qp,λa a=>qp,λa a=>qp,λa=>qp,λa=>qp,λa=>qp,λa=>qp⟩
theorem aim:n9 W0 At At:=⟨λa a a h=>h.elim,λa a a h=>h.elim,λa a h=>h.elim,λa a a h=>h.elim,λa a a h=>h.elim,λa a h=>h.elim,λa a h=>h.elim,λa a h=>h.elim,λa a h=>h.elim,λa a h=>h.elim,λa a h=>h.elim,
 λa h=>h.elim,λa h=>h.elim,λa a h=>h.elim,λa h=>h.elim,λa a h=>h.elim,λa h=>h.elim,dq,dq,dq⟩
theorem afF(st:qd->qw)(live:qd->Prop):fz W0 st live Ee Ev.t Ev.t:=⟨λa a a a e=>(nomatch e),λa a a a=>dq,λa a a a e=>(nomatch e),λa a a a=>dq,λa a e=>(nomatch e),λa a a e=>(nomatch e),λa a a e=>(nomatch e)⟩
theorem yp(h:ee W0 cL m m'):NF (m At)=NF (m' At):=by
 obtain⟨W,_,o⟩:=h W0 (.j _) _ _ aim;generalize m At=u at o;generalize m' At=c at o;cases u with
 |c a s=>cases c with
  |b=>exact o.elim
  |c b t=>
   obtain⟨r,x⟩:=o;cases a with
   |E v=>cases b with
    |b=>exact r.elim
    |E w=>
     have r:VR W.r v w:=r;show oL.mk _ _ _ _=oL.mk _ _ _ _;rw[r.i,x.C,x.y.i,x.z.i]
   |b l=>cases b with
    |E=>exact r.elim
    |b m=>
     have r:uo W.r l m:=r;show oL.mk _ _ _ _=oL.mk _ _ _ _;rw[r.i,x.C,x.y.i,x.z.i]
 |b w t s=>cases c with
  |c=>exact o.elim
  |b w' t' s'=>
   obtain⟨rfl,rfl,x⟩:=o;show oL.mk _ _ _ _=oL.mk _ _ _ _;rw[x.C,x.y.i,x.z.i]
theorem we(e:E):Ss (cY e) λx=>fK x e:=λx h=>decide_eq_true h
theorem tF(e:E):Kn (cY e) (λx=>nA x e) λx=>fK x e:=⟨λa h=>h,λx h=>decide_eq_true h⟩
structure Pr(e:E):Prop where
 d:WS [] [] e
 b:(bd e).Nodup
 f:(gZ e).Nodup
theorem Pr.j(p:Pr e):Fr [] [] (bd e):=⟨p.b,λa a=>⟨λh=>(nomatch h),λh=>(nomatch h)⟩⟩
theorem Ux(p:Pr e):rS (cp (cY e) e)=rS e:=by
 have h:=abv (cY e) e p.d (we e) p.j (⟨λa h=>(nomatch h),λa a h=>by cases h⟩:Th [] [] Ee)<|afF _ _
 rw[XK]at h;exact(yp h).symm
theorem Uk(p:Pr e):rS (dr (cY e) e)=rS e:=(yp<|abi (cY e) e p.d (tF e) (afF _ _)).symm
theorem Pr.i(p:Pr e):Pr (cp (cY e) e):=⟨WU _ e p.d p.j<|we e,p.b.sublist<|Js _ e,p.f.sublist<|aah _ e⟩
theorem Pr.k(p:Pr e):Pr (dr (cY e) e):=⟨Qj _ e p.d<|tF e,(af5 _ e).1 p.b,(aag _ e).1 p.f⟩
structure Wt where
 f:qc->qc->qc
 h:qc
 F:qc
 E:qc
 i:qc
 p:qc
structure Wt.g(w:Wt):Prop where
 G:∀{a b c d:qc},a<=b->c<=d->w.f a c<=w.f b d
 g:∀a b,a<=w.f a b
 i:∀a b,b<=w.f a b
 k:∀a b,w.f a b=w.f b a
 h:w.h<=w.E
 j:w.E<=w.i
 f:w.h<=w.F
 y:∀e,w.h<=e->w.E+w.f (w.f e 0) w.h<=w.F+e
noncomputable def pI(M:qd->qc)(f:qd)(n:qc):qd->qc:=λx=>if x=f then n else M x
mutual
noncomputable def bL(w:Wt):E->(qd->qc)->qc
 |.u _,_|.s _,_|.B _,_=>w.h
 |.F _ e,M|.G _ e,M=>w.F+bL w e M
 |.v a b c,M=>w.E+w.f (w.f (bL w a M)<|bL w b M) (bL w c M)
 |.y l e,M=>w.E+w.f (bQ w l M) (bL w e M)
 |.A _ l,M=>w.E+w.p+bQ w l M
 |.I l,M=>w.i+bQ w l M
 |.D _ _ _ b l,M=>w.i+w.p*l.length+w.f (bL w b M) (bQ w l M)
 |.H _ f _ _ _ d b,M=>w.i+w.E+bL w b (pI M f<|bL w d M)
 |.L f l,M=>w.i+w.p*l.length+w.f (M f) (bQ w l M)
noncomputable def bQ(w:Wt):qe E->(qd->qc)->qc
 |[],_=>0
 |e::l,M=>w.f (bL w e M)<|bQ w l M
end
theorem FN(h:∀x,M x<=N x)(f:qd)(k:a<=b):∀x,pI M f a x<=pI N f b x:=λx=>by
 unfold pI;split
 ·exact k
 ·exact h x
section
variable{w:Wt}(O:w.g)
include O
theorem KQ:(∀(e:E) (M N:qd->qc),(∀x,M x<=N x)->bL w e M<=bL w e N)/\∀(l:qe E) (M N:qd->qc),(∀x,M x<=N x)->bQ w l M<=bQ w l N:=
 E.J (λg g g g=>qm _) (λg g g g=>qm _) (λg g g g=>qm _) (λg e i M N h=>qn (i M N h) _) (λg e i M N h=>qn (i M N h) _)
  (λa b c i j k M N h=>qn (O.G (O.G (i M N h)<|j M N h)<|k M N h) _) (λl e i j M N h=>qn (O.G (i M N h)<|j M N h) _) (λg l i M N h=>qn (i M N h) _) (λg g g b l i j M N h=>qn (O.G (i M N h)<|j M N h) _)
  (λg f g g g d b i j M N h=>qn (j _ _<|FN h f (i M N h)) _) (λf l i M N h=>qn (O.G (h f)<|i M N h) _) (λl i M N h=>qn (i M N h) _) (λg g g=>qm _) λe l i j M N h=>O.G (i M N h)<|j M N h
theorem E2(e:E)(h:∀x,M x<=N x):bL w e M<=bL w e N:=(KQ O).1 e M N h
theorem Cv(e:E)(M:qd->qc):w.h<=bL w e M:=by
 have a:∀{x y z:qc},x<=y->x<=y+z:=λh=>qg h<|qj _ _;have mI:=qg O.h O.j;cases e with
 |u|s|B=>exact qm _
 |F|G=>exact a O.f
 |v|y=>exact a O.h
 |A=>exact a<|a O.h
 |I=>exact a mI
 |D|H|L=>exact a<|a mI
theorem r7:∀{ps:qe qd} {l:qe E},bQ w ((bU p ps l).map (·.2)) M<=bQ w l M
 |[],_=>qP _
 |_::_,[]=>qP _
 |y::ps,e::l=>by
  cases a:p y e with
  |true=>rw[gD a];exact qg r7<|O.i _ _
  |false=>rw[gE a];exact O.G (qm _)<|r7 (ps:=ps) (l:=l)
omit O in
theorem uC:∀{ps:qe qd} {l:qe E},(bU p ps l).length<=l.length
 |[],_=>qP _
 |_::_,[]=>qP _
 |y::ps,e::l=>by
  cases a:p y e with
  |true=>rw[gD a];exact xl uC
  |false=>rw[gE a];exact qN<|uC (ps:=ps) (l:=l)
theorem vG:bL w (without lb (bU p ps l) b) M<=w.i+w.p*l.length+w.f (bL w b M) (bQ w l M):=by
 have h:=r7 O (p:=p) (M:=M) (ps:=ps) (l:=l);have n:=uC (p:=p) (ps:=ps) (l:=l);generalize bU p ps l=s at h n;cases s with
 |nil=>exact qg (O.g _ _)<|qr _ _
 |cons q s=>exact Nat.add_le_add (Nat.add_le_add_left (Nat.mul_le_mul_left _ (by simpa using n)) _)<|O.G (Nat.le_refl _) h
omit O in
theorem KP(o:∀y e,g y=dA e->uh e):(∀e:E,∀(M:qd->qc),bL w (sub g e) M=bL w e M)/\∀l:qe E,∀(M:qd->qc),bQ w (iI g l) M=bQ w l M:=
 E.J
  (λh h=>dq)
  (λy M=>by
  show bL w ((g y).getD (.s y)) M=w.h;cases q:g y with
  |none=>rfl
  |some e=>rcases o _ _ q with⟨k,rfl⟩|⟨z,rfl⟩<;>rfl)
  (λh h=>dq)
  (λy e i1 M=>qh (w.F+·)<|i1 M)
  (λh e i1 M=>qh (w.F+·)<|i1 M)
  (λa b c i0 i1 i2 M=>by show _+w.f (w.f _ _) _=_+w.f (w.f _ _) _;rw[i0,i1,i2])
  (λl e i0 i1 M=>by show _+w.f _ _=_+w.f _ _;rw[i0,i1])
  (λh l i1 M=>qh (w.E+w.p+·)<|i1 M)
  (λh h h b l n m M=>by show w.i+w.p*(iI g l).length+w.f _ _=_;rw[m,n,sI,qI];rfl)
  (λh f h h h d b j i M=>by show _+bL w (sub g b) (pI M f<|bL w (sub g d) M)=_;rw[j,i];rfl)
  (λf l i1 M=>by show w.i+w.p*(iI g l).length+w.f _ _=_;rw[i1,sI,qI];rfl)
  (λl i0 M=>qh (w.i+·)<|i0 M)
  (λh=>dq)
  (λe l i0 i1 M=>by show w.f _ _=w.f _ _;rw[i0,i1])
omit O in
theorem Ut(a:∀y e,g y=dA e->uh e)(e:E)(M:qd->qc):bL w (sub g e) M=bL w e M:=(KP a).1 e M
theorem KT:bL w (oE F lb ps rest b l) M<=w.i+w.p*l.length+w.f (bL w b M) (bQ w l M):=
 li (P:=λe=>bL w e M<=w.i+w.p*l.length+w.f (bL w b M) (bQ w l M)) (qm _) λh=>by
  refine qg (vG O) ?_;rw[Ut λy e h=>(i7 h).1];exact qm _
theorem PD(F:Fx):(∀e:E,∀(M:qd->qc),bL w (cp F e) M<=bL w e M)/\∀l:qe E,∀(M:qd->qc),bQ w (cps F l) M<=bQ w l M:=
 E.J
  (λg g=>qm _)
  (λg g=>qm _)
  (λg g=>qm _)
  (λg e i1 M=>qn (i1 M) _)
  (λg e i1 M=>qn (i1 M) _)
  (λa b c i0 i1 i2 M=>qn (O.G (O.G (i0 M)<|i1 M)<|i2 M) _)
  (λl e i0 i1 M=>qn (O.G (i0 M)<|i1 M) _)
  (λg l i1 M=>qn (i1 M) _)
  (λg g g b l k j M=>qg (KT O) (by rw[wq];exact qn (O.G (k M)<|j M) _))
  (λg f g g g d b i h M=>qn (qg (E2 O _<|FN (λg=>qm _) f (i M))<|h _) _)
  (λf l i1 M=>by show w.i+w.p*(cps F l).length+_<=_;rw[wq];exact qn (O.G (qm _)<|i1 M) _)
  (λl i0 M=>qn (i0 M) _)
  (λg=>qm _)
  (λe l i0 i1 M=>O.G (i0 M)<|i1 M)
theorem GW(F:Fx)(e:E)(M:qd->qc):bL w (cp F e) M<=bL w e M:=(PD O F).1 e M
omit O in
theorem VS(h:0<a):0<a+b:=q9 h<|qj _ _
omit O in
theorem YH(h:0<b):0<a+b:=q9 h<|qr _ _
omit O in
theorem uv{f:qc->qc->qc}{a b c d:qc}(h:a=c)(k:b=d):f a b=f c d:=by rw[h,k]
omit O in
theorem KR:(∀(e:E) (M N:qd->qc),(∀x,0<nA x e->M x=N x)->bL w e M=bL w e N)/\∀(l:qe E) (M N:qd->qc),(∀x,0<mO x l->M x=N x)->bQ w l M=bQ w l N:=
 E.J (λg g g g=>dq) (λg g g g=>dq) (λg g g g=>dq) (λg e i M N h=>qh (w.F+·) (i M N h)) (λg e i M N h=>qh (w.F+·) (i M N h))
  (λa b c i j k M N h=>qh (w.E+·)<|uv (f:=w.f) (uv (f:=w.f) (i M N λx q=>h x<|VS (VS q))<|j M N λx q=>h x<|VS (YH q)) (k M N λx q=>h x<|YH q))
  (λl e i j M N h=>qh (w.E+·)<|uv (f:=w.f) (i M N λx q=>h x<|VS q) (j M N λx q=>h x<|YH q)) (λg l i M N h=>qh (w.E+w.p+·)<|i M N h)
  (λg g g b l i j M N h=>qh (w.i+w.p*l.length+·)<|uv (f:=w.f) (i M N λx q=>h x<|VS q) (j M N λx q=>h x<|YH q))
  (λg f g g g d b i j M N h=>qh (w.i+w.E+·) (j (pI M f (bL w d M)) (pI N f (bL w d N)) λx q=>by
   rw[i M N λx q=>h x<|YH q];unfold pI;split
   ·rfl
   ·exact h x (VS q)))
  (λf l i M N h=>qh (w.i+w.p*l.length+·)<|uv (f:=w.f) (h f<|VS (by rw[qK dq];exact acH)) (i M N λx q=>h x<|YH q)) (λl i M N h=>qh (w.i+·)<|i M N h) (λg g g=>dq) λe l i j M N h=>uv (f:=w.f) (i M N λx q=>h x<|VS q)<|j M N λx q=>h x<|YH q
omit O in
theorem PB(e:E)(h:∀x,0<nA x e->M x=N x):bL w e M=bL w e N:=KR.1 e M N h
theorem Uu(F:Fx):(∀(e:E) (M:qd->qc),Kn F (λx=>nA x e) (λx=>fK x e)->bL w (dr F e) M<=bL w e M)/\∀(l:qe E) (M:qd->qc),Kn F (λx=>mO x l) (λx=>f6 x l)->bQ w (mF F l) M<=bQ w l M:=
 E.J (λm m m=>qm _) (λm m m=>qm _) (λm m m=>qm _)
  (λx e i M k=>by
   have ih:=i M<|k.I (λm=>qm _) λm=>qr _ _;show bL w (oB F x<|dr F e) M<=w.F+bL w e M;rcases g6 F x (dr F e)with q|⟨_,⟨_,q⟩|⟨_,q⟩⟩<;>rw[q]
   ·exact qn ih _
   ·exact qg O.f<|qj _ _
   ·exact qg (O.y _ (Cv O (dr F e) M)) (qn ih _))
  (λm e i M k=>qn (i M k) _) (λa b c i j k M h=>qn (O.G (O.G (i M h.d.d)<|j M h.d.f)<|k M h.f) _) (λl e i j M h=>qn (O.G (i M h.d)<|j M h.f) _) (λm l i M h=>qn (i M h) _)
  (λlb ps rest b l i j M k=>by
   have h1:=i M k.d;have h2:=j M k.f;show bL w (lF F lb ps rest (dr F b)<|mF F l) M<=w.i+w.p*l.length+w.f (bL w b M) (bQ w l M);rcases g7 F lb ps rest (dr F b) (mF F l)with q|⟨_,⟨y,e,_,o,_,_,_,q⟩|q⟩<;>rw[q]
   ·show w.i+w.p*(mF F l).length+_<=_;rw[tD];exact qn (O.G h1 h2) _
   ·rw[o]at h2;show w.E+w.f (bQ w [e] M) (bL w (dr F b) M)<=_;rw[O.k];exact qM (qg O.j<|qj _ _)<|O.G h1 h2
   ·refine qg (vG O) ?_;rw[tD];exact qn (O.G h1 h2) _)
  (λlb f j2 ps rest d b i j M k=>by
   show bL w (if bq F f&&!F.a f then dr F b else .H lb f j2 ps rest (dr F d) (dr F b)) M<=w.i+w.E+bL w b (pI M f<|bL w d M)
   split
   ·rename_i q
    have e:bL w (dr F b) M=bL w (dr F b) (pI M f (bL w d M)):=PB _ λx n=>by
     unfold pI;split
     ·rename_i z;rw[z,k.d.k.g<|bA q]at n;cases n
     ·rfl
    rw[e];exact qg (j _ k.d)<|qr _ _
   ·exact qn (qg (E2 O _ (FN (λm=>qm _) f (i M k.f))) (j _ k.d)) _)
  (λg l i M k=>by show w.i+w.p*(mF F l).length+_<=_;rw[tD];exact qn (O.G (qm _)<|i M (k.I (λm=>qr _ _) λm=>qm _)) _) (λl i M k=>qn (i M k) _) (λm m=>qm _) λe l i j M k=>O.G (i M k.d)<|j M k.f
theorem GV(F:Fx)(e:E)(M:qd->qc)(k:Kn F (λx=>nA x e) (λx=>fK x e)):bL w (dr F e) M<=bL w e M:=(Uu O F).1 e M k
end
noncomputable def vd:V->qc
 |.e a b _=>max (vd a) (vd b)+1
 |_=>0
structure Dp(s:Sg):Prop where
 c:∀v∈s.c,vd v<=s.r
 y:vd s.y<=s.r
 z:vd s.z<=s.r
structure Gs(s t:Sg)(c q:qc):Prop where
 C:t.o.length<=s.o.length+c
 e:t.e<=s.e+c
 f:s.r<=t.r
 j:t.r<=s.r+q
 d:Dp t
theorem Gs.i(a:Gs s t c q)(b:Gs t u c' q'):Gs s u (c+c') (q+q'):=
 ⟨aa7 a.C b.C,aa7 a.e b.e,qg a.f b.f,aa7 a.j b.j,b.d⟩
theorem Gs.I(a:Gs s t c q)(h:c<=c')(k:q<=q'):Gs s t c' q':=⟨aa8 h a.C,aa8 h a.e,a.f,aa8 k a.j,a.d⟩
def Bm{α:Type}(c q:qc)(uq:qc->Prop)(m:Mo α)(ko:α->qc->Prop):Prop:=∀s,Dp s->uq s.r->match m s with
 |.c a t=>Gs s t c q/\ko a t.r
 |.b _ _ t=>Gs s t c q
abbrev tt:qc->Prop:=λzz=>xT
def pV(v:V)(n:qc):Prop:=vd v<=n
def pL(k:qc)(vs:qe V)(n:qc):Prop:=vs.length=k/\∀v∈vs,vd v<=n
def pR:R->qc->Prop
 |.E v,n=>vd v<=n
 |.b l,n=>∀v∈l,vd v<=n
section
variable{α:Type}{c q:qc}{uq:qc->Prop}{ko:α->qc->Prop}{m:Mo α}
theorem jV(h:∀n,uq n->ko a n):Bm 0 0 uq (ret a) ko:=λs d p=>⟨⟨qm _,qm _,qm _,qm _,d⟩,h _ p⟩
theorem C6:Bm 0 0 uq (vZ w t:Mo α) ko:=λs d p=>⟨qm _,qm _,qm _,qm _,d⟩
theorem jg(h:Bm c q uq m ko)(a:c<=c')(b:q<=q'):Bm c' q' uq m ko:=λs d p=>by
 have:=h s d p;generalize m s=u at this;cases u with
 |c x t=>exact⟨this.1.I a b,this.2⟩
 |b=>exact this.I a b
theorem iZ(h:Bm c q uq m ko)(up:∀n k,n<=k->uq n->uq k)(k:∀a,Bm c' q' (λn=>uq n/\ko a n) (f a) W1):Bm (c+c') (q+q') uq (fy m f) W1:=λs d p=>by
 have h:=h s d p;unfold fy;generalize m s=u at h;cases u with
 |b=>exact h.I (qj _ _)<|qj _ _
 |c a t=>
  have k:=k a t h.1.d ⟨up _ _ h.1.f p,h.2⟩;dsimp only;generalize f a t=u at k;cases u with
  |c b u=>exact⟨h.1.i k.1,k.2⟩
  |b=>exact h.1.i k
theorem fg(h:Bm c q uq m ko):Bm (1+c) q uq (eg m) ko:=λs d p=>by
 have h:=h {s with e:=s.e+1} ⟨d.c,d.y,d.z⟩ p
 show match m {s with e:=s.e+1}with|.c a t=>Gs s t (1+c) q/\ko a t.r|.b _ _ t=>Gs s t (1+c) q
 generalize m {s with e:=s.e+1}=u at h
 have e:∀{t:Sg},Gs {s with e:=s.e+1} t c q->Gs s t (1+c) q:=λg=>⟨by have:_<=s.o.length+c:=g.C;exact aa9 this,by have:_<=s.e+1+c:=g.e;exact alS this,g.f,g.j,g.d⟩
 cases u with
 |c a t=>exact⟨e h.1,h.2⟩
 |b=>exact e h
theorem PT(h:Bm c q uq m ko):Bm c q uq (mk m) ko:=λs d p=>by
 have h:=h {s with d:=s.d+1} ⟨d.c,d.y,d.z⟩ p
 show match m {s with d:=s.d+1}with|.c a t=>Gs s t c q/\ko a t.r|.b _ _ t=>Gs s t c q
 generalize m {s with d:=s.d+1}=u at h
 cases u with
 |c a t=>exact⟨⟨h.1.C,h.1.e,h.1.f,h.1.j,h.1.d⟩,h.2⟩
 |b=>exact⟨h.C,h.e,h.f,h.j,h.d⟩
theorem gA(h:Bm c q uq m ko)(k:∀n,a n->uq n):Bm c q a m ko:=λs d p=>h s d<|k _ p
end
theorem upL(m:qc)(vs:qe V):∀n k,n<=k->pL m vs n->pL m vs k:=λa a h p=>⟨p.1,λv b=>qg (p.2 v b) h⟩
theorem Mb:∀n k,n<=k->tt n->tt k:=λa a a p=>p
theorem n6(h:Bm c q tt m pR):Bm c q tt (ln m) pV:=iZ (c':=0) (q':=0) h Mb λr=>by
 cases r with
 |E v=>exact jV λn p=>p.2
 |b l=>exact C6
set_option tactic.hygienic true in
theorem UM(ρ:Ev)(x:qd):Bm 0 0 tt (getv ρ x) pR:=by
 unfold getv;split
 ·rename_i c _;refineλs d p=>⟨⟨qm _,qm _,qm _,qm _,d⟩,?_⟩;show vd (s.c.getD c un)<=_;rw[xy];cases e:s.c[c]? with
  |none=>exact qP _
  |some v=>exact d.c v<|xX e
 ·exact jV λa a=>qP _
theorem UI(ρ:Ev)(x:qd)(v:V):Bm 0 0 (pV v) (oS ρ x v) pR:=by
 unfold oS;split
 ·refineλs d p=>⟨⟨qm _,qm _,qm _,qm _,λw b=>?_,d.y,d.z⟩,qP _⟩;rcases ahD b with q|q
  ·exact d.c w q
  ·rw[q];exact p
 ·exact jV λa a=>qP _
theorem UN(g:qd):Bm 0 0 tt (EJ g) pR:=λs d p=>by
 unfold EJ;have h:Gs s s 0 0:=⟨qm _,qm _,qm _,qm _,d⟩;by_cases a:g=1
 ·rw[qK a];exact⟨h,d.y⟩
 ·rw[if_neg a];by_cases b:g=2
  ·rw[qK b];exact⟨h,d.z⟩
  ·rw[if_neg b];exact h
theorem UJ(g:qd)(v:V):Bm 1 0 (pV v) (du g v) pR:=λs d p=>by
 have tl:(s.o++[(g,dO v)]).length<=s.o.length+1:=by rw[qs];exact qm _
 unfold du;by_cases a:g=1
 ·simp only[if_pos a];exact⟨⟨tl,Nat.le_succ _,Nat.le_refl _,Nat.le_refl _,d.c,p,d.z⟩,Nat.zero_le _⟩
 ·simp only[if_neg a];by_cases b:g=2
  ·simp only[if_pos b];exact⟨⟨tl,Nat.le_succ _,Nat.le_refl _,Nat.le_refl _,d.c,d.y,p⟩,Nat.zero_le _⟩
  ·simp only[if_neg b];exact⟨tl,Nat.le_succ _,Nat.le_refl _,Nat.le_refl _,d.c,d.y,d.z⟩
theorem Jo(a b:V):Bm 0 1 (λn=>pV a n/\pV b n) (rV a b) pV:=λs d p=>by
 refine⟨⟨qm _,qm _,xO _,qm _,λv e=>xl<|d.c v e,xl d.y,xl d.z⟩,?_⟩;show max (vd a) (vd b)+1<=s.r+1;exact qN<|zj.mpr ⟨p.1,p.2⟩
theorem C5:∀vs:qe V,Bm 0 vs.length (pL vs.length vs) (mD vs) pV
 |[]=>jV λa a=>qP _
 |v::l=>iZ (c':=0) (q':=1) (gA (C5 l) λn p=>⟨dq,λw b=>p.2 w<|.tail _ b⟩) (upL _ _) λw=>gA (Jo v w) λn p=>⟨p.1.2 v<|.head _,p.2⟩
theorem Jm(k:qc)(vs:qe V)(b:K):Bm 0 1 (pL k vs) (ret (.E (.B b))) pR:=jg (jV λa a=>qP _) (qm _)<|qP _
theorem PW(a:∀x y,vd (f x y)<=max (vd x) (vd y))(k:qc)(v:V)(l:qe V):Bm 0 1 (pL k (v::l)) (K0 n f v) pR:=by
 cases v with
 |B=>exact jg C6 (qm _) (qP _)
 |e x y i=>exact jg (jV λn p=>qg (a x y)<|zs (show max (vd x) (vd y)+1<=n from p.2 _<|.head _)) (qm _)<|qP _
theorem UK(w:Pw)(k:qc)(vs:qe V):Bm 0 1 (pL k vs) (jp w vs) pR:=by
 cases vs with
 |nil=>exact Jm k _ _
 |cons a l=>cases w with
  |c=>exact PW (λx y=>xK _ _) k a l
  |d=>exact PW (λx y=>xL _ _) k a l
  |o=>cases l with
   |nil=>exact Jm k _ _
   |cons b l=>exact iZ (c:=0) (q:=1) (c':=0) (q':=0) (gA (Jo _ _) λn p=>⟨p.2 _<|.head _,p.2 _<|.tail _ (.head _)⟩) (upL _ _) λv=>jV λn p=>p.2
  |e=>cases l<;>exact Jm k _ _
  |_=>exact Jm k _ _
theorem Jb(d:Dp s)(h:vd v<=s.r):Dp (eT v s):=⟨λw a=>(qY.mp a).elim (d.c w) λq=>by rw[qD.mp q];exact h,d.y,d.z⟩
theorem Jn{α:Type}{c q:qc}{uq:qc->Prop}{ko:α->qc->Prop}{b:qc->Mo α}{v:V}(h:∀i,Bm c q uq (b i) ko):Bm c q (λn=>uq n/\pV v n) (λs=>b s.c.length (eT v s)) ko:=λs d p=>by
 have h:=h s.c.length (eT v s) (Jb d p.2) p.1;dsimp only;generalize b s.c.length (eT v s)=u at h;cases u with
 |c a t=>exact⟨⟨h.1.C,h.1.e,h.1.f,h.1.j,h.1.d⟩,h.2⟩
 |b=>exact⟨h.C,h.e,h.f,h.j,h.d⟩
def og(ρ:Ev)(Mc a:qd->qc):Prop:=∀f d,ρ.f f=dA d->∀vs k,Bm (Mc f) (vs.length+a f) (pL k vs) (d vs) pR
theorem og.p{Mc:qd->qc}(h:og ρ Mc a)(x:qd)(c:qc):og (ρ.p x c) Mc a:=λf d e=>by
 unfold Ev.p at e;dsimp only at e;split at e
 ·cases e
 ·exact h f d e
theorem Jp{c q:qc}{uq:qc->Prop}{Mc a:qd->qc}{k:Ev->Mo R}(h:∀ρ,og ρ Mc a->Bm c q uq (k ρ) pR):∀(ps:qe qd) (vs:qe V) (ρ:Ev),og ρ Mc a->Bm c q (λn=>uq n/\∀v∈vs,vd v<=n) (cT ps vs ρ k) pR
 |[],vs,ρ,C=>by cases vs<;>exact gA (h ρ C) λd p=>p.1
 |_::_,[],ρ,C=>gA (h ρ C) λd p=>p.1
 |x::ps,v::vs,ρ,C=>gA (Jn (b:=λi=>cT ps vs (ρ.p x i) k) λi=>Jp h ps vs _<|C.p x i) λn p=>⟨⟨p.1,λw e=>p.2 w<|.tail _ e⟩,p.2 v<|.head _⟩
theorem Aa{c q:qc}{Mc d:qd->qc}{ps:qe qd}{rest:qd}{k:Ev->Mo R}{ρ:Ev}(C:og ρ Mc d)(h:∀ρ,og ρ Mc d->Bm c q tt (k ρ) pR)(vs:qe V)(m:qc):Bm c (vs.length+q) (pL m vs) (gB ps rest k ρ vs) pR:=by
 unfold gB;split
 ·exact jg C6 (qP _)<|qP _
 ·refine gA (Jp (uq:=λn=>∀v∈vs,vd v<=n) (λρ C=>?_) ps vs ρ C) λn p=>⟨p.2,p.2⟩;split
  ·have l1:Bm 0 (vs.drop ps.length).length (λn=>∀v∈vs,vd v<=n) (mD<|vs.drop ps.length) pV:=gA (C5 _) λn p=>⟨dq,λv a=>p v<|ZD a⟩;have l2:=iZ (c':=c) (q':=q) l1 (λn k h p v a=>qg (p v a) h) λv=>gA (Jn (v:=v) (b:=λi=>k<|ρ.p rest i) λi=>h _<|C.p rest i) λn p=>⟨oy,p.2⟩;exact jg l2 (by exact alR) (by have:=abY (l:=vs) (i:=ps.length);exact alQ this)
  ·exact jg (gA (h ρ C) λe e=>oy) (qm _)<|qr _ _
noncomputable def wC:Wt:=⟨(· +·),1,2,1,2,0⟩
noncomputable def wQ:Wt:=⟨(· +·),0,0,0,0,1⟩
noncomputable def wD:Wt:=⟨max,1,3,3,3,0⟩
theorem L6:wC.g:=⟨λh k=>qM h k,λa b=>qj a b,λa b=>qr b a,λa b=>xa a b,by decide,by decide,by decide,λe c=>by show 1+(e+0+1)<=2+e;exact alP⟩
theorem Vv:wQ.g:=⟨λh k=>qM h k,λa b=>qj a b,λa b=>qr b a,λa b=>xa a b,by decide,by decide,by decide,λe c=>by show 0+(e+0+0)<=0+e;exact alO⟩
theorem L5:wD.g:=⟨λh k=>by show max _ _<=max _ _;exact alN h k,λa b=>xK a b,λa b=>xL a b,λa b=>Nat.max_comm a b,by decide,by decide,by decide,λe h=>by
 have h:1<=e:=h;show 3+max (max e 0) 1<=3+e;exact alM h⟩
set_option tactic.hygienic true in
theorem og.u{Mc:qd->qc}(h:og ρ Mc a)(f:qd)(k:∀vs m,Bm c (vs.length+q) (pL m vs) (d vs) pR):og (ρ.u f d) (pI Mc f c) (pI a f q):=λg d' e=>by
 unfold Ev.u at e;dsimp only at e;unfold pI;split at e
 ·cases e;rename_i z;rw[qK z,qK z];exact k
 ·rename_i z;rw[if_neg z,if_neg z];exact h g d' e
theorem n_z(a:qc):a+0<=0+a:=qL (vu a).symm
theorem LH(c:qc):1+(c+0)<=2+c:=qF (xO 1) c
theorem n_g(c:qc):1+(c+1)<=2+c:=by exact agx
theorem n_i(a b c:qc):a+(b+c)<=0+(a+b+c):=by exact agw
theorem n_p(q:qc):q+1<=0+1+q:=by exact agv
theorem n_a(l b n:qc):1+(1+(l+b))<=2+0*n+(b+l):=by exact ab4
theorem n_b(l b n:qc):l+(n+b)<=0+1*n+(b+l):=by exact ab3
theorem n_l(c:qc):1+(1+(1+c))<=2+1+c:=by exact agu
theorem n_m(c:qc):1+(1+(c+0))<=2+c:=by exact agt
theorem IY:(∀e:E,∀(ρ:Ev) (Mc o:qd->qc),og ρ Mc o->Bm (bL wC e Mc) (bL wQ e o) tt (ev e ρ) pR)/\∀l:qe E,∀(ρ:Ev) (Mc o:qd->qc),og ρ Mc o->Bm (bQ wC l Mc) (bQ wQ l o) tt (oz l ρ) (pL l.length)/\Bm (bQ wC l Mc) (bQ wQ l o) tt (LL l ρ) (λz=>tt):=
 E.J
  (λk z z z z=>fg<|jV λz z=>qP _)
  (λx ρ z z z=>fg<|UM ρ x)
  (λg z z z z=>fg<|UN g)
  (λx e i ρ Mc o C=>jg (fg<|iZ (n6<|i _ _ _ C) Mb λv=>gA (UI ρ x v) λz p=>p.2) (LH _)<|n_z _)
  (λg e i ρ Mc o C=>jg (fg<|iZ (n6<|i _ _ _ C) Mb λv=>gA (UJ g v) λz p=>p.2) (n_g _)<|n_z _)
  (λa b c i j k ρ Mc o C=>jg (fg (iZ (c':=bL wC b Mc+bL wC c Mc) (q':=bL wQ b o+bL wQ c o) (n6 (i _ _ _ C)) Mb λv=>by
   split
   ·exact jg (gA (k _ _ _ C) λz z=>oy) (qr _ _)<|qr _ _
   ·exact jg (gA (j _ _ _ C) λz z=>oy) (qj _ _) (qj _ _)))
   (qL (qh (1+·) (qT _ _ _).symm)) (n_i _ _ _))
  (λl e i j ρ Mc o C=>jg (fg<|iZ (i _ _ _ C).2 Mb λz=>gA (j _ _ _ C) λz z=>oy) (qm _)<|qL (vu _).symm)
  (λw l i ρ Mc o C=>jg (fg<|iZ (i _ _ _ C).1 Mb λvs=>gA (UK w _ vs) λz p=>p.2) (qm _)<|n_p _)
  (λz ps rest b l i j ρ Mc o C=>jg (fg (fg (PT (iZ (c':=bL wC b Mc) (q':=l.length+bL wQ b o) (j _ _ _ C).1 Mb λvs=>
   λs dp p=>jg (Aa C (λρ C=>i _ _ _ C) vs l.length) (qm _) (by rw[p.2.1];exact qm _) s dp p.2))))
   (n_a _ _ _) (n_b _ _ _))
  (λz f z ps rest d b i j ρ Mc o C=>jg (fg (fg (PT (fg (PT (j _ _ _ (C.u f λvs m=>Aa C (λρ C=>i _ _ _ C) vs m)))))))
   (n_l _) (qL (vu _).symm))
  (λf l i ρ Mc o C=>jg (fg (fg (iZ (c':=Mc f) (q':=l.length+o f) (i _ _ _ C).1 Mb λvs=>by
   cases e:ρ.f f with
   |some d=>exactλs dp p=>jg (C f d e vs l.length) (qm _) (by rw[p.2.1];exact qm _) s dp p.2
   |none=>exact jg (jV λz z=>qP _) (qP _) (qP _))))
   (n_a _ _ _) (n_b _ _ _))
  (λl i ρ Mc o C=>jg (fg (fg (iZ (c':=0) (q':=0) (i _ _ _ C).1 Mb λvs=>jV λn p=>by
   unfold manyR;split
   ·exact p.2.2 _<|.head _
   ·exact p.2.2))) (n_m _) (n_z _))
  (λz z z z=>⟨jV λz z=>⟨dq,λz h=>qH h qX⟩,jV λz z=>oy⟩)
  (λe l i j ρ Mc o C=>⟨iZ (n6 (i _ _ _ C)) Mb λv=>iZ (c':=0) (q':=0) (gA (j _ _ _ C).1 λz z=>oy) (λn k h p=>⟨oy,qg p.2 h⟩) λvs=>jV λn p=>
   ⟨qh xZ p.2.1,λw r=>(qG.mp r).elim (λq=>by rw[q];exact p.1.2) (p.2.2 w)⟩,iZ (i _ _ _ C) Mb λz=>gA (j _ _ _ C).2 λz z=>oy⟩)
theorem CS(l:qe E){Mc:qd->qc}(C:og ρ Mc a):Bm (bQ wC l Mc) (bQ wQ l a) tt (oz l ρ) (pL l.length):=(IY.2 l _ _ _ C).1
theorem Bt(e:E){Mc:qd->qc}(C:og ρ Mc a):Bm (bL wC e Mc) (bL wQ e a) tt (ev e ρ) pR:=IY.1 e _ _ _ C
section
variable{α β:Type}(f:Hd->qe T->β->α)(z:β)(c:T->qe T->α->β->β)
def fT(t:T):α:=T.rec (motive_1:=λa=>α) (motive_2:=λa=>β) f z c t
def fL(l:qe T):β:=T.rec_1 (motive_1:=λa=>α) (motive_2:=λa=>β) f z c l
end
noncomputable def bC(l:iH):iH:=@iH.casesOn (λa=>iH) l .t λa l=>l
noncomputable def kg(l:iH):Sm:=@iH.casesOn (λa=>Sm) l .m λs a=>s
noncomputable def LZ(s:Sm):iH:=@Sm.casesOn (λc=>iH) s (λc c=>.t) (λc c c=>.t) (λc c c=>.t) (λc c c=>.t) (λc c c c=>.t) (λc=>.t) (λc a c=>a) (λc b=>b) (λc c b=>b) (λc=>.t) .t λb c c c c=>b
abbrev Cq(f:Fn):iH:=bC<|LZ (kg<|bC f.a)
theorem T.r{P:T->Prop}(h:∀hd l,P (.A hd l))(t:T):P t:=T.casesOn t h
noncomputable def K.u(k:K):U:=@K.casesOn (λc=>U) k (λi=>.j i) (λb=>.q b) (.K .d) (.K .e) λa=>.d a
noncomputable def Pw.f(w:Pw):qd:=@Pw.casesOn (λa=>qd) w 9 11 12 8 15 4
noncomputable def bK(l:qe qd):qe U:=l.map .j
def hU(h:Hd)(l:qe U):U:=@Hd.casesOn (λb=>U) h (λk=>.A (.f .jZ [.m]) [k.u]) (λx=>.A (.f .ju [.j]) [.j x]) (λx=>.A (.f .iM [.T]) [.j x]) (λx=>.A (.f .cE [.j,.m]) (.j x::l)) (λx=>.A (.f .bO [.T,.m]) (.j x::l))
 (.A (.f .s9 [.kA,.vn,.Eg]) l) (λlb ps rest=>.A (.f .cC [.x,.J,.R,.I])<|.j lb::.A .F (bK ps)::.j rest::l) (@List.casesOn U (λb=>U) l .u λa l=>.A (.f .fX [.Y,.U]) [a,.A .F l]) (.A (.f .jJ [.fV]) [.A .F l])
 λw=>.A (.f .jt [.Az,.U]) [.j w.f,.A .F l]
def T.u:T->U:=fT (λh b s=>hU h s) [] λb b a s=>a::s
def us:qe T->qe U:=fL (λh b s=>hU h s) [] λb b a s=>a::s
noncomputable def AB(h:Hd):qc:=Hd.casesOn h (λa=>0) (λa=>0) (λa=>0) (λa=>1) (λa=>0) 0 (λa ps a=>ps.length) 0 0 λa=>0
def sz:T->qc:=fT (λh b s=>AB h+s+1) 0 λb b a s=>a+s
def ku:qe T->qc:=fL (λh b s=>AB h+s+1) 0 λb b a s=>a+s
def shH(h:Hd)(l:qe T):Prop:=Hd.casesOn h (λa=>l=[]) (λa=>l=[]) (λa=>l=[]) (λa=>l.length=1) (λa=>l.length=1) (l.length=3) (λa ps a=>l.length=1/\ps.Nodup) (l≠[]) (l≠[]) λa=>xT
def oM:T->Prop:=fT (λh l s=>shH h l/\s) xT λb b a s=>a/\s
def oK:qe T->Prop:=fL (λh l s=>shH h l/\s) xT λb b a s=>a/\s
theorem fh(l:qe T):(us l).length=l.length:=by
 induction l with
 |nil=>rfl
 |cons t l ih=>exact qh xZ ih
theorem mz(l m:qe T):us (l++m)=us l++us m:=by
 induction l with
 |nil=>rfl
 |cons t l ih=>exact qh (t.u::·) ih
theorem uA(t:T):0<sz t:=T.r (P:=λt=>0<sz t) (λa a=>zT _) t
theorem iS(h:Hd)(l:qe T):ku l<sz (.A h l):=z8<|qr _ _
theorem lU:sz t<=ku (t::l):=qj _ _
theorem sH:ku l<=ku (t::l):=qr _ _
theorem j1(l:qe T):l.length<=ku l:=by
 induction l with
 |nil=>exact qm _
 |cons t l ih=>exact qg (qL<|xa _ _)<|qM (uA t) ih
theorem nq(l m:qe T):ku (l++m)=ku l+ku m:=by
 induction l with
 |nil=>exact(vu _).symm
 |cons t l ih=>exact(qh (sz t+·) ih).trans (qT ..).symm
theorem mM:oK (l++m)↔oK l/\oK m:=by
 induction l with
 |nil=>exact⟨λh=>⟨oy,h⟩,λh=>h.2⟩
 |cons t l ih=>exact⟨λh=>⟨⟨h.1,(ih.mp h.2).1⟩,(ih.mp h.2).2⟩,λh=>⟨h.1.1,ih.mpr ⟨h.1.2,h.2⟩⟩⟩
def jj(f g:Mu):Prop:=∀a c,f a=dA c->g a=dA c
theorem jj.j(f:Mu):jj f f:=λa a h=>h
theorem jj.i(x:jj f g)(y:jj g h):jj f h:=λa c e=>y a c<|x a c e
theorem bz{μ:Mu}{a b:qc}{c:Mc}(h:μ a=dA c)(g:μ b=ft):a≠b:=λe=>rk<|(e▸h).symm.trans g
theorem jj.B{f g:Mu}{a:qc}(c:Mc)(le:jj f g)(h:f a=ft):jj f (g.H a c):=λb d e=>(ap g c<|bz e h).trans (le b d e)
theorem jj.H(c:Mc)(h:f a=ft):jj f (f.H a c):=(jj.j f).B c h
theorem jj.u(le:jj f g)(h:g a=xM):f a=xM:=by
 cases e:f a with
 |none=>rfl
 |some c=>exact rk<|(le _ _ e).symm.trans h
theorem Wk.I(h:jj bS μ):Wk v μ v bS:=λb b b b b R r=>⟨_,.j _ _,⟨R.E,λa c e=>R.I _ _<|h _ _ e,R.K,R.M,R.n,R.J⟩,r⟩
section
variable{ad:qe U}{n:qc}{μ:Mu}{l:qe U}{a:qc}{v w:U}
theorem b7{b:qw}{A B:Prop}(h:b=hY->A)(k:b=np->B):xU b A B:=by
 cases b with
 |false=>exact k dq
 |true=>exact h dq
theorem bF{K:Uh->qe U->Prop}(e:μ a=dA ⟨b,h,l⟩)(q:K h l):rdO (μ a) K:=⟨e,q⟩
theorem mA(e:μ a=dA ⟨b,.F,l⟩)(q:P):Jq .ch (.d a) μ P:=⟨e,q⟩
theorem Go(e:μ a=dA ⟨b,.F,l⟩)(q:P):Jq .jI (.d a) μ P:=⟨e,q⟩
theorem sR(e:μ a=dA ⟨np,.F,l⟩)(h:l.length+1<aH)(q:Q .u (μ.H a ⟨np,.F,l++[w]⟩)):bmU .ch (.d a) [w] Q μ:=⟨e,h,q⟩
theorem Np(e:μ a=dA ⟨np,.F,l++[w]⟩)(q:Q w (μ.H a ⟨np,.F,l⟩)):bmU .jI (.d a) [] Q μ:=⟨e,l,w,dq,q⟩
end
noncomputable abbrev eC:qc:=100000
inductive WTn(b:ce->ce)(Qn:ce)(fu:qc->ce)(k:qc)(ρ:UL)(μ:Mu):Prop
 |mk{a l}(e:ρ .v=dA (.d a))(h:μ a=dA ⟨np,.F,l⟩)(B1:l=[]->Qn ρ μ)(go:l≠[]->∀P:ce,(∀j,j<k->∀ρ μ,fu j ρ μ->P ρ μ)->b P ρ μ):WTn b Qn fu k ρ μ
theorem BQ{ad:qe U}{C:be}{b:ce->ce}{Qn:ce}(fu:qc->ce)(step:∀k ρ μ,fu k ρ μ->WTn b Qn fu k ρ μ)(k:qc):
  ∀ρ μ,fu k ρ μ->Q2 (uE ad C (.g .Gt (.E .C<|.o (.s .v) .t)<|.j 0) np λf=>qp) b Qn ρ μ:=by
 induction k using Nat.strongRecOn with
 |ind k ih=>
  intro ρ μ h P hP;cases step k ρ μ h with|@mk a l e h h0 h1=>
  refine hP _ _ ?_;show dB (ρ .v) _;rw[e];refine bF h<|b7 (b:=decide<|(l.length:qd)>0) (λc=>?_) λc=>?_
  ·exact h1 (λz=>by rw[z]at c;exact qH c (by decide)) P λj d ρ st hi=>ih j d ρ st hi P hP
  ·exact h0<|wy (ah7 λz=>xG c<|zt.mpr z)
inductive QR(aB:Mu)(ok:UL->qe T->Prop)(k:qc)(ρ:UL)(μ:Mu):Prop
 |mk{w ts}(h1:ρ .v=dA (.d w))(h2:μ w=dA ⟨np,.F,us ts⟩)(h3:aB w=ft)(le:jj aB μ)(e:ku ts=k)(lt:k<eC)(o:ok ρ ts):QR aB ok k ρ μ
structure kn(aB:Mu)(ok:UL->qe T->Prop)(k:qc)(ρ:UL)(μ:Mu)(w:qc)(ts:qe T)(t:T):Prop where
 r:ρ .v=dA (.d w)
 x:μ w=dA ⟨np,.F,us ts⟩
 z:aB w=ft
 I:jj aB μ
 e:ku ts+sz t=k
 y:k<eC
 o:ok ρ (ts++[t])
section
variable{ad:qe U}{n:qc}{aB:Mu}{rest:iH}{Qn:ce}{R:UQ}{ok:UL->qe T->Prop}
theorem aac(h:ku ts+m<=k)(l:k<eC):(us ts).length+m<eC:=fh ts▸qi (qg (qF (j1 ts) m) h) l
theorem Kb(h:l≠[]):∃m a,l=m++[a]:=⟨_,_,(afk h).symm⟩
theorem Hu(done:∀(ρ:UL) (μ:Mu),jj aB μ->ok ρ []->Qn ρ μ)
  (step:∀(k:qc) (ρ:UL) (μ:Mu) (w:qc) (ts:qe T) (t:T),kn aB ok k ρ μ w ts t->∀P:ce,(∀j,j<k->∀(ρ:UL) (μ:Mu),QR aB ok j ρ μ->P ρ μ)->bZ ad C rest R X P (ρ.H .p t.u) μ):
  ∀k ρ μ,QR aB ok k ρ μ->Q2 (uE ad C (.g .Gt (.E .C<|.o (.s .v) .t)<|.j 0) np λd=>qp) (bZ ad C (.o (.g .p<|.M (.s .v) .jI .t) rest) R X) Qn ρ μ:=
 BQ (QR aB ok) λk ρ μ h=>by
  cases h with|@mk w ts h1 h2 h3 h4 b c a=>
  refine⟨h1,h2,λe=>?_,λne P hP=>?_⟩
  ·cases ts with
   |nil=>exact done ρ μ h4 a
   |cons=>exact qH e<|xR _ _
  ·obtain⟨m,t,e⟩:=Kb (l:=ts) λz=>ne (by rw[z];rfl)
   rw[e]at h2 b a;rw[mz]at h2;show dB (ρ .v) _;rw[h1];exact Go h2<|Np h2 (step k ρ _ _ _ _ ⟨h1,aE _ _ _,h3,h4.B _ h3,(nq m [t]).symm.trans b,c,a⟩ P hP)
theorem kn.K{rs:qe T}(h:kn aB ok k ρ μ w ts t)(P:ce)(hP:∀j,j<k->∀(ρ:UL) (μ:Mu),QR aB ok j ρ μ->P ρ μ)
  (hl:ku rs<sz t)(e1:aI .v=dA (.d b))(e2:bS b=dA ⟨np,.F,us ts++us rs⟩)(e3:aB b=ft)(e4:jj aB bS)(a:ok aI (ts++rs)):P aI bS:=by
 have lt:ku (ts++rs)<k:=h.e▸nq ts rs▸Zh hl _;exact hP _ lt _ _ ⟨e1,(mz ts rs)▸e2,e3,e4,dq,zU lt h.y,a⟩
end
noncomputable def aiW(h:Hd)(n:qc):qw:=Hd.casesOn h (λa=>np) (λa=>np) (λa=>np) (λa=>np) (λa=>np) np (λa ps rest=>decide (rest<0)&&((ps.length:qd)==(n:qd))) np np λa=>np
def kD(l:qe T):qw:=List.casesOn l np λt l=>T.casesOn t λh a=>aiW h l.length
def iW(t:T):qw:=T.casesOn t λh l=>Hd.casesOn h (λa=>np) (λa=>np) (λa=>np) (λa=>np) (λa=>np) np (λa a a=>np) (kD l) np λa=>np
def gvH(h:Hd)(l:qe T)(g:qe (qw×qw)):qw×qw:=Hd.casesOn h (λa=>(hY,hY)) (λa=>(hY,hY)) (λa=>(hY,hY)) (λa=>(hY,hY)) (λa=>(hY,hY)) ((g.tail.all (·.1)),hY) (λa a a=>(hY,(g.headD (hY,hY)).1)) (kD l&&(g.headD (hY,hY)).2,hY) ((g.getLastD (hY,hY)).1,hY) λa=>(hY,hY)
def gvT:T->qw×qw:=fT gvH [] λb b a s=>a::s
def gvL:qe T->qe (qw×qw):=fL gvH [] λb b a s=>a::s
def cH(t:T):qw:=(gvT t).1
section
variable{ad:qe U}{n:qc}{μ:Mu}
theorem bb(q:Q (.q (a&&b)) μ):xU a (xU b (cD Wk Q (.q hY) μ) (cD Wk Q (.q np) μ)) (cD Wk Q (.q np) μ):=by
 cases a with
 |false=>exact .j q
 |true=>cases b<;>exact .j q
theorem jb{Q:UQ}{X:Mu->Prop}{t:T}(a:oM t)(q:Q (.q (iW t)) μ):aJ ad (n+1) (.r .gV) [t.u] Q X μ:=by
 refine aC (fn:=EO) dq dq ?_;induction t using T.r with|h h l=>
 induction h with
 |h=>
  induction l with
  |nil=>exact qH dq a.1
  |cons t l=>
   induction t using T.r with|h h2 l2=>
   induction h2 with
   |a lb ps rest=>
    have q:Q (.q<|decide (rest<0)&&(((bK ps).length:qd)==((us l).length:qd))) μ:=by rw[fh,show(bK ps).length=ps.length from qI ..];exact q
    exact bb q
   |h=>
    induction l2 with
    |nil=>exact qH dq a.2.1.1
    |cons=>exact cD.j q
   |_=>exact cD.j q
 |_=>exact cD.j q
def ry(f:T->qw)(V:UL->Prop)(g:qw)(ρ:UL)(ts:qe T):Prop:=V ρ/\oK ts/\ts.all f=g
end
section
variable{ad:qe U}{n:qc}{μ aB:Mu}{k w:qc}{g:qw}{ρ:UL}{ts:qe T}{t:T}{f:T->qw}{V:UL->Prop}
theorem kz{α:Type}{P:qe α->Prop}(h:∀a,P [a]){l:qe α}(e:l.length=1):P l:=by
 induction l with
 |nil=>cases e
 |cons a l=>induction l with
  |nil=>exact h a
  |cons=>cases e
theorem wV{α:Type}{P:qe α->Prop}(h:∀a b c,P [a,b,c]){l:qe α}(e:l.length=3):P l:=by
 induction l with
 |nil=>cases e
 |cons a l=>induction l with
  |nil=>cases e
  |cons b l=>exact kz (P:=λl=>P<|a::b::l) (h a b)<|zH (zH e)
theorem Ck{α:Type}{P:qe α->Prop}(h:P []){l:qe α}(e:l=[]):P l:=e▸h
theorem wF{α:Type}{P:qe α->Prop}(h:∀a l,P (a::l)){l:qe α}(e:l≠[]):P l:=by
 induction l with
 |nil=>exact qH dq e
 |cons a l=>exact h a l
theorem RE{α:Type}{P:qe α->Prop}(h:∀l a,P (l++[a])){l:qe α}(e:l≠[]):P l:=afk e▸h _ _
theorem T.p{P:T->Prop}(hc:∀k,P (.A (.u k) []))(hl:∀x,P (.A (.s x) []))(j:∀x,P (.A (.B x) []))(g:∀x e,P (.A (.F x) [e]))(d:∀x e,P (.A (.G x) [e]))(hi:∀a b c,P (.A .v [a,b,c]))(o:∀lb ps rest b,P (.A (.a lb ps rest) [b]))
  (hC:∀f l,P<|.A .h (f::l))(n:∀m e,P<|.A .y (m++[e]))(i:∀w l,P<|.A (.A w) l)(t:T):oM t->P t:=by
 induction t using T.r with|h h l=>
 intro s;induction h with
 |u k=>exact Ck (P:=λl=>P<|.A _ l) (hc k) s.1
 |s k=>exact Ck (P:=λl=>P<|.A _ l) (hl k) s.1
 |B k=>exact Ck (P:=λl=>P<|.A _ l) (j k) s.1
 |F x=>exact kz (P:=λl=>P<|.A _ l) (g x) s.1
 |G x=>exact kz (P:=λl=>P<|.A _ l) (d x) s.1
 |v=>exact wV (P:=λl=>P<|.A _ l) hi s.1
 |a lb ps rest=>exact kz (P:=λl=>P<|.A _ l) (o lb ps rest) s.1.1
 |h=>exact wF (P:=λl=>P<|.A _ l) hC s.1
 |y=>exact RE (P:=λl=>P<|.A _ l) n s.1
 |A w=>exact i w l
theorem Gz{P:T->Prop}{l:qe T}(h:∀lb xs rest b,kD (.A (.a lb xs rest) [b]::l)=hY->P (.A (.a lb xs rest) [b])){t:T}(s:oM t):kD (t::l)=hY->P t:=
 have no:∀{b:qw} {A:Prop},b=np->b=hY->A:=λe k=>qH (e.symm.trans k) qB
 T.p (P:=λt=>kD (t::l)=hY->P t) (λa=>no dq) (λa=>no dq) (λa=>no dq) (λa a=>no dq) (λa a=>no dq) (λa a a=>no dq) (λlb ps rest b=>h lb ps rest b) (λa a=>no dq) (λa a=>no dq) (λa a=>no dq) t s
theorem agf(h:kn aB (ry f V g) k ρ μ w ts t)(e:f t=np):np=g:=by
 rw[←h.o.2.2,ZJ,show[t].all f=(f t&&hY)from dq,e];exact(zq _).symm
theorem wK(h:kn aB (ry f V g) k ρ μ w ts t){rs:qe T}(a:oK rs)(b:rs.all f=f t)(v:V aI):ry f V g aI (ts++rs):=
 ⟨v,mM.mpr ⟨(mM.mp h.o.2.1).1,a⟩,by
  rw[←h.o.2.2,ZJ,ZJ,b];exact qh _ (xn _).symm⟩
theorem kn.i(h:kn aB (ry f V g) k ρ μ w ts t):oM t:=(mM.mp h.o.2.1).2.1
theorem kn.s{ok:UL->qe T->Prop}(h:kn aB ok k ρ μ w ts t)(l:m<=sz t):(us ts).length+m<aH:=zU (aac (qg (qn l _)<|qL h.e) h.y) (by decide)
theorem kn.A{ok:UL->qe T->Prop}(h:kn aB ok k ρ μ w ts t):sz t<eC:=qi (qr _ _)<|h.e▸h.y
theorem aiT(h:l.length=1):∃a,l=[a]:=List.length_eq_one_iff.mp h
theorem Fe(l:qe U)(v:U):u1 (l++[v]) (-1)=dA v:=by
 unfold u1;have e:(-1:qd)+((l++[v]).length:qc)=(l.length:qc):=by rw[qs];show(-1:qd)+((l.length:qd)+1)=_;rw[aek,Int.add_assoc];exact Int.add_zero _
 rw[qK (by decide),e,qK<|xE _,aeA]
 exact ahq
theorem aaL(l:qe T):gvL l=l.map gvT:=by
 induction l with
 |nil=>rfl
 |cons t l ih=>exact qh (gvT t::·) ih
theorem Bk(m:qe T)(t:T):cH (.A .y (m++[t]))=cH t:=by
 show((gvL<|m++[t]).getLastD (hY,hY)).1=_;rw[aaL,xj,List.getLastD_eq_getLast?,List.getLast?_append];rfl
theorem O2(h:kD l=np):cH (.A .h l)=np:=by show(kD l&&_)=np;rw[h];rfl
theorem KC(h:kD (.A (.a lb xs rest) [b]::ts)=hY):[b].all cH=cH (.A .h (.A (.a lb xs rest) [b]::ts)):=by
 show(cH b&&hY)=(kD (.A (.a lb xs rest) [b]::ts)&&cH b);rw[h];exact Bool.and_comm _ _
theorem ac{K:U->Prop}(e:ρ x=dA v)(q:K v):dB (ρ x) K:=by rw[e];exact q
section
variable(h:kn aB (ry f V g) k ρ μ w ts t)
include h
theorem kn.p(q:Q (.q g) aB)(e:f t=np):cD Wk Q (.q np) μ:=.A (.I h.I)<|agf h e▸q
variable{P:ce}(hP:∀j,j<k->∀(ρ:UL) (μ:Mu),QR aB (ry f V g) j ρ μ->P ρ μ){aI:UL}(v:V aI)
include hP v
theorem kn.S(e1:aI .v=dA (.d w))(e:f t=hY):P aI μ:=h.K P hP (rs:=[]) (uA _) e1 (h.x.trans<|qh _ (qh _ (qO _).symm)) h.z h.I<|wK h (rs:=[]) oy e.symm v
theorem kn.D(e1:aI .v=dA (.d w))(hl:sz t'<sz t)(a:oM t')(e:f t'=f t):bmU .ch (.d w) [t'.u] (cEx (P aI)) μ:=
 sR h.x (h.s (m:=1)<|uA _) (h.K P hP (rs:=[t']) hl e1 (aE _ _ _) h.z (h.I.B _ h.z)<|wK h (rs:=[t']) ⟨a,oy⟩ ((xn _).trans e) v)
end
theorem kn.u(h:kn aB (ry f V g) k ρ μ w ts t)(hP:∀j,j<k->∀(ρ:UL) (μ:Mu),QR aB (ry f V g) j ρ μ->P ρ μ)(v:∀b,V (aI.H .v b))(hl:ku l<sz t)(c:oK l)(e:l.all f=f t):UT .g hY (.d w) (.A .F (us l)) (y8 .v aI P) μ:=
 ⟨h.x,h.s (m:=(us l).length)<|fh l▸qg (j1 l) (xB hl),λd a=>h.K P hP hl dq (aE _ _ _) (h.I.u a) (h.I.i<|.H _ a)<|wK h c e (v _)⟩
theorem GM{Q:UQ}{P:ce}(h:kn aB (ry cH (λd=>xT) g) k ρ μ w ts t)(q:Q (.q g) aB)(hP:∀j,j<k->∀(ρ:UL) (μ:Mu),QR aB (ry cH (λd=>xT) g) j ρ μ->P ρ μ):
  bZ ad (aJ ad<|n+1) (Cq mh) (cD Wk Q) (λd d=>qp) P (ρ.H .p t.u) μ:=by
 exact T.p (P:=λt=>kn aB (ry cH (λd=>xT) g) k ρ μ w ts t->bZ ad (aJ ad (n+1)) (Cq mh) (cD Wk Q) (λd d=>qp) P (ρ.H .p t.u) μ) (λd h=>h.S hP oy h.r dq) (λd h=>h.S hP oy h.r dq) (λd h=>h.S hP oy h.r dq) (λd d h=>h.S hP oy h.r dq) (λd d h=>h.S hP oy h.r dq)
  (λa b c h=>ac h.r<|h.u (l:=[b,c]) hP (λd=>oy) (qi sH<|iS _ _) h.i.2.2 dq) (λd d d d h=>h.S hP oy h.r dq)
  (λf l h=>jb h.i<|b7 (b:=!kD (f::l)) (λhb=>h.p q<|O2 (xc _▸hb)) λhb=>Gz (P:=λf=>kn aB (ry cH (λd=>xT) g) k ρ μ w ts (.A .h<|f::l)->bZ ad (aJ ad<|n+1) (.o (.l<|.M (.s .v) .ch (.o (.d (.d (.s .p) .Y) .I) .t)) .t) (cD Wk Q) (λd d=>qp) P (ρ.H .p (T.A .h<|f::l).u) μ) (λlb xs rest b e h=>ac h.r<|mA h.x (h.D (t':=b) hP oy h.r (qi (qg (xB<|qi (lU (l:=[])) (iS (.a lb xs rest) [b])) lU)<|iS .h _) h.i.2.1.2.1<|(xn _).symm.trans (KC e))) h.i.2.1 (ZZ _▸hb) h)
  (λm e h=>ac h.r (mA h.x (by
   show dB (u1 (us (m++[e])) (-1)) _;rw[mz,show us [e]=[e.u]from dq,Fe];exact h.D hP oy h.r (qi (qg lU (nq m [e]▸qr _ _)) (iS _ _)) (mM.mp h.i.2).2.1 (Bk _ _).symm))) (λd d h=>h.S hP oy h.r dq) t h.i h
end
def rE:qe U:=j6.map λl=>.A .H<|l.map Vz
abbrev d3(n:qc):be:=vI rE Wk n
def Pw.h(w:Pw):qd:=if w.b then 0 else 1
section
variable{ad:qe U}{n:qc}{C:be}{Q:UQ}{X:Mu->Prop}{μ aB:Mu}{l:qe U}{a k w:qc}{v:U}{g:qw}{ρ:UL}{ts:qe T}{t:T}{F:Fx}{fv:U}
theorem tM(a:oM t)(hl:sz t<eC)(q:Q (.q (cH t)) μ):aJ ad (n+2) (.r ⟨241⟩) [t.u] Q X μ:=
 aC (fn:=mh) dq dq λb hb=>Hu (ok:=ry cH (λc=>xT)<|cH t) (λρ s l o=>cD.A (Wk.I l) (show Q (.q hY) μ by rw[show hY=cH t from o.2.2];exact q)) (λk ρ s w ts t' h P hP=>GM h q hP) (sz t) _ _<|.mk (ts:=[t]) dq (aE _ _ _) hb (.H _ hb) (ah4 _) hl ⟨oy,⟨a,oy⟩,xn _⟩
theorem aay{i:qd}{w:U}(e:u1 l i=dA w)(q:Q w μ):EE (.A .H l) (.j i) Q μ:=by
 show dB (u1 l i) λw=>Q w μ;rw[e];exact q
theorem II{o:qk U}{d w:U}(e:o.getD d=w)(q:Q w μ):abr o d Q μ:=⟨by rw[e];exact q⟩
theorem Yw(w:Pw):u1 rE w.f=dA (.A .H [.t w.z.t,.j w.I,.j w.I,.j w.h]):=by cases w<;>kernel_rfl
theorem AF{w:Pw}(q:Q (.j w.h) μ):d3 (n+1) (.r ⟨253⟩) [.j w.f] Q X μ:=
 aC (fn:=tW) dq dq (aay (Yw w)<|cD.j q)
def iw:qe Nm:=[.F,.G,.dy,.S,.eO,.L,.jO,.y,.bc,.bp]
def aht(ks:qe qd)(vs:qe U)(f:qd->qc):Prop:=∀x,(Er ks vs x).getD (.j 0)=.j (f x)
inductive iF(F:Fx):U->Prop
 |mk{kr vr ks vs l c}(cr:aht kr vr F.b)(cs:aht ks vs c)(st:∀x,F.a x=decide (0<c x)):iF F (.A (.f .O iw)<|.A (.d kr) vr::.A (.d ks) vs::l)
theorem mV{x:qd}(f:iF F fv)(q:Q (.q (F.a x)) μ):aJ ad (n+1) (.y .O .gU) [fv,.j x] Q X μ:=by
 induction f with
 |@mk a vr ks vs l c cr cs st=>
  rw[st x,←ZN.mpr (zt (n:=c x))]at q;refine aC (fn:=pe) dq dq ?_;refine II (cs x) ?_;exact cD.j q
theorem rC{x:qd}(f:iF F fv)(q:Q (.j (F.b x)) μ):aJ ad (n+1) (.y .O .eZ) [fv,.j x] Q X μ:=by
 induction f with
 |@mk a vr ks vs l c cr cs st=>exact aC (fn:=lB) dq dq<|II (cr x) (cD.j q)
theorem Eo{K:lS->Prop}(f:iF F fv)(q:K (.y .O .gU)):rI fv .gU μ K:=by
 induction f;exact q
theorem Ob{K:lS->Prop}(f:iF F fv)(q:K (.y .O .eZ)):rI fv .eZ μ K:=by
 induction f;exact q
theorem gY{n:qc}(h:n<eC):n<aH:=zU h (by decide)
theorem oX{h:Hd}{l:qe T}(b:oM (.A h l))(hl:l.length<eC)(q:Q (.A .F (us l)) μ):rI (T.A h l).u .u μ λf=>aJ ad (n+1) f [(T.A h l).u] Q X μ:=
 T.p (P:=λt=>@T.casesOn (λa=>Prop) t (λa l=>l.length<eC->Q (.A .F (us l)) μ->rI t.u .u μ λf=>aJ ad (n+1) f [t.u] Q X μ)) (λa a q=>aC (fn:=kU) dq dq (.j q)) (λa a q=>aC (fn:=kU) dq dq (.j q)) (λa a q=>aC (fn:=kU) dq dq (.j q)) (λa a a q=>aC (fn:=mR) dq dq (.j q)) (λa a a q=>aC (fn:=l6) dq dq (.j q))
  (λa a a a q=>aC (fn:=yD) dq dq<|.j q) (λa a a a a q=>aC (fn:=pd) dq dq<|.j q) (λa m hl q=>aC (fn:=tu) dq dq ⟨gY (by rw[xa];exact fh m▸hl),.j q⟩) (λa a a q=>aC (fn:=vq) dq dq<|.j q) (λa a a q=>aC (fn:=te) dq dq<|.j q) (.A h l) b hl q
def qtH(F:Fx)(h:Hd)(l:qe T)(g:qe (qw×qw)):qw×qw:=Hd.casesOn h (λa=>(hY,hY)) (λx=>(!F.a x,hY)) (λa=>(np,hY)) (λa=>(np,hY)) (λa=>(np,hY)) (g.all (·.1),hY) (λa a a=>(hY,(g.headD (hY,hY)).1)) (kD l&&(g.tail.all (·.1)&&(g.headD (hY,hY)).2),hY) (g.all (·.1),hY) λw=>(w.b&&g.all (·.1),hY)
def qtT(F:Fx):T->qw×qw:=fT (qtH F) [] λb b a s=>a::s
def qtL(F:Fx):qe T->qe (qw×qw):=fL (qtH F) [] λb b a s=>a::s
def ck(F:Fx)(t:T):qw:=(qtT F t).1
theorem YC(F:Fx)(l:qe T):qtL F l=l.map (qtT F):=by
 induction l with
 |nil=>rfl
 |cons t l ih=>exact qh (qtT F t::·) ih
theorem rR(F:Fx)(l:qe T):(qtL F l).all (·.1)=l.all (ck F):=by rw[YC,List.all_map];rfl
theorem Nq{l:qe T}(h:kD l=np):ck F (.A .h l)=np:=by show(kD l&&_)=np;rw[h];rfl
theorem JV{lb rest:qd}{xs:qe qd}{b:T}(h:kD (.A (.a lb xs rest) [b]::ts)=hY):(ts++[b]).all (ck F)=ck F (.A .h (.A (.a lb xs rest) [b]::ts)):=by
 show _=(kD (.A (.a lb xs rest) [b]::ts)&&((qtL F ts).all (·.1)&&ck F b));rw[h,rR,ZJ];exact qh (_&&·)<|xn _
abbrev JW(F:Fx)(fv:U):=ry (ck F) λρ=>ρ .A=dA fv
theorem F8{v:Pw}{l:qe T}{A B:Prop}(h1:ck F (.A (.A v) l)=np->A)(h2:l.all (ck F)=ck F (.A (.A v) l)->B):xU (!(v.h==0)) A B:=by
 have e:ck F (.A (.A v) l)=(v.b&&l.all (ck F)):=qh (v.b&&·)<|rR F l;rw[e]at h1 h2;cases v<;>first|exact h2 dq|exact h1 dq
theorem aaf{lb rest:qd}{xs:qe qd}{b:T}{l:qe T}:ku (l++[b])<sz (.A .h (.A (.a lb xs rest) [b]::l)):=by
 rw[nq,xa];exact qi (qF (xB<|iS (.a lb xs rest) [b]) _)<|iS .h (.A (.a lb xs rest) [b]::l)
theorem kn.B{V:UL->Prop}{f:T->qw}(h:kn aB (ry f V g) k ρ μ w ts t){P:ce}(hP:∀j,j<k->∀(ρ:UL) (μ:Mu),QR aB (ry f V g) j ρ μ->P ρ μ){aI:UL}{l:qe T}{b:T}(v:∀b,V (aI.H .v b))(hl:ku (l++[b])<sz t)(d:oK (l++[b]))(e:(l++[b]).all f=f t):
  UT .g np (.d w) (.A .F<|us l) (cB2 .g hY · (y8 .v aI P) (.A .F [b.u])) μ:=
 have a:(us ts).length+((us l).length+1)<aH:=h.s (by rw[fh];exact qg (qg (qL (qs (as:=l) (bs:=[b])).symm)<|j1 _)<|xB hl)
 ⟨h.x,zb a,by rw[qs,qT];exact a,λw' c=>h.K P hP hl dq ((aE _ _ _).trans (by rw[mz,←qR];rfl)) (h.I.u c) (h.I.i<|.H _ c)<|wK h d e (v _)⟩
theorem F7(f:iF F fv){P:ce}(h:kn aB (JW F fv g) k ρ μ w ts t)(q:Q (.q g) aB)(hP:∀j,j<k->∀(ρ:UL) (μ:Mu),QR aB (JW F fv g) j ρ μ->P ρ μ):
  bZ rE (d3<|n+1) (Cq nU) (cD Wk Q) (λd d=>qp) P (ρ.H .p t.u) μ:=
 have len:∀{hd l},kn aB (JW F fv g) k ρ μ w ts (.A hd l)->l.length<eC:=λh=>qi (j1 _)<|zU (iS _ _) h.A
 T.p (P:=λt=>kn aB (JW F fv g) k ρ μ w ts t->bZ rE (d3 (n+1)) (Cq nU) (cD Wk Q) (λd d=>qp) P (ρ.H .p t.u) μ) (λd h=>h.S hP h.o.1 h.r dq)
  (λx h=>ac h.o.1 (Eo f (mV f (b7 (b:=F.a x) (λhb=>h.p q (qh (!·) hb)) λhb=>h.S hP h.o.1 h.r (qh (!·) hb))))) (λd h=>h.p q dq) (λd d h=>h.p q dq) (λd d h=>h.p q dq)
  (λa b c h=>ac h.r<|oX h.i (len h) (h.u hP (λd=>h.o.1) (iS _ _) h.i.2 (rR F [a,b,c]).symm)) (λd d d d h=>h.S hP h.o.1 h.r dq)
  (λi l h=>jb h.i (b7 (b:=!kD (i::l)) (λhb=>h.p q (Nq (xc _▸hb))) λhb=>Gz (P:=λi=>kn aB (JW F fv g) k ρ μ w ts (.A .h (i::l))->bZ rE (d3 (n+1)) (.o (.g .v (.J hY (.C .g (.C .g (.s .v) (.d (.s .p) .U)) (.F (.o (.d (.d (.s .p) .Y) .I) .t))))) .t) (cD Wk Q) (λd d=>qp) P (ρ.H .p (T.A .h (i::l)).u) μ)
   (λlb xs rest b e h=>ac h.r (h.B hP (λd=>h.o.1) aaf (mM.mpr ⟨h.i.2.2,show oK [b]from h.i.2.1.2⟩) (JV e))) h.i.2.1 (ZZ _▸hb) h))
  (λm e h=>ac h.r<|oX h.i (len h) (h.u hP (λd=>h.o.1) (iS _ _) h.i.2 (rR F<|m++[e]).symm))
  (λv l h=>AF<|F8 (λe=>h.p q e) λe=>ac h.r<|h.u hP (λd=>h.o.1) (iS _ _) h.i.2 e) t h.i h
theorem vB(f:iF F fv)(a:oM t)(hl:sz t<eC)(q:Q (.q (ck F t)) μ):d3 (n+2) (.r ⟨217⟩) [t.u,fv] Q X μ:=
 aC (fn:=nU) dq dq λb hb=>Hu (ok:=JW F fv<|ck F t) (λρ s l o=>cD.A (Wk.I l) (show Q (.q hY) μ by rw[show hY=ck F t from o.2.2];exact q)) (λk ρ s w ts t' h P hP=>F7 f h q hP) (sz t) _ _<|.mk (ts:=[t]) dq (aE _ _ _) hb (.H _ hb) (ah4 _) hl ⟨dq,⟨a,oy⟩,xn _⟩
end
theorem j3(q:Q ρ μ):kX cy [] Q ρ μ:=by rw[EK];exact q
theorem gi(q:cy vs (kX cy its Q) ρ μ):kX cy (vs::its) Q ρ μ:=by rw[Bl];exact q
theorem CJ(fu:qe (qe U)->ce)(h0:∀ρ μ,fu [] ρ μ->Q ρ μ)(h1:∀vs l ρ μ,fu (vs::l) ρ μ->∀K:ce,(∀ρ μ,fu l ρ μ->K ρ μ)->cy vs K ρ μ)(l:qe (qe U)):∀ρ μ,fu l ρ μ->kX cy l Q ρ μ:=by
 induction l with
 |nil=>exactλρ μ h=>j3<|h0 ρ μ h
 |cons vs l ih=>exactλρ μ h=>gi<|h1 vs l ρ μ h _ ih
theorem KF(fu:qc->ce)(h0:∀ρ μ,fu m ρ μ->Q ρ μ)(h1:∀i ρ μ,i<m->fu i ρ μ->∀K:ce,(∀ρ μ,fu (i+1) ρ μ->K ρ μ)->cy [.j i] K ρ μ)(h:fu 0 ρ μ):kX cy (nB m) Q ρ μ:=by
 have key:∀k i,i+k=m->∀ρ μ,fu i ρ μ->kX cy ((aig i k).map λ(i:qc)=>[U.j i]) Q ρ μ:=λk=>by
  induction k with
  |zero=>exactλi e ρ μ h=>j3<|h0 ρ μ (e▸h)
  |succ k ih=>exactλi e ρ μ h=>gi (its:=(aig (i+1) k).map λ(i:qc)=>[U.j i])<|h1 i ρ μ (e▸Nat.lt_add_of_pos_right (zT k)) h _ λρ μ h=>ih (i+1) ((xQ i 1 k).trans e) ρ μ h
 have e:nB m=(aig 0 m).map λ(i:qc)=>[U.j i]:=by
  unfold nB;rw[aeA,List.range_eq_range']
 rw[e];exact key m 0 (vu m) ρ μ h
section
variable{ad:qe U}{n:qc}{Q:UQ}{X:Mu->Prop}{μ:Mu}{l m:qe T}{ρ:UL}
theorem abV(l:qe α)(i:qc):u1 l (i:qd)=l[i]?:=by
 unfold u1;rw[if_neg (ZC.mpr<|xE i),aeA]
theorem wP(l:qe T):us l=l.map T.u:=by
 induction l with
 |nil=>rfl
 |cons t l ih=>exact qh (t.u::·) ih
theorem Vy(h:i<l.length):u1 (us l) (i:qd)=dA (l[i]).u:=by rw[abV,wP,xx,xe h];rfl
inductive SmI(l m:qe T)(aB:Mu)(i:qc)(ρ:UL)(μ:Mu):Prop
 |mk(es:μ=aB)(e1:ρ ⟨82⟩=dA (.A .F<|us l))(e2:ρ ⟨168⟩=dA (.A .F<|us m))(h:(us l).take i=(us m).take i):SmI l m aB i ρ μ
theorem Me{t:T}(s:oM t){P:U->Prop}(h:∀c xs l,P (.A (.f c xs) l)):P t.u:=
 T.p (P:=λt=>P t.u) (λa=>h _ _ _) (λa=>h _ _ _) (λa=>h _ _ _) (λa a=>h _ _ _) (λa a=>h _ _ _) (λa a a=>h _ _ _) (λa a a a=>h _ _ _) (λa a=>h _ _ _) (λa a=>h _ _ _) (λa a=>h _ _ _) t s
theorem aeK{s t:T}(e:oM s)(d:oM t){K:qw->Prop}(k:∀b:qw,(b=hY->s.u=t.u)->K b):TA s.u t.u μ K:=
 Me e (P:=λv=>(∀b:qw,(b=hY->v=t.u)->K b)->TA v t.u μ K) (λc xs l=>Me d (P:=λw=>(∀b:qw,(b=hY->.A (.f c xs) l=w)->K b)->TA (.A (.f c xs) l) w μ K) λa a a k=>k) k
theorem HO(s:oK l)(h:i<l.length):oM l[i]:=by
 induction l generalizing i with
 |nil=>cases h
 |cons t l ih=>cases i with|zero=>exact s.1|succ i=>exact ih s.2<|Nat.lt_of_succ_lt_succ h
theorem RZ(e:oK l)(sm:oK m)(hl:l.length<eC)(q:∀b:qw,(b=hY->us l=us m)->Q (.q b) μ):aJ ad (n+1) (.r ⟨272⟩) [.A .F (us l),.A .F (us m)] Q X μ:=by
 have no:cD Wk Q (.q np) μ:=.j<|q np λz=>qH z qB;refine aC (fn:=ou) dq dq<|b7 (b:=!(((us l).length:qd)==((us m).length:qd))) (λd=>no) λhb=>⟨⟨xE _,xV.mpr<|gY (fh l▸hl)⟩,?_⟩
 have c:l.length=m.length:=by
  have:=Zo<|eq_of_beq (ZZ _▸hb);rwa [fh,fh]at this
 refine KF (SmI l m μ) (λρ bS h=>h.rec λes e1 e2 h=>?_) (λi ρ bS hi h K f=>h.rec λes e1 e2 h=>?_) ⟨dq,dq,dq,dq⟩
 ·rw[abz,fh,c,←fh m,abz]at h;exact es▸.j (q hY λd=>h)
 ·rw[fh]at hi;have a:i<m.length:=c▸hi;refine ac e1 ?_;show dB (u1 (us l) (i:qd)) _;rw[Vy hi];refine ac e2 ?_;show dB (u1 (us m) (i:qd)) _;rw[Vy a];refine aeK (HO e hi) (HO sm a) λb hb=>?_;cases b with
  |false=>exact es▸no
  |true=>
   refine f _ _ ⟨es,e1,e2,?_⟩;rw[ajz,ajz,h,wP,wP,xx,xx,xe hi,xe a];exact qh (λx=>_++[x])<|hb dq
theorem E7(h:k<=n):acD n (k:qd)=k:=by
 unfold clipAt;rw[if_neg (ZC.mpr<|xE k),agh<|aeh.mpr h,afe<|xE k];rfl
theorem ny{b:qw}{L:qe U}{k:qc}(h:k<=L.length)(q:d9 b .F (L.drop k) Q μ):iA b (.A .F L) (.j k) .u Q μ:=by
 unfold iA;show d9 b .F ((L.take L.length).drop (acD L.length k)) Q μ;rw[E7 h,abz];exact q
theorem MO{b:qw}{L:qe U}{k:qc}(h:k<=L.length)(q:d9 b .F (L.take k) Q μ):iA b (.A .F L) .u (.j k) Q μ:=by
 unfold iA;show d9 b .F ((L.take<|acD L.length k).drop 0) Q μ;rw[E7 h];exact q
def uf(ad:qe U)(n:qc)(m:qe T)(h:Hd)(l:qe T):Prop:=∀⦃Q:UQ⦄⦃X:Mu->Prop⦄⦃μ:Mu⦄,Q (T.A h m).u μ->rI (T.A h l).u .aU μ λf=>aJ ad (n+1) f [(T.A h l).u,.A .F<|us m] Q X μ
theorem QY{h:Hd}(g:oM (.A h l))(i:m.length=l.length):uf ad n m h l:=by
 have z:∀{h},(∀⦃Q X μ⦄,Q (T.A h []).u μ->rI (T.A h []).u .aU μ λf=>aJ ad (n+1) f [(T.A h []).u,.A .F []] Q X μ)->m.length=0->uf ad n m h []:=λ{h} f e=>Ck (P:=λm=>uf ad n m h []) f<|wy e;have o:∀{h e},(∀a,uf ad n [a] h [e])->m.length=1->uf ad n m h [e]:=λ{h e} f k=>kz (P:=λm=>uf ad n m h [e]) f k
 exact T.p (P:=λt=>@T.casesOn (λd=>Prop) t (λh l=>m.length=l.length->uf ad n m h l)) (λd=>z λd d d q=>aC (fn:=gJ) dq dq (.j q)) (λd=>z λd d d q=>aC (fn:=gJ) dq dq (.j q)) (λd=>z λd d d q=>aC (fn:=gJ) dq dq (.j q))
  (λd d=>o λd d d d q=>aC (fn:=jK) dq dq<|.j q) (λd d=>o λd d d d q=>aC (fn:=jx) dq dq<|.j q) (λa b c k=>wV (P:=λm=>uf ad n m .v [a,b,c]) (λd d d d d d q=>aC (fn:=om) dq dq<|.j q) k) (λd d d d=>o λd d d d q=>aC (fn:=kG) dq dq<|.j q)
  (λa l k=>wF (P:=λm=>uf ad n m .h<|a::l) (λd m d d d q=>aC (fn:=l9) dq dq (by refine ny (L:=_::us m) (k:=1) (qN<|qP _) ?_;exact cD.j q)) (λe=>by rw[e]at k;cases k)) (λd d d d d d q=>aC (fn:=mS) dq dq<|.j q) (λd d d d d d q=>aC (fn:=l7) dq dq<|.j q) (.A h l) g i
end
def pQ(g:T->T):T->T:=fT (λh b s=>g<|.A h s) [] λb b a s=>a::s
def gM(g:T->T):qe T->qe T:=fL (λh b s=>g<|.A h s) [] λb b a s=>a::s
def cn:T->qc:=fT (λb b s=>s+1) 0 λb b a s=>a+s
def cns:qe T->qc:=fL (λb b s=>s+1) 0 λb b a s=>a+s
theorem wg(g:T->T)(l:qe T):(gM g l).length=l.length:=by
 induction l with
 |nil=>rfl
 |cons t l ih=>exact qh xZ ih
theorem abx(t:T):1<=cn t:=T.r (P:=λt=>1<=cn t) (λa a=>zT _) t
abbrev rA:=T×qw
def tm(W:rA):qc:=@Bool.rec (λa=>qc) (2*cn W.1) 1 W.2
def Dl(W:qe rA):qc:=(W.map tm).sum
noncomputable def GB(l:qe T):qe rA:=l.map λt=>(t,np)
theorem Rh(V W:List rA):Dl (V++W)=Dl V+Dl W:=by unfold Dl;rw[List.map_append,List.sum_append]
theorem Mw(l:qe T):Dl (GB l)=2*cns l:=by
 induction l with
 |nil=>rfl
 |cons t l ih=>exact(qh (2*cn t+·) ih).trans (ZE ..).symm
theorem FT(W:rA):1<=tm W:=@Bool.rec (λb=>1<=tm (W.1,b)) (qg (abx W.1)<|acu _ (by decide)) (qm _) W.2
theorem Im(W:qe rA):W.length<=Dl W:=by
 induction W with
 |nil=>exact qm _
 |cons t l ih=>exact qg (qL<|xa _ _)<|qM (FT t) ih
noncomputable def aiX(t:T):qe T:=@T.casesOn (λa=>qe T) t λa l=>l
def Vd(g:T->T)(H:T->Prop)(r:T)(W:qe rA):qe T->Prop:=@List.rec rA (λa=>qe T->Prop) (λD=>D=[r]) (λt a ih D=>H t.1/\@Bool.rec (λa=>Prop) (ih<|D++[pQ g t.1]) (∃D0,D=D0++gM g (aiX t.1)/\ih (D0++[pQ g t.1])) t.2) W
theorem Q7:∀{D:qe T},(∀t∈l,H t)->Vd g H r W (D++gM g l)->Vd g H r (GB l++W) D:=by
 induction l with
 |nil=>exactλb v=>by rw[show gM g []=[]from dq,qO]at v;exact v
 |cons t l ih=>exactλh v=>⟨h t<|.head _,ih (λt a=>h t<|.tail _ a) (by rw[qR];exact v)⟩
def tk(W:rA):U:=.A .H [W.1.u,.q W.2]
def HA(W:qe rA):qe U:=(W.map tk).reverse
theorem wU(t:rA)(W:qe rA):HA (t::W)=HA W++[tk t]:=z0
theorem BX(W:List rA):(HA W).length=W.length:=by unfold HA;rw[List.length_reverse,List.length_map]
inductive RbI(g:T->T)(H:T->Prop)(r:T)(B:qc)(cv:U)(aB:Mu)(k:qc)(ρ:UL)(μ:Mu):Prop
 |mk{w d W D}(e1:ρ .v=dA (.d w))(e2:μ w=dA ⟨np,.F,HA W⟩)(e3:ρ .iC=dA (.d d))(e4:μ d=dA ⟨np,.F,us D⟩)(e5:ρ .gW=dA cv)(V:Vd g H r W D)(ek:Dl W=k)(b:D.length+k<=B)(wd:w≠d)(nw:aB w=ft)(nd:aB d=ft)(le:jj aB μ):RbI g H r B cv aB k ρ μ
section
variable{ad:qe U}{Q:UQ}{X:Mu->Prop}{μ aB:Mu}{l m:qe T}{ρ:UL}{g:T->T}{H:T->Prop}{r:T}{B k w d:qc}{cv:U}{W:qe rA}{D:qe T}{hd:Hd}{P:ce}
abbrev Nl(g:T->T)(H:T->Prop)(r:T)(B:qc)(cv:U)(aB:Mu)(k:qc)(P:ce):Prop:=∀j,j<k->∀ρ μ,RbI g H r B cv aB j ρ μ->P ρ μ
structure RbH(g:T->T)(H:T->Prop):Prop where
 i:∀t,H t->oM t
 c:∀hd l,H (.A hd l)->∀t∈l,H t
 u:∀hd l,H (.A hd l)->l.length<eC
 v:∀t,H t->oM (pQ g t)
def QC(aB:Mu)(C:be)(c m:Nm)(self:U)(g:T->T)(H:T->Prop):Prop:=∀hd l,H (.A hd l)->∀Q X μ,jj aB μ->Q (g<|.A hd (gM g l)).u μ->C (.y c m) [self,(T.A hd<|gM g l).u] Q X μ
inductive ahu(w:qc)(j4:Mu)(I:UL->Prop)(base L:qe U)(f:U->U)(its:qe (qe U))(ρ:UL)(μ:Mu):Prop
 |mk{d L2}(el:L=d++L2)(ei:its=fF L2)(i:I ρ)(e:μ w=dA ⟨np,.F,base++d.map f⟩)(fr:∀a,a≠w->μ a=j4 a):ahu w j4 I base L f its ρ μ
theorem IO{cy:qe U->ce->ce}{Qn:ce}{I:UL->Prop}{base L:qe U}{f:U->U}{j4:Mu}(hb:∀v K ρ μ c,I ρ->μ w=dA ⟨np,.F,c⟩->c.length+1<aH->(∀aI,I aI->K aI (μ.H w ⟨np,.F,c++[f v]⟩))->cy [v] K ρ μ)(n:base.length+L.length<aH)
  (i:I ρ)(e:j4 w=dA ⟨np,.F,base⟩)(q:∀ρ μ,I ρ->μ w=dA ⟨np,.F,base++L.map f⟩->(∀a,a≠w->μ a=j4 a)->Qn ρ μ):kX cy (fF L) Qn ρ j4:=
 CJ (ahu w j4 I base L f) (λρ μ h=>h.rec λ{d b} g j i e fr=>q ρ μ i (by rw[g,show b=[]from Zc.mp j.symm,qO];exact e) fr)
  (λvs its ρ μ h K m=>h.rec λ{d b} g j i e fr=>by
   induction b with
   |nil=>cases j
   |cons v b=>
    cases j;refine hb v K ρ μ _ i e ?_ λaI l=>m _ _ ⟨(g.trans<|aeX d v b),dq,l,?_,λa ha=>(ap _ _ ha).trans (fr a ha)⟩
    ·rw[qs,qI,qT];rw[g,qs]at n;exact qi (qn (qn (qN<|qP _) _) _) n
    ·rw[xj,←qR];exact aE _ _ _) _ ρ j4 ⟨(List.nil_append _).symm,dq,i,by rw[amv,qO];exact e,λk k=>dq⟩
theorem Mx(l:qe T)(W:qe rA):HA (GB l++W)=HA W++(us l).reverse.map λu=>.A .H [u,.q np]:=by
 unfold HA GB;rw[xj,aiG,xP,wP,←zP,←zP,←zP,xP];rfl
theorem RbH.b(R:RbH g H)(h:∀t∈l,H t):oK (gM g l):=by
 induction l with
 |nil=>exact oy
 |cons t l ih=>exact⟨R.v t<|h t (.head _),ih λt a=>h t<|.tail _ a⟩
noncomputable def ifE(s:Sm):iH:=@Sm.casesOn (λa=>iH) s (λa a=>.t) (λa a a=>.t) (λa a a=>.t) (λa a a=>.t) (λa a a a=>.t) (λa=>.t) (λa a b=>b) (λa b=>b) (λa a b=>b) (λa=>.t) .t λb a a a a=>b
abbrev Ih(f:Fn):iH:=bC<|LZ (kg<|bC (bC f.a))
abbrev Ca:iH:=ifE<|kg (bC<|Ih p0)
theorem eP(μ:Mu)(a:qc)(c d:Mc):(μ.H a c).H a d=μ.H a d:=by
 funext b;unfold Mu.H;by_cases h:b=a
 ·rw[qK h,qK h]
 ·rw[if_neg h,if_neg h,if_neg h]
theorem HJ{lo:U}(e:μ a=dA ⟨fr,.F,L⟩)(q:iA b (.A .F L) lo hi Q μ):iA b (.d a) lo hi Q μ:=by
 unfold iA at q⊢;exact⟨e,q⟩
abbrev Nn:iH:=bC<|bC (bC<|bC Ca)
theorem Sd{C:be}{c m:Nm}{self:U}{R:UQ}{Xs:ce}{D0:qe T}(hc:QC aB C c m self g H)(h:H (.A hd l))(a:ρ .p=dA (T.A hd (gM g l)).u)(e3:ρ .iC=dA (.d d))(e4:μ d=dA ⟨np,.F,us D0⟩)(e5:ρ .gW=dA (.A (.y c m) [self]))(hB:D0.length+1<aH)(le:jj aB μ)
  (q:P ρ (μ.H d ⟨np,.F,us<|D0++[pQ g (.A hd l)]⟩)):bZ ad C Nn R Xs P ρ μ:=by
 refine ac e3<|mA e4 ⟨by rw[e5];rfl,ac a ?_⟩
 show Xl C (ρ .gW) [(T.A hd<|gM g l).u] _ _ _;rw[e5];refine hc hd l h _ _ _ le<|sR e4 (fh D0▸hB) ?_;rw[mz]at q;exact q
theorem Si{n:qc}{C:be}{c m:Nm}{self:U}{R:UQ}{Xs:ce}{D0:qe T}(hC:C=aJ ad (n+1))(a:RbH g H)(hc:QC aB C c m self g H)(h:H (.A hd l))(i:ρ .p=dA (T.A hd l).u)(e1:ρ .u=dA (.A .F (us l)))(e3:ρ .iC=dA (.d d))(e4:μ d=dA ⟨np,.F,us (D0++gM g l)⟩)(e5:ρ .gW=dA (.A (.y c m) [self]))(hB:D0.length+1<aH)(e:jj aB μ)
  (q:∀aI d',μ d'=ft->aI .v=ρ .v->aI .iC=dA (.d d')->aI .gW=dA (.A (.y c m) [self])->P aI (μ.H d' ⟨np,.F,us<|D0++[pQ g (.A hd l)]⟩)):bZ ad C Ca R Xs P ρ μ:=by
 have o:((us<|D0++gM g l).length:qd)-((us l).length:qd)=(D0.length:qc):=by rw[fh,fh,qs,wg];exact acU (D0.length:qd) l.length
 have le:D0.length<=(us<|D0++gM g l).length:=by rw[fh,qs];exact qj _ _
 have p:(us<|D0++gM g l).drop D0.length=us (gM g l):=by rw[mz,←fh D0,List.drop_left]
 have k:(us<|D0++gM g l).take D0.length=us D0:=by rw[mz,←fh D0,alW]
 refine ac e3 ⟨e4,ac e1 ?_⟩;show y8 .jY ρ (bZ ad C (bC Ca) R Xs P) (.j<|(us<|D0++gM g l).length-(us l).length) μ;rw[o];refine ac (ρ:=ρ.H _ _) e3<|HJ e4 (ny le ?_);rw[p];refine ac (ρ:=(ρ.H _ _).H _ _) e3<|HJ e4 (MO le λd' j=>?_);rw[k];refine ac (ρ:=((ρ.H _ _).H _ _).H _ _) e1 ?_
 have fin:∀{aI:UL},aI .p=dA (T.A hd (gM g l)).u->aI .v=ρ .v->aI .iC=dA (.d d')->aI .gW=dA (.A (.y c m) [self])->bZ ad C Nn R Xs P aI (μ.H d' ⟨np,.F,us D0⟩):=λh0 h1 h3 f=>
  Sd hc h h0 h3 (aE _ _ _) f hB (e.i<|.H _ j) (by rw[eP];exact q _ d' j h1 h3 f)
 subst hC;refine RZ (a.i _ h).2 (a.b<|a.c _ _ h) (a.u _ _ h) λb hb=>?_;cases b with
 |true=>exact fin (aI:=((ρ.H .jY _).H .fc _).H .iC _) (i.trans<|qh (λx=>dA<|hU hd x) (hb dq)) dq dq e5
 |false=>exact ac (ρ:=((ρ.H _ _).H _ _).H _ _) i<|QY (a.i _ h) (wg g l) (fin dq dq dq e5)
theorem HR{n:qc}{C:be}{c m:Nm}{self:U}{R:UQ}{Xs:ce}{D0:qe T}(hC:C=aJ ad (n+1))(j:RbH g H)(hc:QC aB C c m self g H)(hB:B<aH)(h:H (.A hd l))(i:ρ .p=dA (T.A hd l).u)(e1:ρ .u=dA (.A .F (us l)))
  (t1:ρ .v=dA (.d w))(t2:μ w=dA ⟨np,.F,HA W⟩)(t3:ρ .iC=dA (.d d))(e:μ d=dA ⟨np,.F,us<|D0++gM g l⟩)(a:ρ .gW=dA (.A (.y c m) [self]))(V:Vd g H r W (D0++[pQ g (.A hd l)]))(lt:Dl W<k)(b:D0.length+1+Dl W<=B)(nw:aB w=ft)(le:jj aB μ)
  (hP:Nl g H r B (.A (.y c m) [self]) aB k P):bZ ad C Ca R Xs P ρ μ:=
 Si hC j hc h i e1 t3 e a (qi (qg (qj _ _) b) hB) le λaI d' hd h1 h3 f=>hP _ lt _ _ ⟨h1.trans t1,(ap _ _<|bz t2 hd).trans t2,h3,aE _ _ _,f,V,dq,by rw[qs];exact b,bz t2 hd,nw,le.u hd,le.B _ (le.u hd)⟩
theorem Sc{n:qc}{c m:Nm}{self:U}{R:UQ}{Xs:ce}{t:T}{fl:qw}(o:RbH g H)(hc:QC aB (aJ ad (n+1)) c m self g H)(hB:B<aH)
  (t1:ρ .v=dA (.d w))(t2:μ w=dA ⟨np,.F,HA W⟩)(t3:ρ .iC=dA (.d d))(p:μ d=dA ⟨np,.F,us D⟩)(q:ρ .gW=dA (.A (.y c m) [self]))(V:Vd g H r ((t,fl)::W) D)(j:Dl ((t,fl)::W)=k)(b:D.length+k<=B)(wd:w≠d)(nw:aB w=ft)(nd:aB d=ft)(le:jj aB μ)
  (hP:Nl g H r B (.A (.y c m) [self]) aB k P):bZ ad (aJ ad<|n+1) (Ih p0) R Xs P ((ρ.H .p t.u).H ⟨195⟩ (.q fl)) μ:=by
 induction t using T.r with|h hd l=>
 have h:=V.1;refine oX (o.i _ h) (o.u _ _ h) ?_;have lt:∀b,Dl W<Dl ((T.A hd l,b)::W):=λb=>Nat.lt_add_of_pos_left<|FT (T.A hd l,b);have bd:∀{D0:qe T},D0.length<=D.length->D0.length+1+Dl W<=B:=λh=>qg (by rw[qT,←j];exact qM h<|qF (FT _) _) b
 cases fl with
 |true=>
  obtain⟨D0,s,V⟩:=V.2;rw[s]at p;exact HR (D0:=D0) dq o hc hB h dq dq t1 t2 t3 p q V (j▸lt hY) (bd (by rw[s,qs];exact qj _ _)) nw le hP
 |false=>
  refine b7 (b:=decide<|((us l).length:qd)>0) (λhb=>?_) λhb=>?_
  ·refine ac (ρ:=((ρ.H .p _).H ⟨195⟩ _).H .u _) t1<|mA t2 (sR t2 ?_ ?_)
   ·rw[BX];exact qi (qg (qF (Im W) 1)<|qg (qg (j▸lt np)<|qr _ _) b) hB
   ·have mI:Dl (GB l++(T.A hd l,hY)::W)+1=Dl ((T.A hd l,np)::W):=by
     rw[Rh,Mw];show 2*cns l+(1+Dl W)+1=2*(cns l+1)+Dl W;rw[ZE,←qT,xQ]
    refine IO (w:=w) (I:=λaI=>aI .v=dA (.d w)/\aI .iC=dA (.d d)/\aI .gW=dA (.A (.y c m) [self])) (base:=HA W++[tk (T.A hd l,hY)]) (f:=λu=>.A .H [u,.q np]) (λv K ρ μ L i e n k=>?_) ?_ ?_ (aE μ w ⟨np,.F,HA W++[tk (T.A hd l,hY)]⟩) λaI bS i e fr=>?_
    ·exact ac (ρ:=ρ.H .eF v) (x:=.v) i.1<|mA e (sR e n<|k _ i)
    ·rw[←wU,acM,fh,BX];have:=Im<|GB l++(T.A hd l,hY)::W;rw[qs,show(GB l).length=l.length from qI ..,xa]at this;exact qi (qg this<|qg (qg (xO _)<|qL (mI.trans j)) (qg (qr _ _) b)) hB
    ·exact⟨t1,t3,q⟩
    ·rw[←wU,←Mx]at e;exact hP _ (j▸mI▸xS _) _ _ ⟨i.1,e,i.2.1,(fr d wd.symm).trans ((ap _ _ wd.symm).trans p),i.2.2,Q7 (o.c _ _ h) ⟨h,D,dq,V.2⟩,dq,qg (qn (zs<|qL (mI.trans j)) _) b,wd,nw,nd,λa x z=>(fr a<|bz z nw).trans ((ap _ _<|bz z nw).trans (le a x z))⟩
  ·have y:l=[]:=wy (by
    have:=xG hb;rw[fh]at this;exact ah7 λz=>this (zt.mpr z))
   exact HR (D0:=D) dq o hc hB h dq dq t1 t2 t3 (by rw[y,show gM g []=[]from dq,qO];exact p) q V.2 (j▸lt np) (bd<|qm _) nw le hP
theorem Ri(h:HA W=[]):W=[]:=wy (by rw[←BX,h];rfl)
theorem aeT(e:μ a=dA ⟨fr,.F,L⟩)(h:u1 L i=dA v)(q:Q v μ):EE (.d a) (.j i) Q μ:=⟨e,by show dB (u1 L i) _;rw[h];exact q⟩
theorem rQ{n:qc}{c m:Nm}{self:U}{t:T}(j:RbH g H)(hc:QC μ (aJ ad (n+1)) c m self g H)(h:H t)(hl:2*cn t<aH)(q:Q (pQ g t).u μ):aJ ad (n+2) (.r ⟨202⟩) [t.u,.A (.y c m) [self]] Q X μ:=by
 refine aC (fn:=p0) dq dq λd hd w i=>?_;have wd:w≠d:=λe=>rk ((e▸i:(μ.H d _) d=ft).symm.trans (aE _ _ _)).symm;have a:μ w=ft:=(ap _ _ wd).symm.trans i;refine BQ (RbI g H (pQ g t) (2*cn t) (.A (.y c m) [self]) μ) (λk ρ bS I=>I.rec λ{w d W D} e1 e2 e3 e4 e5 V f b wd nw nd le=>⟨e1,e2,λz=>?_,λz P hP=>?_⟩) (2*cn t) _ _ ⟨dq,aE _ _ _,dq,(ap _ _ wd.symm).trans (aE _ _ _),dq,show Vd g H (pQ g t) [(t,np)] []from⟨h,dq⟩,dq,qL<|vu _,wd,a,hd,(jj.H _ hd).B _ a⟩
 ·cases Ri z;rw[show D=[pQ g t]from V]at e4;exact ac e3<|aeT e4 dq (cD.A (.I le) q)
 ·refine wF (P:=λW=>bS w=dA ⟨np,.F,HA W⟩->Vd g H (pQ g t) W D->Dl W=k->_) (λtb W e2 V f=>?_) (λe=>z (by rw[e];rfl)) e2 V f
  rw[wU]at e2;exact ac e1<|Go e2 (Np e2<|Sc (fl:=tb.2) j hc hl e1 (aE _ _ _) e3 ((ap _ _ wd.symm).trans e4) e5 V f b wd nw nd (le.B _ nw) hP)
end
def bx(p:qd->T->qw)(ps:qe qd):qe T->qe (qd×T):=@List.rec qd (λa=>qe T->qe (qd×T)) (λa=>[]) (λx a ih l=>@List.casesOn T (λa=>qe<|qd×T) l [] λt l=>xU (p x t) ((x,t)::ih l)<|ih l) ps
def vP(g:qe (qd×T))(t:T):T:=@T.casesOn (λa=>T) t λh l=>@Hd.casesOn (λa=>T) h (λa=>t) (λx=>(eA g x).getD t) (λa=>t) (λa=>t) (λa=>t) t (λa a a=>t) t t λa=>t
noncomputable def uR(lb:qd)(s:qe (qd×T))(b:T):T:=@List.casesOn (qd×T) (λa=>T) s b λp s=>.A .h (.A (.a lb ((p::s).map (·.1)) (-1)) [b]::(p::s).map (·.2))
def jH(F:Fx)(x:qd)(t:T):qw:=@T.casesOn (λa=>qw) t λh a=>@Hd.casesOn (λa=>qw) h (λk=>!F.a x&&(k.f||F.b x==1)) (λy=>!F.a x&&!F.a y) (λa=>np) (λa=>np) (λa=>np) np (λa a a=>np) np np λa=>np
noncomputable def AA{α:Type}(t:T)(z:α)(f:qd->qe qd->qd->T->qe T->α):α:=@T.casesOn (λa=>α) t λh l=>@Hd.casesOn (λa=>α) h (λa=>z) (λa=>z) (λa=>z) (λa=>z) (λa=>z) z (λa a a=>z) (@List.casesOn T (λa=>α) l z λt l=>@T.casesOn (λa=>α) t λh k=>@Hd.casesOn (λa=>α) h (λa=>z) (λa=>z) (λa=>z) (λa=>z) (λa=>z) z (λlb ps rest=>@List.casesOn T (λa=>α) k z λb a=>f lb ps rest b l) z z λa=>z) z λa=>z
noncomputable def ip(lb:qd)(ps:qe qd)(rest:qd)(b:T)(l:qe T):T:=.A .h<|.A (.a lb ps rest) [b]::l
def cpL(F:Fx)(lb:qd)(ps:qe qd)(rest:qd)(b:T)(l:qe T):T:=xU (bx (jH F) ps l).isEmpty (ip lb ps rest b l)<|uR lb (bx (λx t=>!jH F x t) ps l) (pQ (vP<|bx (jH F) ps l) b)
def FE(F:Fx)(t:T):T:=xU (iW t) (AA t t<|cpL F) t
def Ao(μ:Mu)(k:K):Prop:=@K.casesOn (λb=>Prop) k (λb=>xT) (λb=>xT) xT xT λa=>∃fr xs l,μ a=dA ⟨fr,.f .N xs,l⟩
def Tx(μ:Mu):T->Prop:=fT (λh b s=>@Hd.casesOn (λb=>Prop) h (λk=>Ao μ k) (λb=>xT) (λb=>xT) (λb=>xT) (λb=>xT) xT (λb b b=>xT) xT xT (λb=>xT)/\s) xT λb b a s=>a/\s
section
variable{ad:qe U}{n:qc}{μ aB:Mu}{l:qe T}{ρ:UL}{F:Fx}{k:K}
theorem Ao.G(le:jj μ bS)(h:Ao μ k):Ao bS k:=by
 induction k with
 |y=>exact h.imp λa h=>h.imp λa h=>h.imp λa h=>le _ _ h
 |_=>exact oy
theorem Cz(tx:Ao μ k)(q:Q (.q k.f) μ):aJ ad (n+2) (.r ⟨193⟩) [k.u] Q X μ:=by
 refine aC (fn:=Bq) dq dq<|aC (fn:=vD) dq dq ?_;induction k with
 |y a=>exact tx.elim λb h=>h.elim λb h=>h.elim λb h=>⟨h,⟨h,⟨h,⟨h,⟨h,⟨h,.j<|.j q⟩⟩⟩⟩⟩⟩
 |_=>exact .j<|.j q
theorem uT(tx:Ao μ k)(q:Q (.q np) μ):aJ ad (n+1) (.r ⟨274⟩) [(T.A (.u k) []).u] Q X μ:=by
 refine aC (fn:=ot) dq dq ?_;induction k with
 |y a=>exact tx.elim λb h=>h.elim λb h=>h.elim λb h=>⟨h,.j q⟩
 |_=>exact .j q
theorem yw(q:Q (T.A (.u .e) []).u μ):aJ ad (n+1) (.r .ja) [] Q X μ:=aC (fn:=Bp) dq dq<|.j q
theorem Es(q:Q (T.A .h (.A (.a lb xs (-1)) [b]::ts)).u μ):aJ ad (n+1) (.r ⟨218⟩) [.j lb,.A .F (bK xs),.A .F (us ts),b.u] Q X μ:=aC (fn:=yR) dq dq<|.j q
theorem IN(fu:qe qd->qe T->ce)(h0:∀xs ts ρ μ,(∀p,bx p xs ts=[])->fu xs ts ρ μ->Q ρ μ)(h1:∀x xs t ts ρ μ,fu (x::xs) (t::ts) ρ μ->∀K:ce,(∀ρ μ,fu xs ts ρ μ->K ρ μ)->cy [.j x,t.u] K ρ μ)(xs:qe qd):∀ts ρ μ,fu xs ts ρ μ->kX cy (sE (bK xs) (us ts)) Q ρ μ:=by
 induction xs with
 |nil=>exactλts ρ μ h=>j3<|h0 [] ts ρ μ (λa=>dq) h
 |cons x xs ih=>
  intro ts ρ μ h;induction ts with
  |nil=>exact j3<|h0 (x::xs) [] ρ μ (λa=>dq) h
  |cons t ts=>exact gi (its:=sE (bK xs)<|us ts)<|h1 x xs t ts ρ μ h _ (ih ts)
theorem gu:bx p (x::xs) (t::ts)=xU (p x t) ((x,t)::bx p xs ts) (bx p xs ts):=dq
noncomputable def gk(g:qe (qd×T)):qe qd:=g.map (·.1)
noncomputable def gt(g:qe (qd×T)):qe T:=g.map (·.2)
inductive WoI(p:qd->T->qw)(all:qe (qd×T))(N:qc)(pa oa:qc)(aB:Mu)(lv gv bv:U)(xs:qe qd)(ts:qe T)(ρ:UL)(μ:Mu):Prop
 |mk{acc}(e:all=acc++bx p xs ts)(n:acc.length+xs.length<=N)(e1:ρ .J=dA (.d pa))(e2:ρ .U=dA (.d oa))(e3:ρ ⟨29⟩=dA lv)(e4:ρ .jr=dA gv)(e5:ρ .I=dA bv)(m1:μ pa=dA ⟨np,.F,bK<|gk acc⟩)(m2:μ oa=dA ⟨np,.F,us<|gt acc⟩)(le:jj aB μ):WoI p all N pa oa aB lv gv bv xs ts ρ μ
def A4(ks:qe qd)(vs:qe U)(x:qd)(_:T):qw:=!(Er ks vs x).isSome
theorem dU(l:qe qd):(bK l).length=l.length:=qI ..
theorem mf(a b:qe qd):bK (a++b)=bK a++bK b:=xj
theorem aaN(g:qe (qd×T)):(gk g).length=g.length:=qI ..
theorem OT(g:qe (qd×T)):(gt g).length=g.length:=qI ..
theorem wN(w:xs.length<eC)(q:Q (uR lb (bx (A4 ks vs) xs l) b).u μ):aJ ad (n+2) (.r ⟨277⟩) [(ip lb xs rest s l).u,.A (.d ks) vs,b.u] Q X μ:=by
 refine aC (fn:=mY) dq dq λg j i o=>?_;have c:i≠g:=λe=>rk ((e▸o:(μ.H g _) g=ft).symm.trans (aE _ _ _)).symm;have a:μ i=ft:=(ap _ _ c).symm.trans o;refine IN (WoI (A4 ks vs) (bx (A4 ks vs) xs l) xs.length g i μ (ip lb xs rest s l).u (.A (.d ks) vs) b.u) (λv h ρ bS z I=>I.rec λ{acc} e n e1 e2 e3 e4 e5 d f le=>?_) (λx v t h ρ bS I K r=>I.rec λ{acc} e n e1 e2 e3 e4 e5 d f le=>?_) xs l _ _<|.mk (acc:=[]) dq (qL<|vu _) dq dq dq dq dq ((ap _ _ c.symm).trans (aE _ _ _)) (aE _ _ _) ((jj.H _ j).B _ a)
 ·rw[z,qO]at e;rw[e]at q;refine ac e1<|bF d (b7 (b:=decide<|((bK<|gk acc).length:qd)>0) (λhb=>?_) λhb=>?_)
  ·refine ac e3<|ac e1 ⟨d,ac e2 ⟨(ap _ _ c).trans f,ac e5<|Es (.A (.I<|(le.B _ j).B _ a) ?_)⟩⟩;induction acc with
   |nil=>exact qH hb (by decide)
   |cons p acc=>exact q
  ·refine ac e5<|.A (.I le) ?_;induction acc with
   |nil=>exact q
   |cons p acc=>exact qH (zt.mpr<|zT _)<|xG hb
 ·rw[gu]at e;have k:acc.length+1+v.length<=xs.length:=by rw[qT,xa 1];exact n
  have m:acc.length+1<aH:=qi (qg (qj _ _) k)<|gY w;refine ac (ρ:=(ρ.H .j _).H .Z _) e4<|b7 (b:=A4 ks vs x t) (λhb=>?_) λhb=>?_
  ·rw[hb]at e;refine ac (ρ:=(ρ.H .j _).H .Z _) e1 (mA d (sR d (by rw[dU,aaN];exact m) ?_))
   refine ac (ρ:=(ρ.H .j _).H .Z _) e2<|mA ((ap _ _ c).trans f) (sR ((ap _ _ c).trans f) (by rw[fh,OT];exact m) ?_)
   refine r _ _<|.mk (acc:=acc++[(x,t)]) (by rw[e,qR];rfl) (by rw[qs];exact k) e1 e2 e3 e4 e5 ?_ ?_ ((le.B _ j).B _ a)
   ·refine(ap _ _ c.symm).trans ((aE _ _ _).trans ?_);unfold gk;rw[List.map_append,mf];rfl
   ·refine(aE _ _ _).trans ?_;unfold gt;rw[List.map_append,mz];rfl
  ·rw[hb]at e;exact r _ _ ⟨e,zs n,e1,e2,e3,e4,e5,d,f,le⟩
end
section
variable{ad:qe U}{n:qc}{Q:UQ}{X:Mu->Prop}{μ aB j4:Mu}{l:qe T}{ρ:UL}{F:Fx}{fv:U}{k:K}{go:qc}{w:T->U}{p:qd->T->qw}
theorem Rz{κ α:Type} [xt κ]{L:qe (κ×α)}{x:κ}{v:α}(h:∀q∈L,q.1≠x):jm L x v=L++[(x,v)]:=by
 unfold jm;rw[if_neg];intro z;obtain⟨q,a,e⟩:=List.any_eq_true.mp z;exact h q a<|qC e
def yN(w:T->U)(g:qe (qd×T)):Mc:=⟨np,.d<|gk g,(gt g).map w⟩
theorem EH(g:qe (qd×T)):(gk g).zip ((gt g).map w)=g.map λq=>(q.1,w q.2):=by
 induction g with
 |nil=>rfl
 |cons q g ih=>exact qh (_::·) ih
theorem OX{g:qe (qd×T)}{x:qd}{t:T}(h:x∉gk g):(⟨np,.d (uJ (gk g) ((gt g).map w) x (w t)).1,(uJ (gk g) ((gt g).map w) x (w t)).2⟩:Mc)=yN w (g++[(x,t)]):=by
 unfold uJ yN;rw[EH,Rz λq b e=>?_]
 ·unfold gk gt;rw[xj,xj,xj,xj,xj,xP,xP,xP];rfl
 ·obtain⟨q',a,c⟩:=xf.mp b;exact h<|xf.mpr ⟨q',a,by rw[←e,←c]⟩
theorem yM(g:qe (qd×T)):((gt g).map w).length=g.length:=by rw[qI,OT]
inductive GoI(p:qd->T->qw)(w:T->U)(go:qc)(j4:Mu)(I:UL->Prop)(N:qc)(all:qe (qd×T))(l:qe T)(xs:qe qd)(ts:qe T)(ρ:UL)(μ:Mu):Prop
 |mk{acc}(e:all=acc++bx p xs ts)(n:acc.length+xs.length<=N)(i:I ρ)(nd:xs.Nodup)(ds:∀x∈xs,x∉gk acc)(sub:∀t∈ts,t∈l)(m:μ go=dA (yN w acc))(fr:∀a,a≠go->μ a=j4 a):GoI p w go j4 I N all l xs ts ρ μ
theorem EI{cy:qe U->ce->ce}{Qn:ce}{I:UL->Prop}{xs:qe qd}(hb:∀x t K ρ μ ks vs,I ρ->t∈l->μ go=dA ⟨np,.d ks,vs⟩->vs.length+1<aH->(∀a,a≠go->μ a=j4 a)->(p x t=hY->K ((ρ.H .j (.j x)).H .Z t.u) (μ.H go ⟨np,.d (uJ ks vs x (w t)).1,(uJ ks vs x (w t)).2⟩))->(p x t=np->K ((ρ.H .j (.j x)).H .Z t.u) μ)->cy [.j x,t.u] K ρ μ)
  (hI:∀ρ x t,I ρ->I ((ρ.H .j x).H .Z t))(nd:xs.Nodup)(A:xs.length<eC)(i:I ρ)(m:j4 go=dA (yN w []))(q:∀ρ μ,I ρ->μ go=dA (yN w<|bx p xs l)->(∀a,a≠go->μ a=j4 a)->Qn ρ μ):kX cy (sE (bK xs)<|us l) Qn ρ j4:=
 IN (GoI p w go j4 I xs.length (bx p xs l) l) (λv f ρ μ z G=>G.rec λ{acc} e n i nd d sub m fr=>q ρ μ i (by rw[e,z,qO];exact m) fr)
  (λx v t f ρ μ G K r=>G.rec λ{acc} e n i nd d sub m fr=>by
   rw[gu]at e;have o:acc.length+1+v.length<=xs.length:=by rw[qT,xa 1];exact n
   have k:=xi.mp nd;refine hb x t K ρ μ _ _ i (sub t<|.head _) m (by rw[yM];exact qi (qg (qj _ _) o)<|gY A) fr (λj=>?_) λj=>?_
   ·rw[j]at e;rw[OX (d x (.head _))];refine r _ _ (.mk (acc:=acc++[(x,t)]) (by rw[e,qR];rfl) (by rw[qs];exact o) (hI _ _ _ i) k.2 (λy c z=>?_) (λs g=>sub s (.tail _ g)) (aE _ _ _) λa ha=>(ap _ _ ha).trans (fr a ha))
    unfold gk at z;rw[xj]at z;exact(qY.mp z).elim (d y<|.tail _ c) λz=>k.1<|(show y=x from qD.mp z)▸c
   ·rw[j]at e;exact r _ _ ⟨e,zs n,hI _ _ _ i,k.2,λy c=>d y (.tail _ c),λs g=>sub s (.tail _ g),m,fr⟩) xs l ρ j4 (.mk (acc:=[]) dq (qL (vu _)) i nd (λb b h=>qH h qX) (λb h=>h) m λb b=>dq)
theorem IJ(g:qe (qd×T))(x:qd):Er (gk g) ((gt g).map w) x=(eA g x).map w:=by
 unfold Er;rw[EH];induction g with
 |nil=>rfl
 |cons q g ih=>
  by_cases e:q.1=x
  ·exact(qh (q0 _)<|xA (p:=λp:qd×U=>decide<|p.1=x) (decide_eq_true e)).trans (qh (q0 w)<|qh (q0 _) (xA (p:=λp:qd×T=>decide<|p.1=x)<|decide_eq_true e)).symm
  ·exact(qh (q0 _)<|xv (p:=λp:qd×U=>decide<|p.1=x) λz=>e<|qC z).trans (ih.trans (qh (q0 w)<|qh (q0 _) (xv (p:=λp:qd×T=>decide<|p.1=x) λz=>e<|qC z)).symm)
theorem yF{q:qd×T}{g:qe (qd×T)}{x:qd}:(eA (q::g) x).isSome=(decide (q.1=x)||(eA g x).isSome):=by
 by_cases e:q.1=x
 ·rw[show eA (q::g) x=dA q.2 from qh (q0 _)<|xA (p:=λp:qd×T=>decide<|p.1=x) (decide_eq_true e),decide_eq_true e];rfl
 ·rw[show eA (q::g) x=eA g x from qh (q0 _)<|xv (p:=λp:qd×T=>decide<|p.1=x) λz=>e<|qC z,xN e];rfl
theorem OY{xs:qe qd}{x:qd}(h:x∉xs):∀ts,(eA (bx p xs ts) x).isSome=np:=by
 induction xs with
 |nil=>exactλa=>dq
 |cons y xs ih=>
  intro ts;induction ts with
  |nil=>rfl
  |cons t ts=>
   have k:=ih (λz=>h<|.tail _ z) ts;rw[gu];cases p y t with
   |false=>exact k
   |true=>exact yF.trans (by rw[show decide ((y,t).1=x)=np from xN λz=>h<|z▸.head _];exact k)
theorem KB{f:qd->T->qw}{xs:qe qd}(nd:xs.Nodup):∀ts,(∀x∈xs,∀t,f x t=!(eA (bx p xs ts) x).isSome)->bx f xs ts=bx (λx t=>!p x t) xs ts:=by
 have key:∀{xs:qe qd} {g:qd->qw},xs.Nodup->∀ts,(∀x∈xs,∀t,f x t=!g x)->(∀x∈xs,g x=(eA (bx p xs ts) x).isSome)->bx f xs ts=bx (λx t=>!p x t) xs ts:=λ{xs g}=>by
  induction xs with
  |nil=>exactλa a a a=>dq
  |cons x xs ih=>
   intro nd ts h1 h2;have nd:=xi.mp nd;induction ts with
   |nil=>rfl
   |cons t ts=>
    have h3:∀y∈xs,g y=(eA (bx p xs ts) y).isSome:=λy b=>(h2 y (.tail _ b)).trans (by
     rw[gu];cases p x t with
     |false=>rfl
     |true=>exact yF.trans (by rw[show decide ((x,t).1=y)=np from xN λz=>nd.1 ((show x=y from z).symm▸b)];rfl))
    have h4:g x=p x t:=(h2 x (.head _)).trans (by
     rw[gu];cases p x t with
     |false=>exact OY nd.1 ts
     |true=>exact yF.trans (by rw[show decide ((x,t).1=x)=hY from decide_eq_true dq];rfl))
    rw[gu,gu,ih nd.2 ts (λy b=>h1 y<|.tail _ b) h3,h1 x<|.head _,h4]
 exactλts h=>key (g:=λx=>(eA (bx p xs ts) x).isSome) nd ts h λa a=>dq
theorem Bg{xs:qe qd}(nd:xs.Nodup)(ts:qe T):bx (A4 (gk (bx p xs ts)) ((gt (bx p xs ts)).map w)) xs ts=bx (λx t=>!p x t) xs ts:=KB nd ts λx a t=>by
 unfold A4;rw[IJ,acR]
theorem Av{g:qe (qd×T)}{t:T}(b:oM t)(q:Q (vP g t).u μ):aJ ad (n+1) (.y .fG .eh) [.A (.f .fG [.kP]) [.A (.d (gk g)) ((gt g).map T.u)],t.u] Q X μ:=
 aC (fn:=jP) dq dq (T.p (P:=λt=>Q (vP g t).u μ->bZ ad (aJ ad n) jP.a (cD Wk Q) (λa=>X) (λa=>cD Wk Q .u) ((UL.H (λa=>ft) .g (.A (.f .fG [.kP]) [.A (.d (gk g)) ((gt g).map T.u)])).H .f t.u) μ)
  (λa q=>.j q) (λx q=>II (w:=((eA g x).getD (.A (.s x) [])).u) (by rw[IJ];cases eA g x<;>rfl) (.j q)) (λa q=>.j q) (λa a q=>.j q) (λa a q=>.j q) (λa a a q=>.j q) (λa a a a q=>.j q) (λa a q=>.j q) (λa a q=>.j q) (λa a q=>.j q) t b q)
abbrev E3(fv:U):U:=.A (.f .eJ [.A]) [fv]
theorem bo1{b:qw}(q:Q (.q b) μ):xU b (cD Wk Q (.q hY) μ) (cD Wk Q (.q np) μ):=by cases b<;>exact .j q
theorem Yz{i:qc}{K:qw->Prop}(q:K (i==1)):K (((i:qd)==1)):=by
 rwa [show((i:qd)==1)=(i==1)from ZN.mpr ⟨λh=>Zo h,λh=>qh aj6 h⟩]
theorem UH{x:qd}(h:F.a x=hY)(t:T):jH F x t=np:=by
 induction t using T.r with|h hd l=>
 induction hd with
 |u k=>show(!F.a x&&_)=np;rw[h];rfl
 |s y=>show(!F.a x&&_)=np;rw[h];rfl
 |_=>rfl
theorem K2{x:qd}{t:T}(f:iF F fv)(c:oM t)(tx:Tx μ t)(q:Q (.q (jH F x t)) μ):aJ ad (n+3) (.y .eJ ⟨157⟩) [E3 fv,.j x,t.u] Q X μ:=by
 refine aC (fn:=jR) dq dq<|Eo f (mV f<|b7 (b:=F.a x) (λh=>.j<|UH h t▸q) λh=>?_)
 exact T.p (P:=λt=>Tx μ t->Q (.q (jH F x t)) μ->bZ ad (aJ ad (n+2)) (bC jR.a) (cD Wk Q) (λa=>X) (λa=>cD Wk Q .u) (((UL.H (λa=>ft) .g (E3 fv)).H .j (.j x)).H .Z t.u) μ)
  (λk tx q=>uT tx.1 (Cz tx.1 (by
   have q:Q (.q<|!F.a x&&(k.f||F.b x==1)) μ:=q;rw[h]at q;refine b7 (b:=k.f) (λe=>.j (by rw[e]at q;exact q)) λe=>?_
   rw[e]at q;exact Ob f (rC f (bo1 (b:=((F.b x:qd)==1)) (Yz (K:=λb=>Q (.q b) μ) q))))))
  (λy a q=>Eo f (mV f (.j (by
   have q:Q (.q (!F.a x&&!F.a y)) μ:=q;rw[h]at q;exact q)))) (λa a q=>.j q) (λa a a q=>.j q) (λa a a q=>.j q) (λa a a a q=>.j q) (λa a a a a q=>.j q) (λa a a q=>.j q) (λa a a q=>.j q) (λa a a q=>.j q) t c tx q
end
def QQ(μ:Mu):qe T->Prop:=fL (λh b s=>@Hd.casesOn (λb=>Prop) h (λk=>Ao μ k) (λb=>xT) (λb=>xT) (λb=>xT) (λb=>xT) xT (λb b b=>xT) xT xT (λb=>xT)/\s) xT λb b a s=>a/\s
structure iE(μ:Mu)(B:qc)(t:T):Prop where
 s:oM t
 z:sz t<=B
 x:Tx μ t
structure Ft(μ:Mu)(B:qc)(l:qe T):Prop where
 s:oK l
 z:ku l<=B
 x:QQ μ l
section
variable{ad:qe U}{μ:Mu}{l:qe T}{t b:T}{g:T->T}{B:qc}{hd:Hd}
theorem Tx.G(le:jj μ bS)(t:T):Tx μ t->Tx bS t:=
 T.rec (motive_1:=λt=>Tx μ t->Tx bS t) (motive_2:=λl=>QQ μ l->QQ bS l) (λhd l ih h=>⟨by
  have k:=h.1;induction hd with
  |u k'=>exact Ao.G le k
  |_=>exact oy,ih h.2⟩) (λh=>h) (λt l a b h=>⟨a h.1,b h.2⟩) t
theorem X7(e:m.length=l.length)(s:shH h l):shH h m:=by
 have z:l=[]->m=[]:=λk=>wy<|e.trans (qh aad k);have a:l≠[]->m≠[]:=λk k'=>k<|wy (e.symm.trans<|qh aad k');induction h with
 |u=>exact z s
 |s=>exact z s
 |B=>exact z s
 |F=>exact e.trans s
 |G=>exact e.trans s
 |v=>exact e.trans s
 |a=>exact⟨e.trans s.1,s.2⟩
 |h=>exact a s
 |y=>exact a s
 |A=>exact oy
theorem iE.G(le:jj μ bS)(h:iE μ B t):iE bS B t:=⟨h.s,h.z,Tx.G le t h.x⟩
def Good(μ:Mu)(g:T->T):Prop:=∀t B,iE μ B t->iE μ B (g t)
theorem iE.d(h:iE μ B (.A hd l))(e:m.length=l.length)(k:Ft μ (ku l) m):iE μ B (.A hd m):=⟨⟨X7 e h.s.1,k.s⟩,qg (qN<|qn k.z _) h.z,h.x.1,k.x⟩
theorem iE.N(h:iE μ B t):iE μ (sz t) t:=⟨h.s,qm _,h.x⟩
theorem Ft.N(h:Ft μ B l):Ft μ (ku l) l:=⟨h.s,qm _,h.x⟩
theorem iE.c(h:iE μ B (.A hd l)):Ft μ B l:=⟨h.s.2,qg (xB<|iS _ _) h.z,h.x.2⟩
theorem Ft.d(h:Ft μ B (t::l)):iE μ B t:=⟨h.s.1,qg lU h.z,h.x.1⟩
theorem Ft.f(h:Ft μ B (t::l)):Ft μ B l:=⟨h.s.2,qg sH h.z,h.x.2⟩
theorem Ft.A(h:Ft μ B l):∀t∈l,iE μ B t:=by
 induction l with
 |nil=>exactλc z=>qH z qX
 |cons a l ih=>exactλt b=>(qG.mp b).elim (λe=>e▸h.d) (ih h.f t)
theorem iE.J(h:iE μ B t)(le:B<=a):iE μ a t:=⟨h.s,qg h.z le,h.x⟩
theorem nQ(c:Good μ g)(t:T):∀{B},iE μ B t->iE μ B (pQ g t):=
 T.rec (motive_1:=λt=>∀{B},iE μ B t->iE μ B (pQ g t)) (motive_2:=λl=>∀{B},Ft μ B l->Ft μ B (gM g l)) (λhd l ih B h=>c _ _ (h.d (wg g l) (ih h.c.N))) (λh=>h)
  (λt l a b B h=>⟨⟨(a h.d.N).s,(b h.f.N).s⟩,qg (qM (a h.d.N).z (b h.f.N).z) h.z,(a h.d.N).x,(b h.f.N).x⟩) t
theorem OU(a:Good μ g)(h:Ft μ B l):Ft μ B (gM g l):=by
 induction l generalizing B with
 |nil=>exact h
 |cons t l ih=>exact⟨⟨(nQ a t h.d.N).s,(ih h.f.N).s⟩,qg (qM (nQ a t h.d.N).z (ih h.f.N).z) h.z,(nQ a t h.d.N).x,(ih h.f.N).x⟩
theorem GK(c:Good μ g)(hB:B<eC):RbH g (iE μ B):=⟨λa h=>h.s,λa a h t b=>h.c.A t b,λa l h=>qi (qg (j1 l) h.c.z) hB,λt h=>(nQ c t h).s⟩
theorem uV(a:Good μ g)(h:iE μ B (.A hd l)):iE μ B (.A hd (gM g l)):=h.d (wg g l)<|OU a h.c.N
theorem afL(t:T):cn t<=sz t:=T.rec (motive_1:=λt=>cn t<=sz t) (motive_2:=λl=>cns l<=ku l) (λhd l ih=>qN<|qg ih (qr _ _)) (qm _) (λc c a b=>qM a b) t
theorem GY(h:iE μ B t)(hB:B<eC):2*cn t<aH:=qi (x0 2<|xB (qi (qg (afL t) h.z) hB)) (by decide)
theorem wm{P:T->Prop}(h:∀lb xs rest b l,kD (.A (.a lb xs rest) [b]::l)=hY->P (ip lb xs rest b l))(s:oM t):iW t=hY->P t:=
 have no:∀{b:qw} {A:Prop},b=np->b=hY->A:=λe k=>qH (e.symm.trans k) qB
 T.p (P:=λt=>oM t->iW t=hY->P t) (λa a=>no dq) (λa a=>no dq) (λa a=>no dq) (λa a a=>no dq) (λa a a=>no dq) (λa a a a=>no dq) (λa a a a a=>no dq) (λc l s e=>Gz (P:=λc=>P<|.A .h (c::l)) (λlb xs rest b e=>h lb xs rest b l e) s.2.1 e) (λa a a=>no dq) (λa a a=>no dq) t s s
theorem TU(p:qd->T->qw)(xs:qe qd):∀l,(gk (bx p xs l)).length+ku (gt (bx p xs l))<=xs.length+ku l/\(oK l->oK (gt (bx p xs l)))/\(QQ μ l->QQ μ (gt (bx p xs l))):=by
 induction xs with
 |nil=>exactλl=>⟨qP _,λa=>oy,λa=>oy⟩
 |cons x xs ih=>
  intro l;induction l with
  |nil=>exact⟨qP _,λa=>oy,λa=>oy⟩
  |cons t l=>
   rw[gu];have i:=ih l;cases p x t with
   |true=>exact⟨by
     show(gk (bx p xs l)).length+1+(sz t+ku (gt (bx p xs l)))<=xs.length+1+(sz t+ku l);have:=i.1;exact agC this,λs=>⟨s.1,i.2.1 s.2⟩,λs=>⟨s.1,i.2.2 s.2⟩⟩
   |false=>exact⟨qg i.1<|qM (xO _) sH,λs=>i.2.1 s.2,λs=>i.2.2 s.2⟩
theorem TV(p:qd->T->qw)(xs:qe qd):∀l,(gk (bx p xs l)).Sublist xs:=by
 induction xs with
 |nil=>exactλl=>.slnil
 |cons x xs ih=>
  intro l;induction l with
  |nil=>exact zi _
  |cons t l=>
   rw[gu];cases p x t with
   |true=>exact(ih l).cons₂ x
   |false=>exact(ih l).cons x
theorem Cy:sz (ip lb xs rest b l)=xs.length+sz b+ku l+2:=by
 show 0+((xs.length+(sz b+0)+1)+ku l)+1=_;exact agB
theorem Il(h:iE μ B (ip lb xs rest b l))(k:iE μ (sz b) b'):iE μ B (uR lb (bx p xs l) b'):=by
 have a:=h.z;rw[Cy]at a;have g:=TU (μ:=μ) p xs l;have nd:=(TV p xs l).nodup h.s.2.1.1.2;revert g nd;generalize bx p xs l=s;intro g nd;cases s with
 |nil=>exact k.J (by exact agA a)
 |cons q s=>exact⟨⟨xR _ _,⟨⟨dq,nd⟩,k.s,oy⟩,g.2.1 h.s.2.2⟩,by
   show sz (ip lb (gk (q::s)) (-1) b' (gt (q::s)))<=B;rw[Cy];exact agz a g.1 k.z,oy,⟨oy,k.x,oy⟩,g.2.2 h.x.2.2⟩
end
section
variable{ad:qe U}{n:qc}{Q:UQ}{X:Mu->Prop}{μ j4:Mu}{l m:qe T}{ρ:UL}{F:Fx}{fv:U}{t b:T}{g:T->T}{B:qc}{hd:Hd}
def WY(μ:Mu)(s:qe (qd×T)):Prop:=∀x t,eA s x=dA t->iE μ 1 t
theorem yL(h:WY μ s):Good μ (vP s):=λt B k=>by
 induction t using T.r with|h hd l=>
 induction hd with
 |s x=>
  show iE μ B ((eA s x).getD _);cases e:eA s x with
  |none=>exact k
  |some t=>exact(h x t e).J (qg (uA<|.A (.s x) l) k.z)
 |_=>exact k
theorem yO:∀{l},Ft μ B l->WY μ (bx (jH F) xs l):=by
 induction xs with
 |nil=>exactλa x t e=>nomatch e
 |cons x xs ih=>
  intro l h;induction l with
  |nil=>exactλx t e=>nomatch e
  |cons t l=>
   rw[gu];have i:=ih h.f;cases hc:jH F x t with
   |false=>exact i
   |true=>
    intro y t' e;have e:eA ((x,t)::bx (jH F) xs l) y=dA t':=e;by_cases q:x=y
    ·rw[show eA ((x,t)::_) y=dA t from qh (q0 _)<|xA (p:=λp:qd×T=>decide<|p.1=y) (decide_eq_true q)]at e;cases e;have no:∀{b:qw} {A:Prop},b=np->b=hY->A:=λe k=>qH (e.symm.trans k) qB;exact T.p (P:=λt=>jH F x t=hY->iE μ B t->iE μ 1 t) (λa a k=>⟨k.s,qm _,k.x⟩) (λa a k=>⟨k.s,qm _,k.x⟩) (λa=>no dq) (λa a=>no dq) (λa a=>no dq) (λa a a=>no dq) (λa a a a=>no dq) (λa a=>no dq) (λa a=>no dq) (λa a=>no dq) t h.d.s hc h.d
    ·rw[show eA ((x,t)::bx (jH F) xs l) y=eA (bx (jH F) xs l) y from qh (q0 _)<|xv (p:=λp:qd×T=>decide<|p.1=y) λz=>q<|qC z]at e;exact i y t' e
theorem OW(h:iE μ B (ip lb xs rest b l)):iE μ B (cpL F lb xs rest b l):=by
 show iE μ B (xU (bx (jH F) xs l).isEmpty (ip lb xs rest b l) _);cases(bx (jH F) xs l).isEmpty with
 |true=>exact h
 |false=>exact Il h<|nQ (yL<|yO h.c.f) b h.c.d.c.d.N
theorem CD:Good μ (FE F):=λt B h=>by
 show iE μ B (xU (iW t) (AA t t<|cpL F) t);cases e:iW t with
 |false=>exact h
 |true=>exact wm (P:=λt=>iE μ B t->iE μ B (AA t t<|cpL F)) (λa a a a a a h=>OW h) h.s e h
theorem NU{b:qw}(h:(!b)=hY):b=np:=xc _▸h
theorem Gq{b:qw}(h:(!b)=np):b=hY:=ZZ _▸h
theorem Ip(h:iE μ B (ip lb xs rest b l)):xs.length<=B:=by
 have:=h.z;rw[Cy]at this;exact qg (qg (qj _<|sz b)<|qg (qj _<|ku l) (qj _ 2)) this
theorem Og{p:qd->T->qw}{xs:qe qd}{K:qw->Prop}{ks:qe U}(e:ks.length=(bx p xs l).length)(q:K (bx p xs l).isEmpty):K ((ks.length:qd)==0):=by
 rw[e];have k:∀g:qe (qd×T),K g.isEmpty->K ((g.length:qd)==0):=λg=>by cases g<;>exact id
 exact k _ q
theorem CX(f:iF F fv)(hB:B<eC)(h:iE μ B t)(q:Q (FE F t).u μ):aJ ad (n+4) (.y .eJ .eh) [E3 fv,t.u] Q X μ:=by
 refine aC (fn:=jQ) dq dq<|jb h.s (b7 (b:=!iW t) (λe=>.j ?_) λe=>?_)
 ·rw[show FE F t=t by show xU (iW t) _ t=t;rw[NU e];rfl]at q;exact q
 ·rw[show FE F t=AA t t (cpL F)by show xU (iW t) _ t=_;rw[Gq e];rfl]at q
  have A:=h.s;revert h q;refine wm (P:=λt=>iE μ B t->Q (AA t t<|cpL F).u μ->bZ ad (aJ ad<|n+3) (bC jQ.a) (cD Wk Q) (λd=>X) (λd=>cD Wk Q .u) (((UL.H (λd=>ft) .g<|E3 fv).H .f t.u)) μ) (λlb xs rest b l d h q go j=>?_) A<|Gq e;have o:xs.length<eC:=qi (Ip h) hB;refine EI (p:=jH F) (w:=T.u) (l:=l) (j4:=μ.H go<|yN T.u []) (I:=λρ=>ρ .g=dA (E3 fv)/\ρ .f=dA (ip lb xs rest b l).u/\ρ .jr=dA (.d go)) (λx t K ρ bS ks vs i r m v fr k1 k2=>?_) (λd d d i=>i) h.s.2.1.1.2 o ⟨dq,dq,dq⟩ (aE _ _ _) λρ bS i m fr=>?_
  ·have le:jj μ bS:=λa c z=>(fr a<|bz z j).trans ((ap _ _<|bz z j).trans z);refine ac (ρ:=(ρ.H .j _).H .Z _) i.1<|K2 f (h.c.f.A t r).s (Tx.G le t (h.c.f.A t r).x) (b7 (b:=jH F x t) (λe=>?_) λe=>k2 e);exact ac (ρ:=(ρ.H .j _).H .Z _) i.2.2 ⟨m,v,k1 e⟩
  ·have le:jj μ bS:=λa c z=>(fr a<|bz z j).trans ((ap _ _<|bz z j).trans z);have q:Q (xU (bx (jH F) xs l).isEmpty (ip lb xs rest b l)<|uR lb (bx (λx t=>!jH F x t) xs l) (pQ (vP<|bx (jH F) xs l) b)).u μ:=q;refine ac i.2.2<|bF m (Og (p:=jH F) (xs:=xs) (l:=l) (K:=λb=>xU b _ _) (yM _)<|b7 (b:=(bx (jH F) xs l).isEmpty) (λe=>?_) λe=>?_)
   ·rw[e]at q;exact ac i.2.1<|.A (.I le) q
   ·rw[e]at q;have y:jj μ (bS.H go ⟨hY,.d<|gk (bx (jH F) xs l),(gt<|bx (jH F) xs l).map T.u⟩):=le.B _ j;refine ac i.2.1<|ac i.2.2 (bF m<|ac i.2.1 (ac i.2.2<|bF (aE _ _ _) ?_));have hb:iE μ B b:=h.c.d.c.d;refine rQ (g:=vP<|bx (jH F) xs l) (GK (μ:=μ) (B:=B) (yL<|yO h.c.f) hB) (λhd k C Q X D d q=>Av (uV (yL<|yO h.c.f) C).s q) hb (GY hb hB) ?_;refine wN o<|.A (.I<|y.B _ j) ?_;rw[Bg h.s.2.1.1.2];exact q
end
def oA(F:Fx)(x:qd)(t:T):qw:=bq F x&&(!F.a x&&ck F t)
noncomputable abbrev Xy:T:=.A (.u .e) []
def GS(F:Fx)(x:qd)(e:T):T:=xU (bq F x) (xU (ck F e) Xy<|xU (cH e) (.A .y [e,Xy]) (.A (.F x) [e]))<|.A (.F x) [e]
def nW(F:Fx)(lb:qd)(ps:qe qd)(rest:qd)(b:T)(l:qe T):T:=@List.casesOn T (λa=>T) l (ip lb ps rest b l) λe c=>@List.casesOn T (λa=>T) c (xU (bq F (ps.headD 0)&&(!F.a (ps.headD 0)&&cH e)) (.A .y [e,b])<|ip lb ps rest b l) λa a=>ip lb ps rest b l
def drL(F:Fx)(lb:qd)(ps:qe qd)(rest:qd)(b:T)(l:qe T):T:=xU (bx (oA F) ps l).isEmpty (nW F lb ps rest b l)<|uR lb (bx (λx t=>!oA F x t) ps l) b
def drS(F:Fx)(t:T)(z:T):T:=@T.casesOn (λa=>T) t λh l=>@Hd.casesOn (λa=>T) h (λa=>z) (λa=>z) (λa=>z) (λx=>@List.casesOn T (λa=>T) l z λe a=>GS F x e) (λa=>z) z (λa a a=>z) z z λa=>z
def FC(F:Fx)(t:T):T:=drS F t<|xU (iW t) (AA t t<|drL F) t
abbrev vF(fv:U):U:=.A (.f .b9 [.A]) [fv]
section
variable{ad:qe U}{n:qc}{Q:UQ}{X:Mu->Prop}{μ j4:Mu}{l m:qe T}{ρ:UL}{F:Fx}{fv:U}{t b:T}{g:T->T}{B:qc}{hd:Hd}{x:qd}
theorem GI(h:iE μ B (.A (.F x) [e])):iE μ B (GS F x e):=by
 show iE μ B (xU (bq F x) (xU (ck F e) Xy<|xU (cH e) (.A .y [e,Xy]) (.A (.F x) [e]))<|.A (.F x) [e]);have cM:1<=B:=qg (uA _) h.z;cases bq F x with
 |false=>exact h
 |true=>
  cases ck F e with
  |true=>exact⟨⟨dq,oy⟩,cM,oy,oy⟩
  |false=>
   cases cH e with
   |false=>exact h
   |true=>exact⟨⟨xR _ _,h.s.2.1,⟨dq,oy⟩,oy⟩,qg (show 0+(sz e+(1+0))+1<=1+(sz e+0)+1 by rw[vu,xa<|sz e];exact qm _) h.z,oy,h.x.2.1,⟨oy,oy⟩,oy⟩
theorem GJ(h:iE μ B (ip lb xs rest b l)):iE μ B (nW F lb xs rest b l):=by
 cases l with
 |nil=>exact h
 |cons e l=>
  cases l with
  |cons=>exact h
  |nil=>
   show iE μ B (xU _ (.A .y [e,b])<|ip lb xs rest b [e]);cases bq F (xs.headD 0)&&(!F.a (xs.headD 0)&&cH e)with
   |false=>exact h
   |true=>exact⟨⟨xR _ _,h.s.2.2.1,h.s.2.1.2.1,oy⟩,qg (by
     rw[Cy];show 0+(sz e+(sz b+0))+1<=xs.length+sz b+(sz e+0)+2;exact agy) h.z,oy,h.x.2.2.1,h.x.2.1.2.1,oy⟩
theorem OV(h:iE μ B (ip lb xs rest b l)):iE μ B (drL F lb xs rest b l):=by
 show iE μ B (xU (bx (oA F) xs l).isEmpty (nW F lb xs rest b l) _);cases(bx (oA F) xs l).isEmpty with
 |true=>exact GJ h
 |false=>exact Il h h.c.d.c.d.N
theorem CC:Good μ (FC F):=λt B h=>
 have k:iE μ B (xU (iW t) (AA t t (drL F)) t):=by
  cases e:iW t with
  |false=>exact h
  |true=>exact wm (P:=λt=>iE μ B t->iE μ B (AA t t<|drL F)) (λa a a a a a h=>OV h) h.s e h
 T.p (P:=λt=>iE μ B t->∀z,iE μ B z->iE μ B (drS F t z)) (λa a a k=>k) (λa a a k=>k) (λa a a k=>k) (λa a h a a=>GI h) (λa a a a k=>k) (λa a a a a k=>k) (λa a a a a a k=>k) (λa a a a k=>k) (λa a a a k=>k) (λa a a a k=>k) t h.s h _ k
theorem nN(f:iF F fv)(q:Q (.q (bq F x)) μ):aJ ad (n+2) (.y .b9 ⟨242⟩) [vF fv,.j x] Q X μ:=
 aC (fn:=j8) dq dq (Ob f<|rC f (.j (show Q (.q<|(F.b x:qd)==0) μ by rw[show((F.b x:qd)==0)=bq F x from ZN.mpr ⟨λh=>Zo h,λh=>qh aj6 h⟩];exact q)))
theorem Kd{p:qd->T->qw}{xs:qe qd}{K:qw->Prop}{ks:qe U}(e:ks.length=(bx p xs l).length)(q:K (!(bx p xs l).isEmpty)):K (decide ((ks.length:qd)>0)):=by
 rw[e]
 have k:∀g:qe (qd×T),K (!g.isEmpty)->K (decide ((g.length:qd)>0)):=λg=>by
  cases g with
  |nil=>exact id
  |cons _ g=>rw[show decide (((_::g).length:qd)>0)=hY from decide_eq_true<|zt.mpr (zT _)];exact id
 exact k _ q
theorem abk{R:UQ}(hC:C=d3 (n+2))(f:iF F fv)(hB:B<eC)(h:iE μ B (ip lb xs rest b l))(hl:kD (.A (.a lb xs rest) [b]::l)=hY)(i1:ρ .g=dA (vF fv))(i2:ρ .f=dA (ip lb xs rest b l).u)(q:R (nW F lb xs rest b l).u μ):
  bZ rE C (bC<|bC (bC eH.a)) R Xs P ρ μ:=by
 cases l with
 |nil=>exact ac i2<|ac i2 q
 |cons e l=>
  cases l with
  |cons=>exact ac i2<|ac i2 q
  |nil=>
   subst hC;have e1:xs.length=1:=Zo<|eq_of_beq (q8.mp hl).2;revert h i2 q;refine kz (P:=λxs=>iE μ B (ip lb xs rest b [e])->ρ .f=dA (ip lb xs rest b [e]).u->R (nW F lb xs rest b [e]).u μ->bZ rE (d3<|n+2) (bC<|bC (bC eH.a)) R Xs P ρ μ) (λx h i2 q=>?_) e1;have q:R (xU (bq F x&&(!F.a x&&cH e)) (.A .y [e,b])<|ip lb [x] rest b [e]).u μ:=q;have no:(bq F x&&(!F.a x&&cH e))=np->R (ip lb [x] rest b [e]).u μ:=λz=>by rw[z]at q;exact q
   refine ac i2<|ac i2 (ac (ρ:=ρ.H .j _) i1<|nN f (b7 (b:=bq F x) (λe1=>?_) λe1=>ac (ρ:=ρ.H .j _) i2<|no (by rw[e1];rfl)))
   refine ac (ρ:=ρ.H .j _) i1<|Eo f (mV f<|b7 (b:=!F.a x) (λe2=>?_) λe2=>ac (ρ:=ρ.H .j _) i2<|no (by rw[e1,e2];rfl))
   refine ac (ρ:=ρ.H .j _) i2<|tM h.s.2.2.1 (qi h.c.f.d.z hB) (b7 (b:=cH e) (λe3=>?_) λe3=>ac (ρ:=ρ.H .j _) i2<|no (by rw[e1,e2,e3];rfl))
   rw[e1,e2,e3]at q;exact ac (ρ:=ρ.H .j _) i2<|ac (ρ:=ρ.H .j _) i2 q
theorem yV{lb rest:qd}{xs:qe qd}(f:iF F fv)(hB:B<eC)(h:iE μ B (ip lb xs rest b l))(hl:kD (.A (.a lb xs rest) [b]::l)=hY)(q:Q (drL F lb xs rest b l).u μ):d3 (n+3) (.y .b9 ⟨263⟩) [vF fv,(ip lb xs rest b l).u] Q X μ:=by
 refine aC (fn:=eH) dq dq λgo g=>?_;have j:xs.length<eC:=qi (Ip h) hB;refine EI (p:=oA F) (w:=λd=>.q hY) (l:=l) (j4:=μ.H go<|yN (λd=>.q hY) []) (I:=λρ=>ρ .g=dA (vF fv)/\ρ .f=dA (ip lb xs rest b l).u/\ρ .jr=dA (.d go)) (λx t K ρ bS ks vs i k m o fr k1 k2=>?_) (λd d d i=>i) h.s.2.1.1.2 j ⟨dq,dq,dq⟩ (aE _ _ _) λρ bS i m fr=>?_
 ·refine ac (ρ:=(ρ.H .j _).H .Z _) i.1 ?_;refine nN f (b7 (b:=bq F x) (λe=>?_) λe=>k2 (by show(bq F x&&_)=np;rw[e];rfl))
  refine ac (ρ:=(ρ.H .j _).H .Z _) i.1<|Eo f (mV f<|b7 (b:=!F.a x) (λe2=>?_) λe2=>k2 (by show(bq F x&&(!F.a x&&_))=np;rw[e,e2];rfl))
  refine ac (ρ:=(ρ.H .j _).H .Z _) i.1<|vB f (h.c.f.A t k).s (qi (h.c.f.A t k).z hB) (b7 (b:=ck F t) (λe3=>?_) λe3=>k2 (by show(bq F x&&(!F.a x&&ck F t))=np;rw[e,e2,e3];rfl))
  exact ac (ρ:=(ρ.H .j _).H .Z _) i.2.2 ⟨m,o,k1 (by show(bq F x&&(!F.a x&&ck F t))=hY;rw[e,e2,e3];rfl)⟩
 ·have le:jj μ bS:=λa c z=>(fr a<|bz z g).trans ((ap _ _<|bz z g).trans z);have q:Q (xU (bx (oA F) xs l).isEmpty (nW F lb xs rest b l)<|uR lb (bx (λx t=>!oA F x t) xs l) b).u μ:=q;refine ac i.2.2<|bF m (Kd (p:=oA F) (xs:=xs) (l:=l) (K:=λb=>xU b _ _) (yM _)<|b7 (b:=!(bx (oA F) xs l).isEmpty) (λe=>?_) λe=>?_)
  ·rw[NU e]at q;refine ac i.2.1<|ac i.2.2 (bF m<|ac i.2.1 (wN j<|.A (.I<|le.B _ g) ?_));rw[Bg h.s.2.1.1.2];exact q
  ·rw[Gq e]at q;exact abk dq f hB (iE.G le h) hl i.1 i.2.1<|.A (.I le) q
theorem CV(f:iF F fv)(hB:B<eC)(h:iE μ B t)(q:Q (FC F t).u μ):d3 (n+4) (.y .b9 .eh) [vF fv,t.u] Q X μ:=by
 have c:∀t,iE μ B t->Q (xU (iW t) (AA t t (drL F)) t).u μ->(d3 (n+3)) (.r .gV) [t.u] (Jj (λμ=>d3 (n+3) (.y .b9 ⟨263⟩) [vF fv,t.u] (cD Wk Q) X μ) λμ=>cD Wk Q t.u μ) X μ:=λt h q=>
  jb h.s (b7 (b:=iW t) (λe=>by
   rw[e]at q;exact wm (P:=λt=>iE μ B t->Q (AA t t (drL F)).u μ->d3 (n+3) (.y .b9 ⟨263⟩) [vF fv,t.u] (cD Wk Q) X μ) (λlb xs rest b l hl h q=>yV f hB h hl (.j q)) h.s e h q) λe=>.j (by rw[e]at q;exact q))
 refine T.p (P:=λt=>iE μ B t->Q (FC F t).u μ->d3 (n+4) (.y .b9 .eh) [vF fv,t.u] Q X μ) (λa h q=>aC (fn:=bP) dq dq (c _ h q)) (λa h q=>aC (fn:=bP) dq dq (c _ h q)) (λa h q=>aC (fn:=bP) dq dq (c _ h q)) (λx e h q=>?_) (λa a h q=>aC (fn:=bP) dq dq (c _ h q))
  (λa a a h q=>aC (fn:=bP) dq dq<|c _ h q) (λa a a a h q=>aC (fn:=bP) dq dq<|c _ h q) (λa a h q=>aC (fn:=bP) dq dq<|c _ h q) (λa a h q=>aC (fn:=bP) dq dq<|c _ h q) (λa a h q=>aC (fn:=bP) dq dq<|c _ h q) t h.s h q
 have q:Q (xU (bq F x) (xU (ck F e) Xy<|xU (cH e) (.A .y [e,Xy]) (.A (.F x) [e]))<|.A (.F x) [e]).u μ:=q;refine aC (fn:=bP) dq dq<|nN f (b7 (b:=bq F x) (λe1=>?_) λe1=>jb h.s<|.j (by rw[e1]at q;exact q))
 rw[e1]at q;refine vB f h.c.d.s (qi h.c.d.z hB)<|b7 (b:=ck F e) (λe2=>yw<|.j (by rw[e2]at q;exact q)) λe2=>?_
 rw[e2]at q;refine tM h.c.d.s (qi h.c.d.z hB)<|b7 (b:=cH e) (λe3=>yw<|.j (by rw[e3]at q;exact q)) λe3=>.j (by rw[e3]at q;exact q)
end
abbrev iP:=qe<|qd×U
noncomputable def dM(d:iP):Mc:=⟨np,.d (d.map (·.1)),d.map (·.2)⟩
def rB(d:iP)(f:qd->qc):Prop:=∀x,(eA d x).getD (.j 0)=.j (f x)
abbrev u8:=qe<|qd×qe qd
noncomputable def nh(D:Nm->iP)(y:Nm)(d:iP):Nm->iP:=λz=>if z=y then d else D z
structure FS(fa:qc)(A:Nm->qc)(D:Nm->iP)(B:qc)(cr cs:qd->qc)(aB μ:Mu):Prop where
 p:μ fa=dA ⟨np,.f .O iw,iw.map λx=>.d<|A x⟩
 E:∀x,x∈iw->μ (A x)=dA (dM<|D x)
 inj:∀x,x∈iw->∀y,y∈iw->A x=A y->x=y
 F:∀l v,eA (D .y) l=dA v->∃i d,v=.d i/\μ i=dA (dM d)/\d.length<=B/\aB i=ft/\∀x,x∈iw->A x≠i
 u:∀x,x∈iw->(D x).length<=B
 r:rB (D .F) cr
 w:rB (D .G) cs
 o:∀x,x∈[Nm.dy,.bc,.bp]->∃c,rB (D x) c
 m:∀x,x∈iw->aB (A x)=ft
 t:aB fa=ft
 I:jj aB μ
section
variable{ad:qe U}{μ aB:Mu}{a fa:qc}{A:Nm->qc}{D:Nm->iP}{B:qc}{cr cs:qd->qc}{d:iP}{x y:qd}{v:U}{f:qd->qc}
theorem gO(D:Nm->iP)(y:Nm)(d:iP):nh D y d y=d:=qK dq
theorem d4(D:Nm->iP){y z:Nm}(d:iP)(h:z≠y):nh D y d z=D z:=if_neg h
theorem lkD:Er (d.map (·.1)) (d.map (·.2)) x=eA d x:=by unfold Er;rw[BO]
theorem Ci(e:μ a=some (dM d))(n:d.length+1<aH)(q:Q (μ.H a (dM (jm d k v)))):Ch (.d a) (.j k) v Q μ:=⟨e,by rw[List.length_map];exact n,by unfold uJ;rw[BO];exact q⟩
theorem vz{p:qd×U}{L:iP}(e:p.1=x):eA (p::L) x=dA p.2:=qh (q0 _)<|xA (p:=λp:qd×U=>decide<|p.1=x) (decide_eq_true e)
theorem tz{p:qd×U}{L:iP}(e:¬p.1=x):eA (p::L) x=eA L x:=qh (q0 _)<|xv (p:=λp:qd×U=>decide<|p.1=x) λz=>e<|qC z
theorem aab{L M:iP}:eA (L++M) x=(eA L x).or (eA M x):=by
 induction L with
 |nil=>rfl
 |cons p L ih=>
  by_cases e:p.1=x
  ·rw[ajW,vz e,vz e];rfl
  ·rw[ajW,tz e,tz e,ih]
theorem Te{L:iP}(h:(L.any λp=>decide (p.1=x))=np):eA L x=ft:=by
 induction L with
 |nil=>rfl
 |cons p L ih=>
  have h:(decide (p.1=x)||L.any λp=>decide<|p.1=x)=np:=h;rw[tz (xG (air.mp h).1)];exact ih (air.mp h).2
theorem aaa:eA (L.map λp=>if p.1=k then(p.1,v)else p) x=if k=x then(eA L x).map λa=>v else eA L x:=by
 induction L with
 |nil=>exact(ite_self _).symm
 |cons p L ih=>
  show eA ((if p.1=k then(p.1,v)else p)::_) x=_
  by_cases e:p.1=k
  ·rw[qK e];by_cases e2:k=x
   ·rw[vz (p:=(p.1,v)) (e.trans e2),qK e2,vz<|e.trans e2];rfl
   ·rw[tz (p:=(p.1,v)) (λz=>e2<|e.symm.trans z),if_neg e2,tz λz=>e2<|e.symm.trans z,ih,if_neg e2]
  ·rw[if_neg e];by_cases e2:p.1=x
   ·rw[vz e2,if_neg λz=>e<|e2.trans z.symm,vz e2]
   ·rw[tz e2,ih,tz e2]
theorem vt:eA (jm d k v) x=if k=x then dA v else eA d x:=by
 unfold jm;cases h:d.any λp=>decide (p.1=k)with
 |true=>
  rw[qK dq,aaa];by_cases e:k=x
  ·rw[qK e,qK e,←e];cases z:eA d k with
   |some=>rfl
   |none=>
    have:∀L:iP,eA L k=ft->(L.any λp=>decide (p.1=k))=np:=λL=>by
     induction L with
     |nil=>exactλa=>dq
     |cons p L ih=>
      intro h;by_cases e:p.1=k
      ·rw[vz e]at h;cases h
      ·rw[tz e]at h;show(decide (p.1=k)||_)=np;rw[xN e,ih h];rfl
    rw[this d z]at h;cases h
  ·rw[if_neg e,if_neg e]
 |false=>
  rw[if_neg qB,aab];by_cases e:k=x
  ·rw[qK e,vz (p:=(k,v)) e,←e,Te h];rfl
  ·rw[if_neg e,tz (p:=(k,v)) e];cases eA d x<;>rfl
theorem rB.g(c:rB d f)(k:qd):rB (jm d k (.j (f k+1:qc))) λx=>f x+if k=x then 1 else 0:=λx=>by
 show _=U.j ((f x+if k=x then 1 else 0:qc):qd)
 rw[vt];by_cases e:k=x
 ·rw[qK e,qK e,e];rfl
 ·rw[if_neg e,if_neg e];exact c x
theorem pA(e:μ a=dA (dM d))(c:rB d f)(b:d.length+1<aH)(q:Q .u (μ.H a (dM (jm d k (.j (f k+1:qc)))))):aJ ad (n+1) (.r .fk) [.d a,.j k] Q X μ:=
 aC (fn:=yS) dq dq ⟨e,⟨e,II (w:=.j<|f k) (by rw[lkD];exact c k)<|Ci e b (.j q)⟩⟩
theorem Bz(e:μ a=dA (dM d))(c:μ b=dA ⟨fr,h,L⟩)(ne:∀ks,h≠.d ks):a≠b:=λz=>by
 rw[z]at e;exact ne _<|qh Mc.h (qA<|c.symm.trans e)
theorem FS.K(N:FS fa A D B cr cs aB μ)(e:μ a=dA (dM d))(d':iP):(μ.H a (dM d')) fa=dA ⟨np,.f .O iw,iw.map λx=>.d (A x)⟩:=(ap _ _ (Bz e N.p λb z=>nomatch z).symm).trans N.p
theorem FS.H{z:Nm}{f b:qd->qc}(N:FS fa A D B cr cs aB μ)(g:z∈iw)(j:z≠.y)(hd:d.length<=B+1)(h1:rB (nh D z d .F) f)(h2:rB (nh D z d .G) b)(h3:z∈[Nm.dy,.bc,.bp]->∃c,rB d c):FS fa A (nh D z d) (B+1) f b aB (μ.H (A z) (dM d)):=
 ⟨N.K (N.E z g) d,λx a=>by
  by_cases e:x=z
  ·rw[e,aE,gO]
  ·rw[ap _ _ λq=>e<|N.inj x a z g q,d4 _ _ e];exact N.E x a,N.inj,λl v e=>by
  rw[d4 _ _ λq=>j q.symm]at e;exact(N.F l v e).imp λi h=>h.imp λd h=>⟨h.1,(ap _ _ λq=>h.2.2.2.2 z g q.symm).trans h.2.1,xl h.2.2.1,h.2.2.2⟩,λx a=>by
  by_cases e:x=z
  ·rw[e,gO];exact hd
  ·rw[d4 _ _ e];exact xl<|N.u x a,h1,h2,λx a=>by
  by_cases e:x=z
  ·rw[e,gO];exact h3<|e▸a
  ·rw[d4 _ _ e];exact N.o x a,N.m,N.t,N.I.B _ (N.m z g)⟩
theorem FS.C{z:Nm}(N:FS fa A D B cr cs aB μ)(b:z∈iw)(a:z≠.y)(n1:Nm.F≠z)(n2:Nm.G≠z)(hd:d.length<=B+1)(h3:z∈[Nm.dy,.bc,.bp]->∃c,rB d c):FS fa A (nh D z d) (B+1) cr cs aB (μ.H (A z) (dM d)):=
 N.H b a hd (by rw[d4 _ _ n1];exact N.r) (by rw[d4 _ _ n2];exact N.w) h3
theorem FS.J(N:FS fa A D B cr cs aB μ)(h:B<=a):FS fa A D a cr cs aB μ:=⟨N.p,N.E,N.inj,λl v e=>(N.F l v e).imp λi h'=>h'.imp λd h'=>⟨h'.1,h'.2.1,qg h'.2.2.1 h,h'.2.2.2⟩,λx b=>qg (N.u x b) h,N.r,N.w,N.o,N.m,N.t,N.I⟩
theorem FS.S{b a:qd->qc}(N:FS fa A D B cr cs aB μ)(h:∀x,cr x=b x)(k:∀x,cs x=a x):FS fa A D B b a aB μ:=funext h▸funext k▸N
theorem FS.M{w:qc}{c:Mc}(N:FS fa A D B cr cs aB μ)(h0:aB w=ft)(f:fa≠w)(hd:∀a d,μ a=dA (dM d)->a≠w):FS fa A D B cr cs aB (μ.H w c):=
 ⟨(ap _ _ f).trans N.p,λx b=>(ap _ _<|hd _ _ (N.E x b)).trans (N.E x b),N.inj,λl v e=>(N.F l v e).imp λi h=>h.imp λd h=>⟨h.1,(ap _ _<|hd _ _ h.2.1).trans h.2.1,h.2.2⟩,N.u,N.r,N.w,N.o,N.m,N.t,N.I.B _ h0⟩
theorem FS.G{w:qc}{c:Mc}(N:FS fa A D B cr cs aB μ)(h:μ w=ft):FS fa A D B cr cs aB (μ.H w c):=N.M (N.I.u h) (bz N.p h) λa a e=>bz e h
theorem FS.O{w:qc}{L b:qe U}{fr:qw}(N:FS fa A D B cr cs aB μ)(h0:aB w=ft)(e:μ w=dA ⟨fr,.F,L⟩):FS fa A D B cr cs aB (μ.H w ⟨np,.F,b⟩):=
 N.M h0 (λz=>by have:=N.p;rw[z,e]at this;cases this) λa d h=>Bz h e λc z=>nomatch z
end
def ut(D:Nm->iP)(env:u8):qd->Prop:=@List.rec (qd×qe qd) (λb=>qd->Prop) (λd6=>d6=-1) (λfr b ih d6=>d6=fr.1/\(eA (D .y) fr.1).isSome=hY/\(∀x∈fr.2,eA (D .S) x=dA (.j fr.1))/\∃a,eA (D .L) fr.1=dA (.j a)/\ih a) env
def BL(μ bS:Mu):Prop:=∀w fr L,μ w=dA ⟨fr,.F,L⟩->bS w=dA ⟨fr,.F,L⟩
section
variable{ad:qe U}{μ aB j4:Mu}{a fa:qc}{A:Nm->qc}{D:Nm->iP}{B:qc}{cr cs:qd->qc}{d:iP}{k x d6:qd}{env:u8}
theorem BL.j(μ:Mu):BL μ μ:=λa a a h=>h
theorem BL.i(a:BL μ bS)(b:BL bS c):BL μ c:=λw fr L h=>b w fr L<|a w fr L h
theorem BL.H(e:μ a=dA (dM d))(d':iP):BL μ (μ.H a (dM d')):=λw fr L h=>(ap _ _ (Bz e h λb z=>nomatch z).symm).trans h
theorem BL.G(h:μ a=ft):BL μ (μ.H a c):=λw fr L e=>(ap _ _<|bz e h).trans e
theorem ut.u:∀{d6:qd},(∀fr∈env,(eA (D .y) fr.1).isSome=hY->(eA (D' .y) fr.1).isSome=hY)->(∀fr∈env,∀x∈fr.2,∀v,eA (D .S) x=dA v->eA (D' .S) x=dA v)->(∀fr∈env,∀v,eA (D .L) fr.1=dA v->eA (D' .L) fr.1=dA v)->ut D env d6->ut D' env d6:=by
 induction env with
 |nil=>exactλb b b h=>h
 |cons fr env ih=>exactλh1 h2 h3 h=>⟨h.1,h1 _ (.head _) h.2.1,λx c=>h2 _ (.head _) x c _<|h.2.2.1 x c,h.2.2.2.imp λd h=>⟨h3 _ (.head _) _ h.1,ih (λfr a=>h1 fr<|.tail _ a) (λfr a=>h2 fr<|.tail _ a) (λfr a=>h3 fr<|.tail _ a) h.2⟩⟩
theorem ut.J(h:z≠.y/\z≠.S/\z≠.L)(c:ut D env d6):ut (nh D z d) env d6:=
 c.u (λa a e=>by rw[d4 _ _ h.1.symm];exact e) (λa a a a a e=>by rw[d4 _ _ h.2.1.symm];exact e) λa a a e=>by rw[d4 _ _ h.2.2.symm];exact e
theorem FS.V(N:FS fa A D B cr cs aB μ)(h:μ i=dA (dM d))(h0:aB i=ft)(b:∀x,x∈iw->A x≠i)(hd:d'.length<=B+1):FS fa A D (B+1) cr cs aB (μ.H i (dM d')):=
 ⟨N.K h d',λx a=>(ap _ _ (b x a)).trans (N.E x a),N.inj,λl v e=>(N.F l v e).elim λj z=>z.elim λd z=>by
  by_cases q:j=i
  ·exact⟨j,d',z.1,q▸aE _ _ _,hd,z.2.2.2⟩
  ·exact⟨j,d,z.1,(ap _ _ q).trans z.2.1,xl z.2.2.1,z.2.2.2⟩,λx a=>xl (N.u x a),N.r,N.w,N.o,N.m,N.t,N.I.B _ h0⟩
theorem QZ(fu:qc->ce)(step:∀k ρ μ,fu k ρ μ->∀P:ce,(∀j,j<k->∀ρ μ,fu j ρ μ->P ρ μ)->c ρ (cLp b P Qn ρ) μ)(k:qc):∀ρ μ,fu k ρ μ->Q2 c b Qn ρ μ:=λρ μ h P hP=>by
 induction k using Nat.strongRecOn generalizing ρ μ with
 |ind k ih=>exact hP _ _<|step k ρ μ h P λj a ρ μ hi=>ih j a ρ μ hi
theorem aaA(e:μ a=dA (dM d))(h:eA d x=dA v)(q:Q v μ):EE (.d a) (.j x) Q μ:=⟨e,by show dB (Er (d.map (·.1)) (d.map (·.2)) x) _;rw[lkD,h];exact q⟩
theorem tR(N:FS fa A D B cr cs aB μ)(a:vY iw (iw.map λx=>.d (A x)) z=dA (.d (A z)))(q:Q (.d (A z)) μ):Ju (.d fa) z Q μ:=⟨N.p,by
 show @Option.casesOn U (λb=>Prop) (vY iw (iw.map λx=>.d (A x)) z) _ λw=>Q w μ;rw[a];exact q⟩
theorem ut.j(h:∃fr∈env,x∈fr.2):∀{d6},ut D env d6->∃f,eA (D .S) x=dA (.j f):=by
 induction env with
 |nil=>exact h.elim λg h=>qH h.1 qX
 |cons fr env ih=>
  intro d6 c;obtain⟨b,a,d⟩:=h;exact(qG.mp a).elim (λe=>⟨_,c.2.2.1 x<|e▸d⟩) λa=>c.2.2.2.elim λi z=>ih ⟨b,a,d⟩ z.2
inductive MtI(fa:qc)(A:Nm->qc)(D:Nm->iP)(B:qc)(cr cs:qd->qc)(aB j4:Mu)(x lx:qd)(E:qc)(k:qc)(ρ:UL)(μ:Mu):Prop
 |mk{d6 env d C}(ek:env.length=k)(b:C+2*k<=E)(e1:ρ .vV=dA (.j d6))(e2:ρ .g=dA (.d fa))(e3:ρ .j=dA (.j x))(c:ut D env d6)(hx:∃fr∈env,x∈fr.2)(N:FS fa A (nh D .eO d) C cr cs aB μ)(l:BL j4 μ):MtI fa A D B cr cs aB j4 x lx E k ρ μ
theorem Dx(D:Nm->iP)(z:Nm):nh D z (D z)=D:=by
 funext y;unfold nh;by_cases h:y=z
 ·rw[qK h,h]
 ·rw[if_neg h]
theorem Md(D:Nm->iP)(z:Nm)(d e:iP):nh (nh D z d) z e=nh D z e:=by
 funext y;unfold nh;by_cases h:y=z
 ·rw[qK h,qK h]
 ·rw[if_neg h,if_neg h,if_neg h]
theorem Ta(N:FS fa A D B cr cs aB μ)(hB:B+2*env.length<eC)(c:ut D env d6)(g:∃fr∈env,x∈fr.2)(q:∀bS d,FS fa A (nh D .eO d) (B+2*env.length) cr cs aB bS->BL μ bS->Q .u bS):aJ ad (n+1) (.y .O .nH) [.d fa,.j x,.j d6] Q X μ:=by
 obtain⟨o,j⟩:=c.j g;generalize t:B+2*env.length=E at hB q;refine aC (fn:=ti) dq dq<|QZ (MtI fa A D B cr cs aB μ x o E) (λk ρ bS I P hP=>I.rec λ{d6 env d C} J b e1 e2 e3 c g N l=>?_) env.length _ _ (.mk (d:=D .eO) dq (qL t) dq dq dq c g (by rw[Dx];exact N)<|.j _)
 refine ac e1<|ac e2 (tR N dq<|ac e3 (aaA (v:=.j o) (N.E .S (by decide)) (by rw[d4 _ _ (by decide)];exact j)<|b7 (b:=!(d6==o)) (λr=>?_) λr=>?_))
 ·cases env with
  |nil=>exact g.elim λp h=>qH h.1 qX
  |cons fr env=>
   obtain⟨F,V,U,M,T,S⟩:=c
   have W:∃fr∈env,x∈fr.2:=g.elim λu h=>(qG.mp h.1).elim (λe=>by
    have:=U x<|e▸h.2;rw[j]at this;have:o=fr.1:=by cases this;rfl
    rw[F,this,qZ]at r;exact qH r qB) λz=>⟨u,z,h.2⟩
   have y:(eA (nh D .eO d .y) fr.1).isSome=hY:=by rw[d4 _ _ (by decide)];exact V
   obtain⟨w,G⟩:=xq.mp y;obtain⟨i,K,R,hi,hl,h0,O⟩:=N.F _ _ G;have H:C+2*env.length+2<=E:=by rw[←J]at b;exact b
   have hC:C+2<eC:=qi (qg (qF (qj C<|2*env.length) 2) H) hB;have a:=N.V hi h0 O (d':=jm K x<|.q hY)<|qg (gF _ _ _) (qN hl)
   have step:∀{L:iP} {m:Mu},FS fa A (nh D .eO L) (C+2) cr cs aB m->BL μ m->Ju (.d fa) .L (cI1 (uE ad (aJ ad n) (.s .vV) np (λp=>qp) ρ) (y8 .vV ρ P)) m:=λ{L m} f l2=>
    tR f dq (ac e1<|aaA (v:=.j M) (f.E .L (by decide)) (by rw[d4 _ _ (by decide),F];exact T) (hP env.length (J▸xS _) _ _ ⟨dq,(by rw[xQ];exact H),dq,e2,e3,S,W,f,l2⟩))
   refine ac e2<|tR N dq (ac e1<|aaA (v:=.d i) (N.E .y (by decide)) (by rw[F,G,R]) (ac e3<|Ci hi (qi (qN hl)<|zU (zb hC) (by decide)) ?_))
   have l1:=l.i<|.H hi (jm K x<|.q hY);refine ac e1<|ac e2 (tR a dq ⟨a.E .jO (by decide),b7 (λp=>?_) λp=>ac e2<|step (a.J<|xO _) l1⟩)
   have s:=a.E .eO (by decide)
   rw[gO]at s;have lk:=a.u .eO (by decide)
   rw[gO]at lk;refine ac e2<|tR a dq (ac e3<|Ci s (qi (qN lk)<|zU hC (by decide)) ?_)
   have f:=a.C (z:=.eO) (d:=jm d x<|.q hY) (by decide) (by decide) (by decide) (by decide) (qg (gF _ _ _)<|qN lk) λh=>qH h (by decide)
   rw[Md]at f;exact ac e2<|step f (l1.i<|.H s _)
 ·exact .A (.I<|jj.j _)<|q bS d (N.J<|qg (qj _ _) b) l
end
def rq(h:Hd)(env:u8):u8:=@Hd.casesOn (λa=>u8) h (λa=>env) (λa=>env) (λa=>env) (λa=>env) (λa=>env) env (λlb ps rest=>(lb,ps++rs rest)::env) env env λa=>env
noncomputable def tG(h:Hd)(l:qd):qd:=@Hd.casesOn (λa=>qd) h (λa=>l) (λa=>l) (λa=>l) (λa=>l) (λa=>l) l (λlb a a=>lb) l l λa=>l
def GH(env:u8)(h:Hd):Prop:=@Hd.casesOn (λa=>Prop) h (λa=>xT) (λx=>∃fr∈env,x∈fr.2) (λa=>xT) (λx=>∃fr∈env,x∈fr.2) (λa=>xT) xT (λa a a=>xT) xT xT λa=>xT
noncomputable def Wb(h:Hd):qe qd:=@Hd.casesOn (λa=>qe qd) h (λa=>[]) (λa=>[]) (λa=>[]) (λa=>[]) (λa=>[]) [] (λlb a a=>[lb]) [] [] λa=>[]
def Am(h:Hd):qe qd:=@Hd.casesOn (λa=>qe qd) h (λa=>[]) (λa=>[]) (λa=>[]) (λa=>[]) (λa=>[]) [] (λa ps rest=>ps++rs rest) [] [] λa=>[]
noncomputable def VM(x:qd)(h:Hd):qc:=@Hd.casesOn (λa=>qc) h (λa=>0) (λy=>if y=x then 1 else 0) (λa=>0) (λa=>0) (λa=>0) 0 (λa a a=>0) 0 0 λa=>0
noncomputable def dX(x:qd)(h:Hd):qc:=@Hd.casesOn (λa=>qc) h (λa=>0) (λa=>0) (λa=>0) (λy=>if y=x then 1 else 0) (λa=>0) 0 (λa a a=>0) 0 0 λa=>0
def Dj(h:Hd)(env:u8):Prop:=∀fr∈env,fr.1∉Wb h/\∀x∈Am h,x∉fr.2
def QT(fa:qc)(A:Nm->qc)(D:Nm->iP)(B:qc)(cr cs:qd->qc)(aB μ:Mu)(h:Hd)(env:u8)(d6:qd)(P:Mu->Prop):Prop:=∀bS D',FS fa A D' (B+2*env.length+AB h+3) (λx=>cr x+VM x h) (λx=>cs x+dX x h) aB bS->
 (∀a b,ut D a b->Dj h a->ut D' a b)->ut D' (rq h env) (tG h d6)->BL μ bS->P bS
section
variable{ad:qe U}{μ aB j4:Mu}{a fa:qc}{A:Nm->qc}{D D':Nm->iP}{B:qc}{cr cs:qd->qc}{d:iP}{x y d6:qd}{env:u8}{h:Hd}{l:qe T}{ρ:UL}{P:ce}
theorem QT.u{P:Mu->Prop}(q:QT fa A D B cr cs aB μ h env d6 P)(N:FS fa A D B cr cs aB μ)(c:ut D env d6)(e:rq h env=env/\tG h d6=d6)(r:∀x,VM x h=0)(s:∀x,dX x h=0):P μ:=
 q μ D ((N.J (by rw[qT,qT];exact qj _ _)).S (λx=>by rw[r];rfl) λx=>by rw[s];rfl) (λa a h a=>h) (by rw[e.1,e.2];exact c) (.j _)
theorem Tg(h:xs.length<eC):(bK xs).length+[v].length<aH:=by rw[dU];exact qi (ajQ h) (by decide)
theorem Ha(a:xs.length<eC)(q:Q (.A .F (bK (xs++rs rest))) μ):rI (T.A (.a lb xs rest) [b]).u .dC μ λf=>aJ ad (n+1) f [(T.A (.a lb xs rest) [b]).u] Q X μ:=by
 refine aC (fn:=mT) dq dq<|b7 (b:=decide<|rest>=0) (λh=>⟨Tg a,.j ?_⟩) λh=>.j ?_
 ·rw[show rs rest=[rest]from qK<|qC h,mf]at q;exact q
 ·rw[show rs rest=[]from if_neg<|xG h,qO]at q;exact q
inductive BnI(fa:qc)(A:Nm->qc)(D:Nm->iP)(cr cs:qd->qc)(aB j4:Mu)(lb:qd)(bs:qe qd)(nv:U)(E:qc)(its:qe (qe U))(ρ:UL)(μ:Mu):Prop
 |mk{b1 b2 d C}(eb:bs=b1++b2)(ei:its=fF (bK b2))(e1:ρ .A=dA (.d fa))(e2:ρ .f=dA nv)(N:FS fa A (nh D .S d) C cr cs aB μ)(hC:C+b2.length<=E)(h1:∀x∈b1,eA d x=dA (.j lb))(h2:∀x,x∉bs->eA d x=eA (D .S) x)(l:BL j4 μ):BnI fa A D cr cs aB j4 lb bs nv E its ρ μ
theorem FS.W(N:FS fa A D B cr cs aB μ)(h:μ i=ft):FS fa A (nh D .y (jm (D .y) lb (.d i))) (B+1) cr cs aB ((μ.H i (dM [])).H (A .y) (dM (jm (D .y) lb (.d i)))):=
 have b:Nm.y∈iw:=by decide
 have f:=N.G (c:=dM []) h;have ne:∀x,x∈iw->A x≠i:=λx a=>bz (N.E x a) h
 ⟨f.K (f.E _ b) _,λx a=>by
  by_cases e:x=.y
  ·rw[e,aE,gO]
  ·rw[ap _ _ λq=>e<|N.inj x a _ b q,d4 _ _ e];exact f.E x a,N.inj,λl v e=>by
  rw[gO,vt]at e;by_cases q:lb=l
  ·rw[qK q]at e;exact⟨i,[],(qA e).symm,(ap _ _ (ne _ b).symm).trans (aE _ _ _),qP _,N.I.u h,ne⟩
  ·rw[if_neg q]at e;exact(f.F l v e).imp λj z=>z.imp λd z=>⟨z.1,(ap _ _ (z.2.2.2.2 _ b).symm).trans z.2.1,xl z.2.2.1,z.2.2.2⟩,λx a=>by
  by_cases e:x=.y
  ·rw[e,gO];exact qg (gF _ _ _)<|qN (N.u _ b)
  ·rw[d4 _ _ e];exact xl<|N.u x a,by rw[d4 _ _ (by decide)];exact N.r,by rw[d4 _ _ (by decide)];exact N.w,λx a=>by
  rw[d4 _ _ λz=>qH (z▸a) (by decide)];exact N.o x a,N.m,N.t,f.I.B _ (N.m _ b)⟩
theorem abS{E:qc}(k:∀x K ρ μ D' C,ρ .A=dA (.d fa)->ρ .f=dA nv->FS fa A D' C cr cs aB μ->(D' .S).length+1<aH->K (ρ.H .j (.j x)) (μ.H (A .S) (dM (jm (D' .S) x (.j lb))))->cy [.j x] K ρ μ)
  (N:FS fa A D B cr cs aB μ)(n:B+bs.length<=E)(hl:E<eC)(e1:ρ .A=dA (.d fa))(e2:ρ .f=dA nv)(q:∀ρ bS d,FS fa A (nh D .S d) E cr cs aB bS->(∀x∈bs,eA d x=dA (.j lb))->(∀x,x∉bs->eA d x=eA (D .S) x)->BL μ bS->Qn ρ bS):kX cy (fF<|bK bs) Qn ρ μ:=
 CJ (BnI fa A D cr cs aB μ lb bs nv E) (λρ bS I=>I.rec λ{b1 b2 d C} b f e1 e2 N hC h1 h2 l=>by
   have z:b2=[]:=Zc.mp (Zc.mp f.symm);rw[z,qO]at b;exact q ρ bS d (N.J (qg (qj _ _) hC)) (b▸h1) h2 l)
  (λvs its ρ bS I K m=>I.rec λ{b1 b2 d C} b f e1 e2 N hC h1 h2 l=>by
   cases b2 with
   |nil=>cases f
   |cons x b2=>
    cases f;have i:=N.E .S (by decide)
    have lk:=N.u .S (by decide)
    rw[gO]at i lk;have a:C+1+b2.length<=E:=by rw[qT,xa 1];exact hC
    have j:=N.C (z:=.S) (d:=jm d x<|.j lb) (by decide) (by decide) (by decide) (by decide) (qg (gF _ _ _)<|qN lk) λh=>qH h (by decide)
    rw[Md]at j;refine k x K ρ bS _ _ e1 e2 N (by rw[gO];exact qi (qg (qN lk)<|qg (qj _ _) a)<|gY hl) ?_
    rw[gO];refine m _ _<|.mk (b1:=b1++[x]) (b.trans<|aeX _ _ _) dq e1 e2 j a (λy c=>?_) (λy c=>?_) (l.i<|.H i _)
    ·rw[vt];by_cases e:x=y
     ·rw[qK e]
     ·rw[if_neg e];exact(qY.mp c).elim (h1 y) λz=>qH (qD.mp z).symm e
    ·rw[vt,if_neg λe:x=y=>c (by rw[b,←e];exact qJ _ (.head _))];exact h2 y c) _ ρ μ (.mk (b1:=[]) (d:=D .S) dq dq e1 e2 (by rw[Dx];exact N) n (λg h=>qH h qX) (λg g=>dq) (.j _))
theorem NT(N:FS fa A D B cr cs aB μ)(hB:B+2*env.length+xs.length+3<eC)(c:ut D env d6)(t:Dj (.a lb xs rest) env)(q:QT fa A D B cr cs aB μ (.a lb xs rest) env d6 (Q .u)):
  aJ ad (n+2) (.r .fQ) [.d fa,(T.A (.a lb xs rest) [b]).u,.j d6] Q X μ:=by
 have Iu:B+1<eC:=qi (by rw[qT,qT];exact qn (qg (by decide)<|qg (qr 3 _) (qr _ _)) _) hB
 have j:=N.C (z:=.L) (d:=jm (D .L) lb<|.j d6) (by decide) (by decide) (by decide) (by decide) (qg (gF _ _ _)<|qN (N.u _ (by decide))) λh=>qH h (by decide)
 have l1:=BL.H (N.E .L (by decide))<|jm (D .L) lb (.j d6)
 refine aC (fn:=bI) dq dq<|tR N dq (Ci (N.E .L (by decide)) (qi (qN<|N.u .L (by decide))<|gY Iu) λi hi=>?_)
 have F:=j.W (lb:=lb) hi;have p:=(j.G (c:=dM []) hi).E .y (by decide)
 refine tR (j.G (c:=dM []) hi) dq<|Ci p (qi (qN<|j.u .y (by decide))<|qi (ajQ Iu) (by decide)) ?_
 have l2:=(l1.i<|.G hi).i (BL.H p<|jm ((nh D .L<|jm (D .L) lb (.j d6)) .y) lb (.d i))
 have w:(rs rest).length<=1:=by
  unfold rs;split
  ·exact qm _
  ·exact qP _
 have len:(xs++rs rest).length<=xs.length+1:=by rw[qs];exact qn w _
 have hb:B+1+1+(xs++rs rest).length<=B+2*env.length+xs.length+3:=by
  exact ali len
 refine Ha (qi (qg (qr _ _)<|qj _ 3) hB) ?_;refine abS (bs:=xs++rs rest) (lb:=lb) (nv:=(T.A (.a lb xs rest) [b]).u) (λx K ρ μ D' C e1 e2 N n q=>ac (ρ:=ρ.H .j _) e2<|ac (ρ:=ρ.H .j _) e1 (tR N dq<|Ci (N.E .S (by decide)) n q)) F hb hB dq dq λρ bS d E h1 h2 s=>?_
 have o:∀y,eA (nh (nh (nh D .L (jm (D .L) lb (.j d6))) .y (jm ((nh D .L (jm (D .L) lb (.j d6))) .y) lb (.d i))) .S d .y) y=if lb=y then dA (.d i)else eA (D .y) y:=λy=>by
  rw[d4 _ _ (by decide),gO,vt,d4 _ _ (by decide)]
 have m:∀y,eA (nh (nh (nh D .L (jm (D .L) lb (.j d6))) .y (jm ((nh D .L (jm (D .L) lb (.j d6))) .y) lb (.d i))) .S d .L) y=if lb=y then dA (.j d6)else eA (D .L) y:=λy=>by
  rw[d4 _ _ (by decide),d4 _ _ (by decide),gO,vt]
 have key:∀f k,ut D f k->Dj (.a lb xs rest) f->ut (nh (nh (nh D .L (jm (D .L) lb (.j d6))) .y (jm ((nh D .L (jm (D .L) lb (.j d6))) .y) lb (.d i))) .S d) f k:=λf k c' a=>
  c'.u (λfr g e=>by
   rw[o];by_cases z:lb=fr.1
   ·rw[qK z];rfl
   ·rw[if_neg z];exact e) (λfr g x l v e=>by
   rw[gO,h2 x λz=>(a fr g).2 x z l,d4 _ _ (by decide),d4 _ _ (by decide)];exact e) λfr g v e=>by
   rw[m,if_neg λz:lb=fr.1=>(a fr g).1 (z▸.head _)];exact e
 exact .j<|q bS _ (E.S (λr=>dq) λr=>dq) key ⟨dq,by rw[o,qK dq];rfl,λx l=>by rw[gO];exact h1 x l,d6,by rw[m,qK dq],key env d6 c t⟩ (l2.i s)
end
section
variable{ad:qe U}{n:qc}{Q:UQ}{X:Mu->Prop}{μ aB j4:Mu}{a fa:qc}{A:Nm->qc}{D D':Nm->iP}{B:qc}{cr cs:qd->qc}{d d':iP}{k x y d6:qd}{v:U}{f:qd->qc}{env:u8}{h:Hd}{l:qe T}{ρ:UL}{P:ce}{b:T}
theorem aeg(hB:B+2*env.length+AB h+3<eC):B+1<eC:=qi (by rw[qT,qT];exact qn (qg (by decide)<|qg (qr 3 _) (qr _ _)) _) hB
theorem FS.s(N:FS fa A D B cr cs aB μ){z:Nm}(a:z∈iw)(hB:B+1<eC):(D z).length+1<aH:=qi (qN<|N.u z a)<|gY hB
theorem FS.R(N:FS fa A D B cr cs aB μ){z:Nm}(a:z∈iw):(jm (D z) x v).length<=B+1:=qg (gF _ _ _)<|qN (N.u z a)
theorem V0{z:Nm}(h:z∈[Nm.F,.G,.dy,.jO,.eO,.bc,.bp]):z≠.y/\z≠.S/\z≠.L:=⟨λe=>qH (e▸h) (by decide),λe=>qH (e▸h) (by decide),λe=>qH (e▸h) (by decide)⟩
theorem adI(z:Nm)(h:z=.F\/z=.G):z∈iw/\z∈[Nm.F,.G,.dy,.jO,.eO,.bc,.bp]/\z∉[Nm.dy,.bc,.bp]:=by
 rcases h with h|h<;>rw[h]<;>decide
theorem afz{K:lS->Prop}(e:μ fa=dA ⟨np,.f .O iw,iw.map λx=>.d (A x)⟩)(q:K (.y .O .nH)):rI (.d fa) .nH μ K:=⟨e,q⟩
theorem A3{h:Hd}{z:Nm}{d:iP}(j:z=.F\/z=.G)(N:FS fa A D B cr cs aB μ)(hc:μ (A z)=dA (dM (D z)))(hB:B+2*env.length+AB h+3<eC)(c:ut D env d6)(k:∃fr∈env,x∈fr.2)(hd:d.length<=B+1)(h1:rB (nh D z d .F) λx=>cr x+VM x h)(h2:rB (nh D z d .G) λx=>cs x+dX x h)(e:rq h env=env/\tG h d6=d6)
  (q:QT fa A D B cr cs aB μ h env d6 (Q .u)):aJ ad (n+1) (.y .O .nH) [.d fa,.j x,.j d6] Q X (μ.H (A z)<|dM d):=by
 have⟨i,f,g⟩:=adI z j;have m:=N.H i (V0 f).1 hd h1 h2 λh=>qH h g;have le:B+1+2*env.length<=B+2*env.length+AB h+3:=by rw[xQ];exact qM (qj _ _) (by decide)
 refine Ta m (qi le hB) (c.J<|V0 f) k λbS d' l l2=>?_;have up:∀b a,ut D b a->ut (nh (nh D z d) .eO d') b a:=λb a c=>(c.J<|V0 f).J (V0 (by decide))
 exact q bS _ (l.J le) (λb a c o=>up b a c) (by rw[e.1,e.2];exact up env d6 c)<|BL.i (.H hc d) l2
theorem NS{z:Nm}{d:iP}(N:FS fa A D B cr cs aB μ)(e:z∈[Nm.dy,.jO,.bc,.bp])(hd:d.length<=B+1)(h3:z∈[Nm.dy,.bc,.bp]->∃c,rB d c):FS fa A (nh D z d) (B+1) cr cs aB (μ.H (A z) (dM d))/\(∀env d6,ut D env d6->ut (nh D z d) env d6)/\BL μ (μ.H (A z) (dM d)):=by
 have b:∀z,z∈[Nm.dy,.jO,.bc,.bp]->z∈[Nm.F,.G,.dy,.jO,.eO,.bc,.bp]/\z∈iw/\Nm.F≠z/\Nm.G≠z:=by decide
 have k:=b z e;exact⟨N.C k.2.1 (V0 k.1).1 k.2.2.1 k.2.2.2 hd h3,λa a c=>c.J<|V0 k.1,.H (N.E z k.2.1) d⟩
theorem QT.E{h:Hd}{z:Nm}{d:iP}{P:Mu->Prop}(q:QT fa A D B cr cs aB μ h env d6 P)(N:FS fa A D B cr cs aB μ)(c:ut D env d6)(f:z∈[Nm.dy,.jO,.bc,.bp])(hd:d.length<=B+1)(h3:z∈[Nm.dy,.bc,.bp]->∃c,rB d c)(e:rq h env=env/\tG h d6=d6)(r:∀x,VM x h=0)(s:∀x,dX x h=0):P (μ.H (A z) (dM d)):=
 have k:=NS N f hd h3
 q _ _ ((k.1.J (by rw[qT,qT];exact qn (qg (by decide)<|qg (qr 3 _) (qr _ _)) _)).S (λx=>by rw[r];rfl) λx=>by rw[s];rfl) (λb a c g=>k.2.1 b a c) (by rw[e.1,e.2];exact k.2.1 env d6 c) k.2.2
theorem yX(N:FS fa A D B cr cs aB μ)(hB:B+1<eC){z:Nm}(a:z∈[Nm.dy,.bc,.bp])(q:∀d,d.length<=B+1->(∃c,rB d c)->Q .u (μ.H (A z) (dM d))):aJ ad (n+1) (.r .fk) [.d (A z),.j k] Q X μ:=by
 have b:∀z,z∈[Nm.dy,.bc,.bp]->z∈iw:=by decide
 obtain⟨c,hc⟩:=N.o z a;exact pA (N.E z<|b z a) hc (N.s (b z a) hB)<|q _ (N.R<|b z a) ⟨_,hc.g k⟩
theorem SB{h:Hd}(N:FS fa A D B cr cs aB μ)(hB:B+2*env.length+AB h+3<eC)(f:oM (.A h l))(c:ut D env d6)(ok:GH env h)(i:Dj h env)(q:QT fa A D B cr cs aB μ h env d6 (Q .u)):aJ ad (n+2) (.r .fQ) [.d fa,(T.A h l).u,.j d6] Q X μ:=by
 have Iu:=aeg hB
 refine T.p (P:=λt=>@T.casesOn (λa=>Prop) t λh l=>oM (.A h l)->B+2*env.length+AB h+3<eC->GH env h->Dj h env->QT fa A D B cr cs aB μ h env d6 (Q .u)->aJ ad (n+2) (.r .fQ) [.d fa,(T.A h l).u,.j d6] Q X μ)
  (λa a a a a q=>aC (fn:=bI) dq dq<|.j (q.u N c ⟨dq,dq⟩ (λa=>dq) λa=>dq))
  (λy a hB ok a q=>aC (fn:=bI) dq dq<|tR N dq (pA (N.E .F (by decide)) N.r (N.s (by decide) Iu)<|afz (N.K (N.E .F (by decide)) _) (A3 (h:=.s y) (.inl dq) N (N.E .F (by decide)) hB c ok (N.R (by decide)) (by rw[gO];exact N.r.g y) (by rw[d4 _ _ (by decide)];exact N.w) ⟨dq,dq⟩ λbS D' h1 h2 h3 h4=>cD.j<|q bS D' h1 h2 h3 h4)))
  (λy a a a a q=>aC (fn:=bI) dq dq<|tR N dq (yX N Iu (z:=.bc) (by decide) λd hd hc=>.j<|q.E N c (by decide) hd (λa=>hc) ⟨dq,dq⟩ (λa=>dq) λa=>dq))
  (λy e a hB ok a q=>aC (fn:=bI) dq dq<|tR N dq (pA (N.E .G (by decide)) N.w (N.s (by decide) Iu)<|afz (N.K (N.E .G (by decide)) _) (A3 (h:=.F y) (.inr dq) N (N.E .G (by decide)) hB c ok (N.R (by decide)) (by rw[d4 _ _ (by decide)];exact N.r) (by rw[gO];exact N.w.g y) ⟨dq,dq⟩ λbS D' h1 h2 h3 h4=>cD.j<|q bS D' h1 h2 h3 h4)))
  (λy e a a a a q=>aC (fn:=bI) dq dq<|tR N dq (yX N Iu (z:=.bp) (by decide) λd hd hc=>.j<|q.E N c (by decide) hd (λa=>hc) ⟨dq,dq⟩ (λa=>dq) λa=>dq))
  (λa a a a a a a q=>aC (fn:=bI) dq dq<|.j (q.u N c ⟨dq,dq⟩ (λa=>dq) λa=>dq)) (λlb ps rest b a hB a i q=>NT N hB c i q)
  (λg l f hB a a q=>?_)
  (λa a a a a a q=>aC (fn:=bI) dq dq<|.j (q.u N c ⟨dq,dq⟩ (λa=>dq) λa=>dq)) (λa a a a a a q=>aC (fn:=bI) dq dq<|.j (q.u N c ⟨dq,dq⟩ (λa=>dq) λa=>dq)) (.A h l) f f hB ok i q
 have no:∀{g:T},oM (.A .h<|g::l)->QT fa A D B cr cs aB μ .h env d6 (Q .u)->iW (.A .h<|g::l)=np->aJ ad (n+1) (.r .gV) [(T.A .h<|g::l).u] (Jj (λμ=>bZ ad (aJ ad<|n+1) (.o (.n (.d (.s .A) .jO) (.d (.d (.s .f) .Y) .x)<|.q hY) .t) (cD Wk Q) (λa=>X) (λa=>cD Wk Q .u) (((UL.H (λa=>ft) .A<|.d fa).H .f (T.A .h<|g::l).u).H .x (.j d6)) μ) λμ=>cD Wk Q .u μ) X μ:=λf q e=>jb f (by rw[e];exact .j<|q.u N c ⟨dq,dq⟩ (λa=>dq) λa=>dq)
 exact T.p (P:=λg=>oM (.A .h (g::l))->QT fa A D B cr cs aB μ .h env d6 (Q .u)->aJ ad (n+2) (.r .fQ) [.d fa,(T.A .h (g::l)).u,.j d6] Q X μ) (λa f q=>aC (fn:=bI) dq dq (no f q dq))
  (λy f q=>aC (fn:=bI) dq dq<|tR N dq (yX N Iu (z:=.dy) (by decide) λd hd hc=>jb f<|.j (q.E N c (by decide) hd (λa=>hc) ⟨dq,dq⟩ (λa=>dq) λa=>dq)))
  (λa f q=>aC (fn:=bI) dq dq<|no f q dq) (λa a f q=>aC (fn:=bI) dq dq<|no f q dq) (λa a f q=>aC (fn:=bI) dq dq<|no f q dq) (λa a a f q=>aC (fn:=bI) dq dq<|no f q dq)
  (λlb ps rest b f q=>aC (fn:=bI) dq dq<|jb f (b7 (b:=kD<|.A (.a lb ps rest) [b]::l) (λe=>tR N dq<|Ci (N.E .jO (by decide)) (N.s (by decide) Iu) (.j<|q.E N c (by decide) (N.R (by decide)) (λh=>qH h (by decide)) ⟨dq,dq⟩ (λa=>dq) λa=>dq)) λa=>.j<|q.u N c ⟨dq,dq⟩ (λa=>dq) λa=>dq))
  (λa a f q=>aC (fn:=bI) dq dq<|no f q dq) (λa a f q=>aC (fn:=bI) dq dq<|no f q dq) (λa a f q=>aC (fn:=bI) dq dq<|no f q dq) g f.2.1 f q
end
def VL(x:qd):T->qc:=fT (λh b s=>VM x h+s) 0 λb b a s=>a+s
def yh(x:qd):qe T->qc:=fL (λh b s=>VM x h+s) 0 λb b a s=>a+s
def VF(x:qd):T->qc:=fT (λh b s=>dX x h+s) 0 λb b a s=>a+s
def wZ(x:qd):qe T->qc:=fL (λh b s=>dX x h+s) 0 λb b a s=>a+s
def Tn:T->qe qd:=fT (λh b s=>Wb h++s) [] λb b a s=>a++s
def rp:qe T->qe qd:=fL (λh b s=>Wb h++s) [] λb b a s=>a++s
def LO:T->qe qd:=fT (λh b s=>Am h++s) [] λb b a s=>a++s
def n7:qe T->qe qd:=fL (λh b s=>Am h++s) [] λb b a s=>a++s
def WZ:T->u8->Prop:=fT (λh b s env=>GH env h/\s (rq h env)) (λb=>xT) λb b a s env=>a env/\s env
def Hm:qe T->u8->Prop:=fL (λh b s env=>GH env h/\s (rq h env)) (λb=>xT) λb b a s env=>a env/\s env
theorem CQ(f:Hd->qe T->qc->qc)(l m:qe T):fL f 0 (λb b a s=>a+s) (l++m)=fL f 0 (λb b a s=>a+s) l+fL f 0 (λb b a s=>a+s) m:=by
 induction l with
 |nil=>exact(vu _).symm
 |cons t l ih=>exact(qh (fT f 0 (λb b a s=>a+s) t+·) ih).trans (qT ..).symm
theorem CP(f:Hd->qe T->qe qd->qe qd)(l m:qe T):fL f [] (λb b a s=>a++s) (l++m)=fL f [] (λb b a s=>a++s) l++fL f [] (λb b a s=>a++s) m:=by
 induction l with
 |nil=>rfl
 |cons t l ih=>exact(qh (fT f [] (λb b a s=>a++s) t++·) ih).trans (qR ..).symm
abbrev Tk:=T×qd×u8
noncomputable def kT(d6:qd)(env:u8)(l:qe T):qe Tk:=l.map λt=>(t,d6,env)
noncomputable def tn(W:qe Tk):qe T:=W.map (·.1)
def tkU(k:Tk):U:=.A .H [k.1.u,.j k.2.1]
def LB(W:qe Tk):qe U:=(W.map tkU).reverse
theorem My(k:Tk)(W:qe Tk):LB (k::W)=LB W++[tkU k]:=z0
theorem HB(W:List Tk):(LB W).length=W.length:=by unfold LB;rw[List.length_reverse,List.length_map]
theorem DD(d6:Int)(env:u8)(l:List T)(W:List Tk):tn (kT d6 env l++W)=l++tn W:=by unfold tn kT;rw[List.map_append,List.map_map];exact congrArg (· ++_)<|List.map_id l
theorem XD(d6:qd)(env:u8)(l:qe T)(W:qe Tk):LB (kT d6 env l++W)=LB W++(us l).reverse.map λu=>.A .H [u,.j d6]:=by
 unfold LB kT;rw[xj,aiG,xP,wP,←zP,←zP,←zP,xP];rfl
structure Qo(D:Nm->iP)(S:qc)(L B:qe qd)(k:Tk):Prop where
 s:oM k.1
 c:WZ k.1 k.2.2
 h:ut D k.2.2 k.2.1
 n:k.2.2.length+sz k.1<=S
 d:∀fr∈k.2.2,fr.1∉L/\∀x∈B,x∉fr.2
def Lr(D:Nm->iP)(S:qc)(W:qe Tk):Prop:=∀k∈W,Qo D S (rp<|tn W) (n7<|tn W) k
section
variable{D:Nm->iP}{S:qc}{h:Hd}{l:qe T}{d6:qd}{env:u8}{W:qe Tk}
theorem HP(s:Hm l env)(b:t∈l):WZ t env:=by
 induction l with
 |nil=>exact qH b qX
 |cons a l ih=>exact(qG.mp b).elim (λe=>e▸s.1) (ih s.2)
theorem DY(s:oK l)(b:t∈l):oM t:=by
 induction l with
 |nil=>exact qH b qX
 |cons a l ih=>exact(qG.mp b).elim (λe=>e▸s.1) (ih s.2)
theorem HE(b:t∈l):sz t<=ku l:=by
 induction l with
 |nil=>exact qH b qX
 |cons a l ih=>exact(qG.mp b).elim (λe=>e▸lU) λz=>qg (ih z) sH
theorem OD(h:Hd)(env:u8):(rq h env).length<=env.length+1:=by
 induction h with
 |a=>exact qm _
 |_=>exact xO _
theorem Ez{P:qd×qe qd->Prop}(h1:∀fr∈env,P fr)(h2:∀lb ps rest,h=.a lb ps rest->P (lb,ps++rs rest)):∀fr∈rq h env,P fr:=by
 induction h with
 |a lb ps rest=>exactλfr a=>(qG.mp a).elim (λe=>e▸h2 lb ps rest dq) (h1 fr)
 |_=>exact h1
theorem Lr.w{D':Nm->iP}(k:Lr D S ((.A h l,d6,env)::W))(b:(rp (tn ((.A h l,d6,env)::W))).Nodup)(nb:(n7 (tn ((.A h l,d6,env)::W))).Nodup)(keep:∀i m,ut D i m->Dj h i->ut D' i m)(c:ut D' (rq h env) (tG h d6)):
  Lr D' S (kT (tG h d6) (rq h env) l++W)/\(rp<|tn (kT (tG h d6) (rq h env) l++W)).Nodup/\(n7<|tn (kT (tG h d6) (rq h env) l++W)).Nodup:=by
 have p:rp (tn ((.A h l,d6,env)::W))=Wb h++rp (l++tn W):=by
  show(Wb h++rp l)++rp (tn W)=_;rw[qR];exact qh _ (CP _ l<|tn W).symm
 have q:n7 (tn ((.A h l,d6,env)::W))=Am h++n7 (l++tn W):=by
  show(Am h++n7 l)++n7 (tn W)=_;rw[qR];exact qh _ (CP _ l<|tn W).symm
 have o:∀k'∈(T.A h l,d6,env)::W,Qo D S (Wb h++rp (l++tn W)) (Am h++n7 (l++tn W)) k':=λk' a=>p▸q▸k k' a;rw[p]at b;rw[q]at nb;have b:=xp.mp b;have nb:=xp.mp nb;rw[DD];refine⟨λk' a=>?_,b.2.1,nb.2.1⟩;rw[DD];have dd:∀{k':Tk},Qo D S (Wb h++rp (l++tn W)) (Am h++n7 (l++tn W)) k'->∀fr∈k'.2.2,fr.1∉rp (l++tn W)/\∀x∈n7 (l++tn W),x∉fr.2:=λok fr g=>⟨λz=>(ok.d fr g).1 (qJ _ z),λx f=>(ok.d fr g).2 x (qJ _ f)⟩;have top:=o _<|.head _;refine(qY.mp a).elim (λa=>?_) λa=>?_
 ·obtain⟨t,j,e⟩:=xf.mp a;rw[←e];refine⟨DY top.s.2 j,HP top.c.2 j,c,?_,Ez (dd top) λlb ps rest e=>⟨λz=>b.2.2 lb (e▸.head _) lb z dq,λx f z=>nb.2.2 x (e▸z) x f dq⟩⟩;refine qg (qM (OD h env)<|HE j)<|qg ?_ top.n;show env.length+1+ku l<=env.length+(AB h+ku l+1);rw[qT,xa 1];exact qn (qN<|qr _ _) _
 ·have ok:=o _<|.tail _ a;exact⟨ok.s,ok.c,keep _ _ ok.h λfr g=>⟨λz=>(ok.d fr g).1 (qx _ z),λx f=>(ok.d fr g).2 x (qx _ f)⟩,ok.n,dd ok⟩
end
def aeQ(l:qe Nm):iH:=@List.rec Nm (λa=>iH) .t (λx a ih=>.o (.h (.s .g) x<|.J hY (.w hY .t)) ih) l
section
variable{ad:qe U}{n:qc}{μ aB:Mu}{a fa:qc}{A:Nm->qc}{D:Nm->iP}{B:qc}{R:UQ}
theorem JX{α:Type}{x:Nm}{v:α}{l:qe (Nm×α)}(h:∀p∈l,p.1≠x):kM l x v=l++[(x,v)]:=by
 induction l with
 |nil=>rfl
 |cons p l ih=>
  show(if p.1=x then _ else p::kM l x v)=_
  rw[if_neg (h p<|.head _),ih λq a=>h q<|.tail _ a];rfl
structure Fa0(fa:qc)(done:qe Nm)(A:Nm->qc)(aB μ:Mu):Prop where
 p:μ fa=dA ⟨np,.f .O done,done.map λx=>.d<|A x⟩
 E:∀x∈done,μ (A x)=dA (dM [])
 inj:∀x∈done,∀y∈done,A x=A y->x=y
 m:∀x∈done,aB (A x)=ft
 t:aB fa=ft
 I:jj aB μ
theorem GF{ρ:UL}{P:ce}{Xs:ce}{C:be}(k:ρ .g=dA (.d fa))(b:qe Nm):∀(dn:qe Nm) (A:Nm->qc) (μ:Mu),(dn++b).Nodup->(∀x∈b,(cR .O x).isNone=hY/\(x !=.w)=hY)->Fa0 fa dn A aB μ->(∀A μ,Fa0 fa (dn++b) A aB μ->P ρ μ)->bZ ad C (aeQ b) R Xs P ρ μ:=by
 induction b with
 |nil=>exactλdn A μ f f F q=>q A μ (by rw[qO];exact F)
 |cons x b ih=>
  intro dn A μ nd ok F q i hi;have d:∀y∈dn,y≠x:=λy a=>(xp.mp nd).2.2 y a x (.head _);have c:fa≠i:=bz F.p hi;have m:(dn.map λy=>U.d<|A y).map id=dn.map λy=>.d (A y):=acA _
  have j:(dn.zip (dn.map λy=>U.d (A y)))=dn.map λy=>(y,.d (A y)):=by
   clear ih q nd ok F d m;induction dn with
   |nil=>rfl
   |cons y dn ih=>exact qh (_::·) ih
  have old:∀{y},y∈dn++[x]->¬y=x->y∈dn:=λh e=>(qY.mp h).elim id λz=>qH (qD.mp z) e;refine ac k ⟨(ap _ _ c).trans F.p,?_⟩;show xU ((cR .O x).isNone&&(x !=.w&&(Nm.O !=.bM))) _ _;rw[(ok x<|.head _).1,(ok x<|.head _).2];rw[aeX]at nd q;refine ih (dn++[x]) (λy=>if y=x then i else A y) _ nd (λy a=>ok y<|.tail _ a) ⟨?_,λy a=>?_,λy a z g e=>?_,λy a=>?_,F.t,(F.I.B _ (F.I.u hi)).B _ F.t⟩ q
  ·refine(aE _ _ _).trans ?_;rw[j,JX λp l=>?_]
   ·rw[xj,xj,xP,xP,xj];have e1:(dn.map ((λp:Nm×U=>p.1)∘λy=>(y,.d (A y))))=dn:=acA dn;have e2:(dn.map λy=>U.d (if y=x then i else A y))=dn.map λy=>.d (A y):=aiI λy a=>by rw[if_neg (d y a)]
    rw[e1,e2];show dA (Mc.mk np (.f .O<|dn++[x]) _)=dA (Mc.mk np (.f .O<|dn++[x])<|(dn.map λy=>U.d<|A y)++[.d (if x=x then i else A x)])
    rw[qK dq];rfl
   ·obtain⟨y,a,e⟩:=xf.mp l;rw[←e];exact d y a
  ·by_cases e:y=x
   ·rw[qK e];exact(ap _ _ c.symm).trans (aE _ _ _)
   ·rw[if_neg e];have hc:=F.E y<|old a e;exact(ap _ _ (Bz hc F.p λf z=>nomatch z)).trans ((ap _ _<|bz hc hi).trans hc)
  ·by_cases e1:y=x
   ·by_cases e2:z=x
    ·exact e1.trans e2.symm
    ·rw[qK e1,if_neg e2]at e;exact qH e.symm<|bz (F.E z<|old g e2) hi
   ·by_cases e2:z=x
    ·rw[if_neg e1,qK e2]at e;exact qH e<|bz (F.E y<|old a e1) hi
    ·rw[if_neg e1,if_neg e2]at e;exact F.inj y (old a e1) z (old g e2) e
  ·by_cases e:y=x
   ·rw[qK e];exact F.I.u hi
   ·rw[if_neg e];exact F.m y<|old a e
theorem J3(hC:C=aJ ad (n+1))(q:∀fa A bS,FS fa A (λa=>[]) 0 (λa=>0) (λa=>0) μ bS->Q (.d fa) bS):SW C .O np [] Q X μ:=by
 subst hC;refine⟨dq,λfa b=>aC (fn:=l8) dq dq ?_⟩;refine GF (aB:=μ) (fa:=fa) dq iw [] (λa=>0) _ (by decide) (by decide) ⟨aE _ _ _,λa h=>qH h qX,λa h=>qH h qX,λa h=>qH h qX,b,.H _ b⟩ λA bS F=>.j ⟨dq,q fa A bS ⟨F.p,F.E,F.inj,(λa a e=>nomatch e),λa a=>qm _,λa=>dq,λa=>dq,λa a=>⟨λa=>0,λa=>dq⟩,F.m,F.t,F.I⟩⟩
end
section
variable{ad:qe U}{μ aB:Mu}{fa:qc}{A:Nm->qc}{D:Nm->iP}{B:qc}{ρ:UL}{R:UQ}{cr cs:qd->qc}
def abc(A:Nm->qc)(D:Nm->iP):U:=.A (.f .O iw) (.A (.d ((D .F).map (·.1))) ((D .F).map (·.2))::.A (.d ((D .G).map (·.1))) ((D .G).map (·.2))::(iw.drop 2).map λx=>.d<|A x)
theorem dh.L{st:St}(R:dh τ ad g μ st)(e:g a=dA ⟨b,h,l⟩)(f:∀x c,aB x=dA c->(g.H a ⟨hY,h,l⟩) x=dA c):u6 g (g.H a ⟨hY,h,l⟩)/\dh τ ad (g.H a ⟨hY,h,l⟩) aB st:=
 ⟨.L e,(R.E _ _ _ _ e).elim λc z=>R.N (G:=⟨hY,h,l⟩) (.L e) (R.O e) (z.2.G<|.L e) f st z.1 λd d=>dq⟩
theorem Pi(N:FS fa A D B cr cs aB μ):Wk (.d fa) μ (abc A D) aB:=λτ ad g st av R r=>by
 have h:∀x c,aB x=dA c->g x=dA c:=λx c e=>R.I _ _<|N.I _ _ e;have hr:=R.I _ _<|N.E .F (by decide)
 have m:=R.I _ _<|N.E .G (by decide)
 have o:=R.I _ _ N.p;have keep:∀{g:Mu} {a:qc} {c:Mc},(∀x c,aB x=dA c->g x=dA c)->aB a=ft->∀x d,aB x=dA d->(g.H a c) x=dA d:=λl n x d e=>(ap _ _<|bz e n).trans (l x d e);have sr:A .G≠A .F:=λe=>qH (N.inj .G (by decide) .F (by decide) e) (by decide)
 have fr:fa≠A .F:=(Bz (N.E .F (by decide)) N.p λf z=>nomatch z).symm
 have p:fa≠A .G:=(Bz (N.E .G (by decide)) N.p λf z=>nomatch z).symm
 have k1:=keep (c:=⟨hY,.d ((D .F).map (·.1)),(D .F).map (·.2)⟩) h<|N.m .F (by decide)
 obtain⟨l1,t⟩:=R.L (aB:=aB) hr k1;have i:=(ap g (⟨hY,.d ((D .F).map (·.1)),(D .F).map (·.2)⟩:Mc) sr).trans m;have k2:=keep (c:=⟨hY,.d ((D .G).map (·.1)),(D .G).map (·.2)⟩) k1<|N.m .G (by decide)
 obtain⟨l2,j⟩:=t.L (aB:=aB) i k2;have b:=((ap _ (⟨hY,.d ((D .G).map (·.1)),(D .G).map (·.2)⟩:Mc) p).trans ((ap g (⟨hY,.d ((D .F).map (·.1)),(D .F).map (·.2)⟩:Mc) fr).trans o));have v1:Ar τ _ (.A (.d ((D .F).map (·.1))) ((D .F).map (·.2))) (.d<|A .F):=.A<|l2 _ _ _ (aE _ _ _);have v2:Ar τ _ (.A (.d ((D .G).map (·.1))) ((D .G).map (·.2))) (.d<|A .G):=.A (aE (g.H (A .F) ⟨hY,.d ((D .F).map (·.1)),(D .F).map (·.2)⟩) (A .G) ⟨hY,.d ((D .G).map (·.1)),(D .G).map (·.2)⟩);obtain⟨c,hc,k⟩:=j.E _ _ _ _ b;have u:=u6.C b ⟨hY,.f .O iw,(iw.map λx=>U.d<|A x)⟩;refine⟨_,⟨(l1.i l2).i (u6.C b ⟨hY,.f .O iw,.A (.d ((D .F).map (·.1))) ((D .F).map (·.2))::.A (.d ((D .G).map (·.1))) ((D .G).map (·.2))::(iw.drop 2).map λx=>.d<|A x⟩),λf f f f=>dq⟩,?_,r.B (P:=λav=>Ar τ _ (abc A D) av)<|.A (aE _ _ _)⟩;refine j.N (C:=c) (u6.C b _) (j.O b) ?_ (keep k2 N.t) st hc λf f=>dq;cases k with
 |f r e=>
  refine .f ?_ rfl;cases r with|o s r=>
  cases r with|o q r=>
  exact .o (s.B (P:=λav=>Ar τ _ _ av)<|v1.G (u6.C b _))<|.o (q.B (P:=λav=>Ar τ _ _ av)<|v2.G (u6.C b _)) (r.G<|u6.C b _)
theorem abb(N:FS fa A D B cr cs aB μ)(h1:∀x,F.b x=cr x)(h2:∀x,F.a x=decide (0<cs x)):iF F (abc A D):=.mk (c:=cs) (λx=>by rw[lkD,h1];exact N.r x) (λx=>by rw[lkD];exact N.w x) h2
theorem JF(b:oM (.A h l))(e1:ρ .p=dA (T.A h l).u)(e2:ρ .x=dA (.j d6))(q:Q (.j (tG h d6)) μ):uE ad C (.D (.g .Eq (.d (.s .p) .w) (.B .jv)) (.d (.s .p) .x) (.s .x)) np X ρ Q μ:=
 T.p (P:=λt=>ρ .p=dA t.u->@T.casesOn (λa=>Prop) t λh l=>Q (.j<|tG h d6) μ->uE ad C (.D (.g .Eq (.d (.s .p) .w)<|.B .jv) (.d (.s .p) .x)<|.s .x) np X ρ Q μ) (λa e q=>ac e<|ac e2 q) (λa e q=>ac e<|ac e2 q) (λa e q=>ac e<|ac e2 q) (λa a e q=>ac e<|ac e2 q) (λa a e q=>ac e<|ac e2 q) (λa a a e q=>ac e<|ac e2 q) (λa a a a e q=>ac e<|ac e q) (λa a e q=>ac e<|ac e2 q) (λa a e q=>ac e<|ac e2 q) (λa a e q=>ac e<|ac e2 q) (.A h l) b e1 q
inductive FoI(fa:qc)(A:Nm->qc)(aB:Mu)(S E:qc)(r0 s0:qd->qc)(k:qc)(ρ:UL)(μ:Mu):Prop
 |mk{w W D B cr cs}(e1:ρ .v=dA (.d w))(e2:ρ .A=dA (.d fa))(m:μ w=dA ⟨np,.F,LB W⟩)(w0:aB w=ft)(N:FS fa A D B cr cs aB μ)(r:∀x,cr x+yh x (tn W)=r0 x)(s:∀x,cs x+wZ x (tn W)=s0 x)(z:ku (tn W)=k)(b:B+(2*S+4)*k<=E)(ok:Lr D S W)(nl:(rp<|tn W).Nodup)(nb:(n7<|tn W).Nodup):FoI fa A aB S E r0 s0 k ρ μ
theorem aaV{E:qc}(h:e<=S)(b:B+(2*S+4)*(a+c+1+r)<=E):(B+2*e+a+3)+(2*S+4)*(c+r)<=E:=by
 have e1:(2*S+4)*(a+c+1+r)=(2*S+4)*(c+r)+(2*S+4)*(a+1):=by rw[←ZE];congr 1;exact alh
 have e2:(2*S+4)*(a+1)=(2*S+4)*a+(2*S+4):=Nat.mul_succ _ _;have e3:a<=(2*S+4)*a:=acu _<|zT _;exact alg h b
end
section
variable{ad:qe U}{n:qc}{Q:UQ}{X:Mu->Prop}{μ aB j4:Mu}{a fa w:qc}{A:Nm->qc}{D D':Nm->iP}{B:qc}{ρ:UL}{P:ce}{R:UQ}{Xs:ce}{C:be}{cr cs:qd->qc}{h:Hd}{l:qe T}{t:T}{d6:qd}{F:Fx}{S E k:qc}{r0 s0:qd->qc}{W:qe Tk}{env:u8}
abbrev aaW:iH:=bC<|LZ (kg<|bC (LZ<|kg (bC r6.a)))
theorem Oe(W:qe Tk):W.length<=ku (tn W):=by
 have:=j1<|tn W;unfold tn at this⊢;rwa [qI]at this
theorem T7(t:E<eC)(e1:ρ .v=dA (.d w))(e2:ρ .A=dA (.d fa))(m:μ w=dA ⟨np,.F,LB W⟩)(C:aB w=ft)(N:FS fa A D B cr cs aB μ)(r:∀x,cr x+yh x (tn ((.A h l,d6,env)::W))=r0 x)(s:∀x,cs x+wZ x (tn ((.A h l,d6,env)::W))=s0 x)(z:ku (tn ((.A h l,d6,env)::W))=k)(b:B+(2*S+4)*k<=E)(ok:Lr D S ((.A h l,d6,env)::W))(H:(rp (tn ((.A h l,d6,env)::W))).Nodup)(nb:(n7 (tn ((.A h l,d6,env)::W))).Nodup)
  (hP:∀j,j<k->∀ρ μ,FoI fa A aB S E r0 s0 j ρ μ->P ρ μ):bZ ad (aJ ad<|n+2) aaW R Xs P ((ρ.H .p (T.A h l).u).H .x (.j d6)) μ:=by
 have top:=ok _<|.head _;have a:AB h+ku l+1+ku (tn W)=k:=z;have len:=aaV (S:=S) (e:=env.length) (qg (qj _ _) top.n) (by rw[a];exact b)
 have F:k<=E:=qg (acu k<|zT _)<|qg (qr _ _) b;have M:l.length<eC:=qi (qg (j1 l)<|qg (qg (qr _<|AB h)<|qg (xO _) (qj _ _)) (qg (qL a) F)) t;refine ac (ρ:=(ρ.H .p _).H .x _) e2<|SB N (qi (qg (qj _ _) len) t) top.s top.h top.c.1 (λfr G=>⟨λy=>(top.d fr G).1 (qx _<|qx _ y),λx O=>(top.d fr G).2 x (qx _<|qx _ O)⟩) λbS D' Q keep c' L=>?_;refine JF (ρ:=(ρ.H .p (T.A h l).u).H .x (.j d6)) (d6:=d6) top.s dq dq ?_;refine oX top.s M ?_;obtain⟨g,o,p⟩:=ok.w H nb keep c';refine IO (w:=w) (I:=λaI=>aI .v=dA (.d w)/\aI .A=dA (.d fa)/\aI ⟨180⟩=dA (.j<|tG h d6)) (base:=LB W) (f:=λu=>.A .H [u,.j<|tG h d6]) (λv K ρ μ L i e n k=>?_) ?_ ?_ (L _ _ _ m) λaI J i e fr=>?_
 ·exact ac (ρ:=ρ.H .eF v) (x:=.v) i.1<|mA e (ac (ρ:=ρ.H .eF v) (x:=⟨180⟩) i.2.2<|sR e n (k _ i))
 ·rw[acM,fh,HB];exact qi (qg (qM (Oe W)<|j1 l)<|qg (by rw[xa];exact qF (qg (qr _ _)<|xO _) _) (qg (qL a) F))<|zU t (by decide)
 ·exact⟨e1,e2,dq⟩
 ·rw[←XD (tG h d6) (rq h env)]at e
  have eq:J=bS.H w ⟨np,.F,LB (kT (tG h d6) (rq h env) l++W)⟩:=funext λx=>by
   by_cases q:x=w
   ·rw[q,aE];exact e
   ·rw[ap _ _ q];exact fr x q
  refine hP (ku<|l++tn W) ?_ _ _ (.mk i.1 i.2.1 e C (eq▸Q.O C (L _ _ _ m)) (λx=>?_) (λx=>?_) (by rw[DD]) ?_ g o p)
  ·rw[nq,←a];exact aiE (z8<|qr _ _) _
  ·rw[DD];refine aiN ?_ (r x);show cr x+VM x h+yh x (l++tn W)=cr x+((VM x h+yh x l)+yh x (tn W));rw[show yh x (l++tn W)=yh x l+yh x (tn W)from CQ _ l<|tn W,qT,qT]
  ·rw[DD];refine aiN ?_ (s x);show cs x+dX x h+wZ x (l++tn W)=cs x+((dX x h+wZ x l)+wZ x (tn W));rw[show wZ x (l++tn W)=wZ x l+wZ x (tn W)from CQ _ l<|tn W,qT,qT]
  ·rw[nq];exact len
theorem EN(i:oM t)(hl:(2*sz t+4)*sz t<eC)(sc:WZ t [])(o:(Tn t).Nodup)(db:(LO t).Nodup)(q:∀fv,iF ⟨λx=>VL x t,λx=>decide (0<VF x t)⟩ fv->Q fv μ):aJ ad (n+3) (.r ⟨214⟩) [.A .F [t.u]] Q X μ:=by
 refine aC (fn:=r6) dq dq<|J3 dq λfa A j4 g=>gi λw d=>?_;refine BQ (FoI fa A μ (sz t) ((2*sz t+4)*sz t) (λx=>VL x t) λx=>VF x t) (λk ρ bS I=>I.rec λ{w W D B cr cs} e1 e2 m c N r s z b ok a nb=>⟨e1,m,λy=>?_,λy P hP=>?_⟩) (sz t) _ _<|.mk (W:=[(t,-1,[])]) dq dq (aE _ _ _) (g.I.u d) (g.G d) (λx=>vu _) (λx=>vu _) (ah4 _) (qL<|vu _) (λk j=>?_) ?_ ?_
 ·have f:W=[]:=wy (by rw[←HB,y];rfl)
  refine j3<|ac e2 (.A (Pi N)<|q _ (abb N (λx=>?_) λx=>?_))
  ·show VL x t=cr x;rw[←r x,f];rfl
  ·show decide (0<VF x t)=_;rw[←s x,f];rfl
 ·refine wF (P:=λW=>bS w=dA ⟨np,.F,LB W⟩->(∀x,cr x+yh x (tn W)=VL x t)->(∀x,cs x+wZ x (tn W)=VF x t)->ku (tn W)=k->Lr D (sz t) W->(rp (tn W)).Nodup->(n7 (tn W)).Nodup->_) (λtb W m r s z ok a nb=>?_) (λe=>y (by rw[e];rfl)) m r s z ok a nb
  rw[My]at m;obtain⟨⟨hd,l⟩,d6,env⟩:=tb;exact ac e1<|Go m (Np m<|T7 (D:=D) hl e1 e2 (aE _ _ _) c (N.O c m) r s z b ok a nb hP)
 ·rw[qD.mp j];exact⟨i,sc,dq,qL<|vu _,λp h=>qH h qX⟩
 ·show(Tn t++[]).Nodup;rw[qO];exact o
 ·show(LO t++[]).Nodup;rw[qO];exact db
end
theorem DB(l:qe E):E.C l=l.map E.t:=by
 induction l with
 |nil=>rfl
 |cons e l ih=>exact qh (e.t::·) ih
theorem DC(l:qe E):(E.C l).length=l.length:=by rw[DB,qI]
theorem aeu(a b:qc):((a:qd)==(b:qd))=decide (a=b):=ZN.mpr ⟨λh=>Zo h,λh=>qh aj6 h⟩
theorem B9(g:T->T)(l m:qe T):gM g (l++m)=gM g l++gM g m:=by
 induction l with
 |nil=>rfl
 |cons t l ih=>exact qh (pQ g t::·) ih
def tq(p:qd×E):qd×T:=(p.1,p.2.t)
theorem IU(x:qd)(g:qe (qd×E)):eA (g.map tq) x=(gN g x).map E.t:=by
 unfold eA gN;rw[alX,ZS,ZS];rfl
theorem V5(e:t=t'):T.A h [t]=.A h [t']:=qh (λt=>T.A h [t]) e
theorem ndl(e:l=a):T.A h l=.A h a:=qh (T.A h) e
theorem nd3(e:a=d)(f:b=b')(g:c=c'):T.A h [a,b,c]=.A h [d,b',c']:=by rw[e,f,g]
theorem nds(e:l=b)(f:a=c):T.A h (l++[a])=.A h (b++[c]):=by rw[e,f]
theorem V1(f:a=c)(e:l=b):T.A h (a::l)=.A h (c::b):=by rw[e,f]
theorem Rt:(∀(e:E) Γ Φ,WS Γ Φ e->(∀f,f∈Φ\/f∈bd e->gN g f=ft)->pQ (vP (g.map tq)) e.t=(sub (gN g) e).t)/\∀(l:qe E) Γ Φ,oJ Γ Φ l->(∀f,f∈Φ\/f∈lM l->gN g f=ft)->gM (vP (g.map tq)) (E.C l)=E.C (iI (gN g) l):=
 have L:∀{l m Φ:qe qd},(∀f,f∈Φ\/f∈l++m->gN g f=ft)->∀f,f∈Φ\/f∈l->gN g f=ft:=λk f h=>k f<|h.imp id λz=>qx _ z;have R:∀{l m Φ:qe qd},(∀f,f∈Φ\/f∈l++m->gN g f=ft)->∀f,f∈Φ\/f∈m->gN g f=ft:=λk f h=>k f<|h.imp id λz=>qJ _ z;have S:∀{l Φ:qe qd} {x:qd},(∀f,f∈Φ\/f∈x::l->gN g f=ft)->∀f,f∈x::Φ\/f∈l->gN g f=ft:=λk f h=>h.elim (λh=>(qG.mp h).elim (λz=>k f<|.inr (z▸.head _)) λz=>k f<|.inl z) λz=>k f<|.inr (.tail _ z)
 E.J (P:=λe=>∀Γ Φ,WS Γ Φ e->(∀f,f∈Φ\/f∈bd e->gN g f=ft)->pQ (vP (g.map tq)) e.t=(sub (gN g) e).t) (Ps:=λl=>∀Γ Φ,oJ Γ Φ l->(∀f,f∈Φ\/f∈lM l->gN g f=ft)->gM (vP (g.map tq)) (E.C l)=E.C (iI (gN g) l)) (λn n n n n=>dq)
  (λy n n n n=>by
   show(eA (g.map tq) y).getD (.A (.s y) [])=((gN g y).getD (.s y)).t;rw[IU];cases gN g y<;>rfl)
  (λn n n n n=>dq) (λn e ih Γ Φ w h=>V5<|ih Γ Φ w.2 h) (λn e ih Γ Φ w h=>V5<|ih Γ Φ w.2 h) (λa b c i j k Γ Φ w h=>nd3 (i Γ Φ w.1<|L (L h)) (j Γ Φ w.2.1<|R (L h))<|k Γ Φ w.2.2 (R h))
  (λl e i j Γ Φ w h=>(ndl<|B9 _ _ [e.t]).trans (nds (i Γ Φ w.1<|L h)<|j Γ Φ w.2 (R h))) (λn l i Γ Φ w h=>ndl<|i Γ Φ w.2 h) (λlb ps rest b l i j Γ Φ w h=>V1 (V5<|i _ Φ w.1 (R<|L h))<|j Γ Φ w.2 (R h))
  (λlb f j2 ps rest d b i j Γ Φ w h=>V1 (V5<|j Γ _ w.1 (S<|L (m:=ps++rs rest++bd d) h))<|qh (λt=>[t]) (V5<|i _ Φ w.2 (R<|R (l:=f::bd b) h)))
  (λf l i Γ Φ w h=>V1 (by
   show(eA (g.map tq) f).getD (.A (.s f) [])=_;rw[IU,h f (.inl w.1)];rfl) (i Γ Φ w.2 h)) (λl i Γ Φ w h=>V1 dq (i Γ Φ w h)) (λn n n n=>dq)
  λe l i j Γ Φ w h=>by
   show pQ _ e.t::gM _ (E.C l)=(sub (gN g) e).t::E.C (iI (gN g) l);rw[i Γ Φ w.1 (L h),j Γ Φ w.2<|R h]
theorem Jh(F:Fx)(x:qd)(e:E):jH F x e.t=cj F x e:=by cases e<;>rfl
theorem tK(h:∀x e,p x e.t=p' x e)(ps:qe qd):∀l:qe E,bx p ps (E.C l)=(iX p' ps l).map tq:=by
 induction ps with
 |nil=>exactλa=>dq
 |cons x ps ih=>
  intro l;cases l with
  |nil=>rfl
  |cons e l=>
   show xU (p x e.t) ((x,e.t)::bx p ps (E.C l)) (bx p ps<|E.C l)=(iX p' (x::ps)<|e::l).map tq;rw[h,ih];cases q:p' x e with
   |true=>rw[CE q];rfl
   |false=>rw[CG q];rfl
theorem ve(lb:qd)(b:E)(s:qe (qd×E)):uR lb (s.map tq) b.t=(without lb s b).t:=by
 cases s with
 |nil=>rfl
 |cons p s=>
  show T.A .h (.A (.a lb (((p::s).map tq).map (·.1)) (-1)) [b.t]::((p::s).map tq).map (·.2))=.A .h (.A (.a lb ((p::s).map (·.1)) (-1)) [b.t]::E.C ((p::s).map (·.2)));rw[DB,xP,xP,xP];rfl
theorem tC(lb:qd)(ps:qe qd)(rest:qd)(b:T)(l:qe E):kD (.A (.a lb ps rest) [b]::E.C l)=kc ps rest l:=by
 show(decide (rest<0)&&((ps.length:qd)==((E.C l).length:qd)))=_;rw[DC,aeu];rfl
theorem KU(w:WS Γ Φ b)(h:∀f,f∈Φ\/f∈bd b->f∉ps):FE F (ip lb ps rest b.t (E.C l))=(oE F lb ps rest b l).t:=by
 show xU (kD<|.A (.a lb ps rest) [b.t]::E.C l) (xU (bx (jH F) ps<|E.C l).isEmpty (ip lb ps rest b.t<|E.C l)<|uR lb (bx (λx t=>!jH F x t) ps<|E.C l) (pQ (vP<|bx (jH F) ps (E.C l)) b.t)) (ip lb ps rest b.t<|E.C l)=_;rw[tC,tK<|Jh F,tK (p':=λx e=>!cj F x e) λx e=>by rw[Jh]]
 unfold oE;cases kc ps rest l with
 |false=>rfl
 |true=>
  have k:=λf a=>show gN (iX (cj F) ps l) f=ft from by
   cases e:gN (iX (cj F) ps l) f with
   |none=>rfl
   |some d=>exact qH (lh<|Fg e).1<|h f a
  have k:=Rt.1 b Γ Φ w k;revert k
  show(_=_)->xU ((iX (cj F) ps l).map tq).isEmpty _ (uR lb ((bU (cj F) ps l).map tq) (pQ (vP ((iX (cj F) ps l).map tq)) b.t))=(match iX (cj F) ps l with
   |[]=>E.D lb ps rest b l
   |g=>without lb (bU (cj F) ps l) (sub (gN g) b)).t
  cases iX (cj F) ps l with
  |nil=>exactλc=>dq
  |cons q g=>exactλk=>(qh (uR lb _) k).trans (ve _ _ _)
theorem PE(F:Fx):(∀(e:E) Γ Φ,WS Γ Φ e->Fr Γ Φ (bd e)->Ss F (λx=>fK x e)->pQ (FE F) e.t=(cp F e).t)/\∀(l:qe E) Γ Φ,oJ Γ Φ l->Fr Γ Φ (lM l)->Ss F (λx=>f6 x l)->gM (FE F) (E.C l)=E.C (cps F l):=
 E.J (P:=λe=>∀Γ Φ,WS Γ Φ e->Fr Γ Φ (bd e)->Ss F (λx=>fK x e)->pQ (FE F) e.t=(cp F e).t) (Ps:=λl=>∀Γ Φ,oJ Γ Φ l->Fr Γ Φ (lM l)->Ss F (λx=>f6 x l)->gM (FE F) (E.C l)=E.C (cps F l)) (λm m m m m m=>dq) (λm m m m m m=>dq) (λm m m m m m=>dq)
  (λm e i Γ Φ w f s=>V5<|i Γ Φ w.2 f s.r) (λm e i Γ Φ w f s=>V5<|i Γ Φ w.2 f s) (λa b c i j k Γ Φ w f s=>nd3 (i Γ Φ w.1 f.g.g s.l.l) (j Γ Φ w.2.1 f.g.i s.l.r)<|k Γ Φ w.2.2 f.i s.r)
  (λl e i j Γ Φ w f s=>(qh (λl=>FE F<|.A .y l)<|B9 _ _ [e.t]).trans (nds (i Γ Φ w.1 f.g s.l)<|j Γ Φ w.2 f.i s.r)) (λm l i Γ Φ w f s=>ndl<|i Γ Φ w.2 f s)
  (λlb ps rest b l i j Γ Φ w f s=>by
   show FE F (ip lb ps rest (pQ (FE F) b.t) (gM (FE F) (E.C l)))=(oE F lb ps rest (cp F b) (cps F l)).t;rw[i _ Φ w.1 f.g.b s.l,j Γ Φ w.2 f.i s.r];refine KU (WU F b w.1 f.g.b s.l) λg o n=>o.elim (f.2 g (qx _ (qx _ (qx _ n)))).2 λh=>(xp.mp f.g.1).2.2 g (qx _ n) g ((Js F b).subset h) dq)
  (λlb g j2 ps rest d b i j Γ Φ w f s=>by
   show FE F (.A .h [.A (.a lb [g] (-1)) [pQ (FE F) b.t],.A (.a j2 ps rest) [pQ (FE F) d.t]])=(E.H lb g j2 ps rest (cp F d) (cp F b)).t;have f:Fr Γ Φ (g::bd b++(ps++rs rest++bd d)):=f;rw[j Γ _ w.1 f.d.g s.l,i _ Φ w.2 (Fr.b f.p.i) s.r];rfl)
  (λg l i Γ Φ w f s=>V1 dq<|i Γ Φ w.2 f s) (λl i Γ Φ w f s=>V1 dq<|i Γ Φ w f s) (λm m m m m=>dq)
  λe l i j Γ Φ w f s=>by
   show pQ _ e.t::gM _ (E.C l)=(cp F e).t::E.C (cps F l);rw[i Γ Φ w.1 f.g s.l,j Γ Φ w.2 f.i s.r]
theorem AU(F:Fx):(∀e:E,ck F e.t=quiet F e)/\∀l:qe E,(E.C l).all (ck F)=oW F l:=
 E.J (P:=λe=>ck F e.t=quiet F e) (Ps:=λl=>(E.C l).all (ck F)=oW F l) (λf=>dq) (λf=>dq) (λf=>dq) (λf f f=>dq) (λf f f=>dq)
  (λa b c i j k=>by
   show(ck F a.t&&(ck F b.t&&(ck F c.t&&hY)))=(quiet F a&&quiet F b&&quiet F c);rw[i,j,k,xn,acB])
  (λl e i j=>(rR F _).trans (by
   rw[ZJ,i];show(_&&(ck F e.t&&hY))=_;rw[j,xn];rfl)) (λw l i=>qh (w.b&&·) ((rR F _).trans i))
  (λlb ps rest b l i j=>by
   show(kD _&&((qtL F (E.C l)).all (·.1)&&ck F b.t))=(kc ps rest l&&oW F l&&quiet F b);rw[tC,rR,i,j,acB])
  (λf f f f f d b f j=>j) (λf f f=>dq) (λf f=>dq) dq λe l i j=>by
   show(ck F e.t&&(E.C l).all (ck F))=_;rw[i,j];rfl
theorem Bj:∀e:E,cH e.t=gf e:=
 (E.J (P:=λe=>cH e.t=gf e) (Ps:=λf=>xT) (λf=>dq) (λf=>dq) (λf=>dq) (λf f f=>dq) (λf f f=>dq)
  (λa b c i j k=>by
   show(cH b.t&&(cH c.t&&hY))=(gf b&&gf c);rw[j,k,xn])
  (λl e i j=>(Bk _ _).trans j) (λf f f=>dq)
  (λlb ps rest b l i j=>by
   show(kD _&&cH b.t)=(kc ps rest l&&gf b);rw[tC,i])
  (λf f f f f d b f j=>j) (λf f f=>dq) (λf f=>dq) oy λe l i j=>oy).1
theorem EU(F:Fx)(x:qd)(e:E):oA F x e.t=cS F x e:=by
 show(bq F x&&(!F.a x&&ck F e.t))=(bq F x&&!F.a x&&quiet F e);rw[(AU F).1,acB]
theorem KL(F:Fx)(lb:qd)(rest:qd)(b:E)(h:kc ps rest l=hY):nW F lb ps rest b.t (E.C l)=(Bv F lb ps rest b l).t:=by
 have z:ps.length=l.length:=qC (q8.mp h).2;cases l with
 |nil=>cases ps with
  |nil=>rfl
  |cons=>cases z
 |cons e l=>
  cases l with
  |cons=>cases ps with
   |nil=>rfl
   |cons x ps=>cases ps<;>rfl
  |nil=>
   refine kz (P:=λps=>nW F lb ps rest b.t (E.C [e])=(Bv F lb ps rest b [e]).t) (λx=>?_) z;show xU (bq F x&&(!F.a x&&cH e.t)) (T.A .y [e.t,b.t]) _=(if bq F x&&!F.a x&&gf e then E.y [e] b else E.D lb [x] rest b [e]).t
   rw[Bj,acB];cases bq F x&&(!F.a x&&gf e)<;>rfl
theorem KM:FC F (ip lb ps rest b.t (E.C l))=(lF F lb ps rest b l).t:=by
 show xU (kD<|.A (.a lb ps rest) [b.t]::E.C l) (xU (bx (oA F) ps<|E.C l).isEmpty (nW F lb ps rest b.t<|E.C l)<|uR lb (bx (λx t=>!oA F x t) ps<|E.C l) b.t) (ip lb ps rest b.t<|E.C l)=_;rw[tC,tK<|EU F,tK (p':=λx e=>!cS F x e) λx e=>by rw[EU]]
 unfold lF;cases h:kc ps rest l with
 |false=>rfl
 |true=>
  show xU ((iX (cS F) ps l).map tq).isEmpty _ (uR lb ((bU (cS F) ps l).map tq) b.t)=(match iX (cS F) ps l with
   |[]=>Bv F lb ps rest b l
   |_=>without lb (bU (cS F) ps l) b).t
  cases iX (cS F) ps l with
  |nil=>exact KL F lb rest b h
  |cons q g=>exact ve lb b<|bU (cS F) ps l
theorem Px(F:Fx):(∀e:E,pQ (FC F) e.t=(dr F e).t)/\∀l:qe E,gM (FC F) (E.C l)=E.C (mF F l):=
 E.J (P:=λe=>pQ (FC F) e.t=(dr F e).t) (Ps:=λl=>gM (FC F) (E.C l)=E.C (mF F l)) (λg=>dq) (λg=>dq) (λg=>dq)
  (λx e i=>by
   show GS F x (pQ (FC F) e.t)=(if bq F x then(if quiet F (dr F e)then E.u .e else if gf (dr F e)then .y [dr F e] (.u .e)else .F x (dr F e))else .F x (dr F e)).t
   rw[i];show xU (bq F x) (xU (ck F (dr F e).t) Xy<|xU (cH (dr F e).t) _ _) _=_;rw[(AU F).1,Bj];cases bq F x with
   |false=>rfl
   |true=>cases quiet F (dr F e)with
    |true=>rfl
    |false=>cases gf (dr F e)<;>rfl)
  (λg e i=>V5 i) (λa b c i j k=>nd3 i j k) (λl e i j=>(qh (λl=>FC F<|.A .y l)<|B9 _ _ [e.t]).trans (nds i j)) (λg l i=>ndl i)
  (λlb ps rest b l i j=>by
   show FC F (ip lb ps rest (pQ (FC F) b.t) (gM (FC F) (E.C l)))=(lF F lb ps rest (dr F b) (mF F l)).t;rw[i,j];exact KM)
  (λlb f j2 ps rest d b i j=>by
   show FC F (.A .h [.A (.a lb [f] (-1)) [pQ (FC F) b.t],.A (.a j2 ps rest) [pQ (FC F) d.t]])=(if bq F f&&!F.a f then dr F b else .H lb f j2 ps rest (dr F d) (dr F b)).t
   rw[i,j];show xU (xU (bq F f&&(!F.a f&&hY)) [(f,_)] []).isEmpty (xU (bq F f&&(!F.a f&&hY)) _ _) (uR lb (xU (!(bq F f&&(!F.a f&&hY))) [(f,_)] []) (dr F b).t)=_;rw[xn];cases bq F f&&!F.a f<;>rfl)
  (λg l i=>V1 dq i) (λl i=>V1 dq i) dq λe l i j=>by
   show pQ _ e.t::gM _ (E.C l)=(dr F e).t::E.C (mF F l);rw[i,j]
theorem vT{l m:qe qd}(h:(l++m).Nodup):l.Nodup:=h.sublist<|zm _ _
theorem Ay{l m:qe qd}(h:(l++m).Nodup):m.Nodup:=h.sublist<|Za _ _
theorem RI:(∀e:E,(bd e).Nodup->oM e.t)/\∀l:qe E,(lM l).Nodup->oK (E.C l):=
 E.J (P:=λe=>(bd e).Nodup->oM e.t) (Ps:=λl=>(lM l).Nodup->oK (E.C l)) (λa a=>⟨dq,oy⟩) (λa a=>⟨dq,oy⟩) (λa a=>⟨dq,oy⟩) (λa a i n=>⟨dq,i n,oy⟩) (λa a i n=>⟨dq,i n,oy⟩)
  (λa a a i j k n=>⟨dq,i<|vT (vT n),j<|Ay (vT n),k<|Ay n,oy⟩) (λl e i j n=>⟨List.append_ne_nil_of_right_ne_nil _<|xR _ _,mM.mpr ⟨i<|vT n,j<|Ay n,oy⟩⟩) (λa a i n=>⟨oy,i n⟩)
  (λa a a a a i j n=>⟨xR _ _,⟨⟨dq,vT<|vT (vT n)⟩,i<|Ay (vT n),oy⟩,j<|Ay n⟩) (λa f a ps rest d b i j n=>⟨xR _ _,⟨⟨dq,xi.mpr ⟨qX,Zn⟩⟩,j<|Ay (l:=[f]) (vT (l:=f::bd b) n),oy⟩,⟨⟨dq,vT<|vT (Ay (l:=f::bd b) n)⟩,i<|Ay (Ay (l:=f::bd b) n),oy⟩,oy⟩)
  (λa a i n=>⟨xR _ _,⟨dq,oy⟩,i n⟩) (λa i n=>⟨xR _ _,⟨dq,oy⟩,i n⟩) (λa=>oy) λa a i j n=>⟨i<|vT n,j<|Ay n⟩
theorem nn(h:a=b):a++[]=b:=(qO a).trans h
theorem Dn{α:Type}{a b c d:qe α}(h:a=b)(k:c=d):a++c=b++d:=by rw[h,k]
theorem Om:(∀e:E,Tn e.t=gZ e)/\∀l:qe E,rp (E.C l)=j9 l:=
 E.J (P:=λe=>Tn e.t=gZ e) (Ps:=λl=>rp (E.C l)=j9 l) (λf=>dq) (λf=>dq) (λf=>dq) (λf f i=>nn i) (λf f i=>nn i) (λa b c i j k=>(Dn i (Dn j (nn k))).trans (qR _ _ _).symm) (λl e i j=>(CP _ (E.C l) [e.t]).trans (Dn i (nn j))) (λf f i=>i)
  (λlb f f b l i j=>@Dn _ (lb::(Tn b.t++[])) (lb::gZ b) _ _ (qh (lb::·)<|nn i) j) (λlb f j2 f f d b i j=>@Dn _ (lb::(Tn b.t++[])) (lb::gZ b) _ _ (qh (lb::·)<|nn j) (nn (qh (j2::·)<|nn i))) (λf f i=>i) (λf i=>i) dq λf f i j=>Dn i j
theorem Hc:(∀e:E,LO e.t=bd e)/\∀l:qe E,n7 (E.C l)=lM l:=
 E.J (P:=λe=>LO e.t=bd e) (Ps:=λl=>n7 (E.C l)=lM l) (λg=>dq) (λg=>dq) (λg=>dq) (λg g i=>nn i) (λg g i=>nn i) (λa b c i j k=>(Dn i (Dn j (nn k))).trans (qR _ _ _).symm) (λl e i j=>(CP _ (E.C l) [e.t]).trans (Dn i (nn j))) (λg g i=>i)
  (λg ps rest b g i j=>@Dn _ (ps++rs rest++(LO b.t++[])) (ps++rs rest++bd b) _ _ (Dn dq<|nn i) j) (λg f g ps rest d b i j=>@Dn _ (f::(LO b.t++[])) (f::bd b) _ _ (qh (f::·)<|nn j)<|nn (@Dn _ (ps++rs rest) _ _ _ dq<|nn i)) (λg g i=>i) (λg i=>i) dq λg g i j=>Dn i j
theorem zn(h:a=b):0+a=b:=(vu a).trans h
theorem Jv{a b c d:qc}(h:a=b)(k:c=d):a+c=b+d:=by rw[h,k]
theorem Yy(x:qd):(∀e:E,VL x e.t=nA x e)/\∀l:qe E,yh x (E.C l)=mO x l:=
 E.J (P:=λe=>VL x e.t=nA x e) (Ps:=λl=>yh x (E.C l)=mO x l) (λd=>dq) (λd=>dq) (λd=>dq) (λd d i=>zn i) (λd d i=>zn i) (λa b c i j k=>zn ((Jv i (Jv j k)).trans (qT _ _ _).symm)) (λl e i j=>zn ((CQ _ (E.C l) [e.t]).trans (Jv i j))) (λd d i=>zn i)
  (λd d d d d i j=>zn<|Jv (zn i) j) (λd d d d d d d i j=>zn<|Jv (zn j) (zn i)) (λd d i=>zn<|Jv dq i) (λd i=>zn<|zn i) dq λd d i j=>Jv i j
theorem XQ(x:qd):(∀e:E,VF x e.t=fK x e)/\∀l:qe E,wZ x (E.C l)=f6 x l:=
 E.J (P:=λe=>VF x e.t=fK x e) (Ps:=λl=>wZ x (E.C l)=f6 x l) (λd=>dq) (λd=>dq) (λd=>dq) (λd d i=>Jv dq i) (λd d i=>zn i) (λa b c i j k=>zn ((Jv i (Jv j k)).trans (qT _ _ _).symm)) (λl e i j=>zn ((CQ _ (E.C l) [e.t]).trans (Jv i j))) (λd d i=>zn i)
  (λd d d d d i j=>zn<|Jv (zn i) j) (λd d d d d d d i j=>zn<|Jv (zn j) (zn i)) (λd d i=>zn<|zn i) (λd i=>zn<|zn i) dq λd d i j=>Jv i j
def LV(env:u8)(Γ Φ:qe qd):Prop:=∀x,x∈Γ\/x∈Φ->∃fr∈env,x∈fr.2
theorem LV.J(h:LV env Γ Φ)(k:x∈fr.2\/x∈Γ\/x∈Φ):∃f∈fr::env,x∈f.2:=k.elim (λk=>⟨_,.head _,k⟩) λk=>(h x k).imp λa z=>⟨.tail _ z.1,z.2⟩
theorem LV.u(h:LV env Γ Φ)(lb:qd)(bs:qe qd):LV ((lb,bs)::env) (bs++Γ) Φ:=λx a=>h.J<|a.elim (λk=>(qY.mp k).imp id .inl) λk=>.inr<|.inr k
theorem LV.i(h:LV env Γ Φ)(lb f:qd):LV ((lb,[f]++rs (-1))::env) Γ (f::Φ):=λx a=>h.J<|a.elim (λk=>.inr<|.inl k) λk=>(qG.mp k).elim (λe=>.inl<|e▸.head _) λk=>.inr<|.inr k
theorem RY(h:Hm l env)(k:Hm m env):Hm (l++m) env:=by
 induction l with
 |nil=>exact k
 |cons t l ih=>exact⟨h.1,ih h.2⟩
theorem M1:(∀(e:E) Γ Φ env,WS Γ Φ e->LV env Γ Φ->WZ e.t env)/\∀(l:qe E) Γ Φ env,oJ Γ Φ l->LV env Γ Φ->Hm (E.C l) env:=
 E.J (P:=λe=>∀Γ Φ env,WS Γ Φ e->LV env Γ Φ->WZ e.t env) (Ps:=λl=>∀Γ Φ env,oJ Γ Φ l->LV env Γ Φ->Hm (E.C l) env) (λd d d d d d=>⟨oy,oy⟩) (λx d d d w i=>⟨i x (.inl w),oy⟩) (λd d d d d d=>⟨oy,oy⟩)
  (λx d a Γ Φ env w i=>⟨i x<|.inl w.1,a Γ Φ env w.2 i,oy⟩) (λx d a Γ Φ env w i=>⟨oy,a Γ Φ env w.2 i,oy⟩) (λd d d a b c Γ Φ env w i=>⟨oy,a Γ Φ env w.1 i,b Γ Φ env w.2.1 i,c Γ Φ env w.2.2 i,oy⟩) (λd d a b Γ Φ env w i=>⟨oy,RY (a Γ Φ env w.1 i) ⟨b Γ Φ env w.2 i,oy⟩⟩) (λd d a Γ Φ env w i=>⟨oy,a Γ Φ env w.2 i⟩)
  (λlb ps rest d d a b Γ Φ env w i=>⟨oy,⟨oy,a _ Φ _ w.1<|i.u lb (ps++rs rest),oy⟩,b Γ Φ env w.2 i⟩) (λlb f j2 ps rest d d a b Γ Φ env w i=>⟨oy,⟨oy,b Γ _ _ w.1<|i.i lb f,oy⟩,⟨oy,a _ Φ _ w.2<|i.u j2 (ps++rs rest),oy⟩,oy⟩)
  (λf d a Γ Φ env w i=>⟨oy,⟨i f<|.inr w.1,oy⟩,a Γ Φ env w.2 i⟩) (λd a Γ Φ env w i=>⟨oy,⟨oy,oy⟩,a Γ Φ env w i⟩) (λd d d d d=>oy) λd d a b Γ Φ env w i=>⟨a Γ Φ env w.1 i,b Γ Φ env w.2 i⟩
structure Ai(μ:Mu)(e:E):Prop where
 p:Pr e
 o:iE μ 100 e.t
section
variable{ad:qe U}{μ:Mu}{e:E}
theorem Ai.G(h:Ai μ e)(le:jj μ bS):Ai bS e:=⟨h.p,h.o.G le⟩
theorem Ai.i(h:Ai μ e):Ai μ (cp (cY e) e):=⟨h.p.i,(PE<|cY e).1 e _ _ h.p.d h.p.j (we e)▸nQ CD _ h.o⟩
theorem Ai.k(h:Ai μ e):Ai μ (dr (cY e) e):=⟨h.p.k,(Px<|cY e).1 e▸nQ CC _ h.o⟩
theorem Ai.b(h:Ai μ e)(q:∀fv,iF (cY e) fv->Q fv μ):aJ ad (n+3) (.r ⟨214⟩) [.A .F [e.t.u]] Q X μ:=
 EN h.o.s (qi (Nat.mul_le_mul (qF (x0 2 h.o.z) 4) h.o.z) (by decide)) (M1.1 e [] [] [] h.p.d λa z=>z.elim (λz=>nomatch z) λz=>nomatch z) (Om.1 e▸h.p.f) (Hc.1 e▸h.p.b) λfv f=>q fv (by
  rw[show(⟨λx=>VL x e.t,λx=>decide (0<VF x e.t)⟩:Fx)=cY e by
   unfold cY;rw[show(λx=>VL x e.t)=λx=>nA x e from funext λx=>(Yy x).1 e,show(λx=>decide (0<VF x e.t))=λx=>decide (0<fK x e)from funext λx=>by rw[(XQ x).1 e]]]at f
  exact f)
theorem KV(h:Ai μ e)(q:Q (Internal.cp (cY e) e).t.u μ):d3 (n+6) (.r ⟨160⟩) [e.t.u] Q X μ:=by
 refine aC (fn:=EP) dq dq<|h.b λfv f=>?_;refine rQ (GK (μ:=μ) (B:=100) CD (by decide)) (λhd k a Q X b le q=>CX f (B:=100) (by decide) (uV CD<|a.G le) q) h.o (GY h.o (by decide))<|.j ?_
 rw[(PE<|cY e).1 e _ _ h.p.d h.p.j (we e)];exact q
theorem GR(h:Ai μ e)(q:Q (Internal.dr (cY e) e).t.u μ):d3 (n+6) (.r ⟨191⟩) [e.t.u] Q X μ:=by
 refine aC (fn:=Br) dq dq<|h.b λfv f=>?_;refine rQ (GK (μ:=μ) (B:=100) CC (by decide)) (λhd k a Q X b le q=>CV f (B:=100) (by decide) (uV CC<|a.G le) q) h.o (GY h.o (by decide))<|.j ?_
 rw[(Px<|cY e).1 e];exact q
end
abbrev Mi:=qd⊕qd
def mU(x:Mi):U:=@Sum.casesOn qd qd (λa=>U) x (λx=>.j x) λl=>.A .H [.z .x,.j l]
noncomputable abbrev iB(xs:qe qd):qe Mi:=xs.map Sum.inl
def hI(h:Hd):qe Mi:=@Hd.casesOn (λa=>qe Mi) h (λa=>[]) (λa=>[]) (λa=>[]) (λa=>[]) (λa=>[]) [] (λlb ps rest=>.inr lb::iB (ps++rs rest)) [] [] λa=>[]
def wI:T->qe Mi:=fT (λh b s=>hI h++s) [] λb b a s=>a++s
def FL:qe T->qe Mi:=fL (λh b s=>hI h++s) [] λb b a s=>a++s
section
variable{ad:qe U}{n N:qc}{Q:UQ}{X:Mu->Prop}{μ:Mu}{mt:qc}{C:be}{ρ:UL}{h:Hd}{l:qe T}{t:T}{m it W R:qe Mi}{known xs:qe qd}{env:u8}{x:Mi}{y:qd}
theorem abd(a b:qd):BM μ eU (.A .H [.z .x,.j a]) (.A .H [.z .x,.j b]) (a==b):=by
 have k:BM μ eU (.A .H [.z .x,.j a]) (.A .H [.z .x,.j b]) (((hY&&((a==b)&&hY)))&&hY):=oG.H ⟨λj=>@Nat.rec (λc=>qw) hY (λc c=>a==b) j,⟨λj x y=>(by
  cases j with
  |zero=>exactλh k=>by cases h;cases k;exact oG.o
  |succ j=>cases j with
   |zero=>exactλh k=>by cases h;cases k;exact oG.c
   |succ=>exactλh=>nomatch h),dq⟩⟩
 rwa [xn,xn,ahI]at k
theorem Hb{a b:qd}(h:a≠b):(a==b)=np:=xN h
theorem aef{w x:Mi}(h:x≠w):canon (mU w)/\BM μ eU (mU w) (mU x) np:=by
 cases w with
 |inl a=>cases x with
  |inl b=>exact⟨oy,Hb (λe:a=b=>h<|e▸dq)▸(oG.c:BM μ eU (.j a) (.j b) (a==b))⟩
  |inr b=>exact⟨oy,oG.w⟩
 |inr a=>cases x with
  |inl b=>exact⟨oy,oG.q⟩
  |inr b=>exact⟨oy,Hb (λe:a=b=>h<|e▸dq)▸abd a b⟩
theorem ab0{E:Prop}{x:Mi}(e:E)(m:qe Mi):∀{K:qw->Prop},x∉m->K np->Fj E (mU x) (m.map mU) K:=by
 induction m with
 |nil=>exactλd q=>q
 |cons w m ih=>
  intro K h q;show eqK (mU w) (mU x) E λb=>Fj E (mU x) (m.map mU) λc=>K<|b||c;have h1:x≠w:=λz=>h<|z▸.head _;have h2:x∉m:=λz=>h<|.tail _ z;cases x with
  |inr a=>cases w<;>exact e
  |inl a=>cases w with
   |inr b=>exact e
   |inl b=>
    show Fj E (.j a) (m.map mU) λc=>K<|(b==a)||c;rw[Hb λe:b=a=>h1<|e▸dq];exact ih h2 q
theorem Wj{K:qw->Prop}(h:x∉m)(q:K np):S9 (mU x) (m.map mU) μ K:=
 ab0 ⟨λa=>np,λw c=>(xf.mp c).elim λy b=>b.2▸aef λe=>h<|e▸b.1,by rw[aaC.mpr λa a=>qB];exact q⟩ m h q
theorem U4{E:Prop}(xs:qe qd):∀{K:qw->Prop},K (decide (y∈xs))->Fj E (.j y) (bK xs) K:=by
 induction xs with
 |nil=>exact id
 |cons z xs ih=>
  intro K q;refine ih (K:=λc=>K<|(z==y)||c) ?_;rw[show((z==y)||decide (y∈xs))=decide (y∈z::xs)by rw[Zj,Zi,zK,zw,zw,qG,eq_comm (a:=z)]]
  exact q
theorem IP{cy:qe U->(qk U->Mu->Prop)->Mu->Prop}{Q:rj}(fu:qe (qe U)->Mu->Prop)(h0:∀μ,fu [] μ->Q [] μ)(h1:∀vs l μ,fu (vs::l) μ->∀K:qk U->Mu->Prop,(∀μ,fu l μ->K ft μ)->cy vs K μ)(l:qe (qe U)):∀μ,fu l μ->dF cy l [] Q μ:=by
 induction l with
 |nil=>exactλμ h=>by rw[eX];exact h0 μ h
 |cons vs l ih=>exactλμ h=>by rw[dD];exact h1 vs l μ h _ ih
theorem aaZ(s:oM t)(q:Q (.q np) μ):Kk [.lY] t.u Q μ:=T.p (P:=λt=>Kk [.lY] t.u Q μ) (λa=>q) (λa=>q) (λa=>q) (λa a=>q) (λa a=>q) (λa a a=>q) (λa a a a=>q) (λa a=>q) (λa a=>q) (λa a=>q) t s
abbrev Dr:iH:=bC<|bC gj.a
abbrev Ds:iH:=bC<|bC (bC Dr)
theorem YY{c:UQ}{Xs P:ce}(s:oM (.A h l))(ok:GH env h)(d:∀fr∈env,∀x∈fr.2,x∈known)(e1:ρ .f=dA (T.A h l).u)(e2:ρ .kR=dA (.A .F (bK known)))(q:bZ ad C (bC Ds) c Xs P ρ μ):bZ ad C Ds c Xs P ρ μ:=
 have num:∀{y:qd},(∃fr∈env,y∈fr.2)->SZ (.j y) (.A .F<|bK known) μ λb=>Jj (λμ=>c (.q np) μ) (λμ=>bZ ad C (bC Ds) c Xs P ρ μ) (.q !b) μ:=λ{y} k=>U4 known (K:=λb=>Jj (λμ=>c (.q np) μ) (λμ=>bZ ad C (bC Ds) c Xs P ρ μ) (.q !b) μ) (by rw[decide_eq_true (k.elim λfr h=>d fr h.1 y h.2)];exact q)
 T.p (P:=λt=>@T.casesOn (λa=>Prop) t λh l=>GH env h->ρ .f=dA (T.A h l).u->bZ ad C Ds c Xs P ρ μ) (λa a e=>ac e q) (λa k e=>ac e (ac e (ac e2 (num k)))) (λa a e=>ac e q) (λa a k e=>ac e (ac e (ac e2 (num k)))) (λa a a e=>ac e q)
  (λa a a a e=>ac e q) (λa a a a a e=>ac e q) (λa a a e=>ac e q) (λa a a e=>ac e q) (λa a a e=>ac e q) (.A h l) s ok e1
end
def Qf(ad:qe U)(N:qc):Prop:=∀(t:T),sz t<=N->∀{mt:qc} {known:qe qd} {m R W:qe Mi} {env:u8} {Q:UQ} {X:Mu->Prop} {μ:Mu},oM t->WZ t env->(∀fr∈env,∀x∈fr.2,x∈known)->known.length<=m.length->W.Nodup->W.length<eC->m++(wI t++R)=W->μ mt=dA ⟨np,.F,m.map mU⟩->
 Q (.q hY) (μ.H mt ⟨np,.F,(m++wI t).map mU⟩)->aJ ad (N+1) (.r .c8) [t.u,.A .F<|bK known,.d mt] Q X μ
section
variable{ad:qe U}{N:qc}{Q:UQ}{X:Mu->Prop}{μ:Mu}{mt:qc}{l:qe T}{t:T}{m W R:qe Mi}{known:qe qd}{env:u8}{x:Mi}
theorem Cm{E:U->U->qw->Prop}:Hp E [] [] hY:=⟨λa=>hY,⟨λa a a h=>(by cases h),dq⟩⟩
theorem SY(xs:qe qd):(iB xs).map mU=bK xs:=xP ..
theorem Of(xs:qe qd):(iB xs).length=xs.length:=qI ..
theorem Tq(c:∀fr∈env,∀x∈fr.2,x∈known):∀fr∈rq h env,∀x∈fr.2,x∈known++Am h:=
 Ez (P:=λfr=>∀x∈fr.2,x∈known++Am h) (λfr b x a=>qx _<|c fr b x a) λlb ps rest e x a=>qJ _<|e▸a
inductive PtI(W R:qe Mi)(l:qe T)(mt:qc)(k:qc)(j4:Mu)(its:qe (qe U))(μ:Mu):Prop
 |mk{m l2}(ei:its=fF (us l2))(em:μ=j4.H mt ⟨np,.F,m.map mU⟩)(sub:∀t∈l2,t∈l)(e:m++(FL l2++R)=W)(le:k<=m.length):PtI W R l mt k j4 its μ
theorem AK(hN:N<eC)(ih:Qf ad N)(a:oM (.A h l))(hd:ku l<=N)(ok:GH env h)(sc:Hm l (rq h env))(o:∀fr∈env,∀x∈fr.2,x∈known)(j:known.length<=it.length)(nd:W.Nodup)(len:W.length<eC)(c:it++(iB (Am h)++(FL l++R))=W)(f:μ mt=dA ⟨np,.F,it.map mU⟩)
  (e1:ρ .f=dA (T.A h l).u)(e2:ρ .kR=dA (.A .F<|bK known))(e3:ρ .o7=dA (.d mt))(e4:ρ .dC=dA (.A .F<|bK (Am h)))(q:Q (.q hY) (μ.H mt ⟨np,.F,(it++(iB (Am h)++FL l)).map mU⟩)):bZ ad (aJ ad<|N+1) Dr (cD Wk Q) (λd=>X) (λd=>cD Wk Q .u) ρ μ:=by
 have r:it.length+((Am h).length+((FL l).length+R.length))=W.length:=by rw[←c,qs,qs,qs,Of]
 have l1:it.length+(Am h).length<eC:=qi (by rw[←r,←qT];exact qj _ _) len
 have s:l.length<eC:=qi (qg (j1 l) hd) hN;refine ac e1<|aaZ a (ac e4 ?_);refine IP (λits bS=>bS=μ/\∃ys,its=fF (bK ys)/\∀y∈ys,y∈Am h) (λbS i=>?_) (λvs its bS i K g=>?_) _ μ ⟨dq,Am h,dq,λd h=>h⟩
 ·rw[i.1];refine⟨hY,.F dq Cm,?_⟩;refine ac e3<|bF f (ac e4 ⟨f,?_,?_⟩)
  ·rw[qI,dU];exact gY l1
  ·rw[←SY,←xj];refine YY a ok o e1 e2<|ac e1 (oX a s ?_);refine IP (PtI W R l mt (known.length+(Am h).length) μ) (λbS i=>i.rec λ{m l2} b em sub e k=>?_) (λvs its bS i K g=>i.rec λ{m l2} b em sub e k=>?_) _ _<|.mk dq dq (λd h=>h) (by rw[qR];exact c) (by rw[qs,Of];exact qF j _)
   ·cases l2 with
    |cons=>cases b
    |nil=>
     have e:m++R=W:=e;refine⟨hY,.F dq Cm,.j ?_⟩;rw[em,show m=it++(iB (Am h)++FL l)from List.append_cancel_right<|e.trans (by rw[←c,qR,qR])]
     exact q
   ·cases l2 with
    |nil=>cases b
    |cons t l2=>
     cases b;have p:bS mt=dA ⟨np,.F,m.map mU⟩:=em▸aE _ _ _;have e:m++((wI t++FL l2)++R)=W:=e;rw[qR]at e;refine ac (ρ:=ρ.H _ _) e2<|ac (ρ:=ρ.H _ _) e4 ⟨?_,ac (ρ:=ρ.H _ _) e3 ?_⟩
     ·rw[dU,dU];exact gY<|qi (qF j _) l1
     ·rw[←mf];refine ih t (qg (HE (sub t (.head _))) hd) (DY a.2 (sub t (.head _))) (HP sc (sub t (.head _))) (Tq o) (by rw[qs];exact k) nd len e p (g _ (.mk (m:=m++wI t) dq ?_ (λt h=>sub t (.tail _ h)) (by rw[qR];exact e) (by rw[qs];exact qg k (qj _ _))))
      rw[em,eP]
 ·obtain⟨i1,ys,i2,n⟩:=i;cases ys with
  |nil=>cases i2
  |cons y ys=>
   cases i2;refine ac (ρ:=ρ.H _ _) e3<|bF (by rw[i1];exact f) (Wj (x:=.inl y) (λz=>?_)<|g _ ⟨i1,ys,dq,λy h=>n y<|.tail _ h⟩)
   rw[←c]at nd;exact(xp.mp nd).2.2 _ z _ (qx _<|zg (n y<|.head _)) dq
noncomputable def Ks(s:Sm):iH:=@Sm.casesOn (λc=>iH) s (λc c=>.t) (λc c c=>.t) (λc c c=>.t) (λc c c=>.t) (λc c c c=>.t) (λc=>.t) (λc a c=>a) (λc b=>b) (λc c b=>b) (λc=>.t) .t λb c c c c=>b
theorem Q4(N:qc)(hN:N<eC):Qf ad N:=by
 induction N with
 |zero=>exactλt c=>qH (q9 (uA t) c)<|xr _
 |succ N ih=>
  intro t c mt known m R W env Q X μ d sc n j nd len e f q;have ih:=ih<|zb hN;refine aC (fn:=gj) dq dq ?_
  have no:∀hd l,hI hd=[]->Am hd=[]->oM (.A hd l)->sz (.A hd l)<=N+1->WZ (.A hd l) env->m++(wI (.A hd l)++R)=W->Q (.q hY) (μ.H mt ⟨np,.F,(m++wI (.A hd l)).map mU⟩)->
    bZ ad (aJ ad<|N+1) Dr (cD Wk Q) (λa=>X) (λa=>cD Wk Q .u) ((((UL.H (λa=>ft) .f (T.A hd l).u).H .kR (.A .F<|bK known)).H .o7 (.d mt)).H .dC (.A .F [])) μ:=λhd l o i d c sc e q=>by
   have e:m++((hI hd++FL l)++R)=W:=e;have q:Q (.q hY) (μ.H mt ⟨np,.F,(m++(hI hd++FL l)).map mU⟩):=q;rw[o]at e q;exact AK (zb hN) ih (it:=m) d (ajR<|q9 (iS hd l) c) sc.1 sc.2 n j nd len (by rw[i];exact e) f dq dq dq (by rw[i];rfl) (by rw[i];exact q)
  refine T.p (P:=λt=>oM t->sz t<=N+1->WZ t env->m++(wI t++R)=W->Q (.q hY) (μ.H mt ⟨np,.F,(m++wI t).map mU⟩)->bZ ad (aJ ad (N+1)) gj.a (cD Wk Q) (λa=>X) (λa=>cD Wk Q .u) (((UL.H (λa=>ft) .f t.u).H .kR (.A .F (bK known))).H .o7 (.d mt)) μ)
   (λa=>no _ _ dq dq) (λa=>no _ _ dq dq) (λa=>no _ _ dq dq) (λa a=>no _ _ dq dq) (λa a=>no _ _ dq dq) (λa a a=>no _ _ dq dq) (λlb ps rest b d c sc e q=>?_) (λa a=>no _ _ dq dq) (λa a=>no _ _ dq dq) (λa a=>no _ _ dq dq) t d d c sc e q
  have e:m++((ad0 lb::iB (ps++rs rest))++FL [b]++R)=W:=e;have k:(m++[ad0 lb])++(iB (ps++rs rest)++(FL [b]++R))=W:=by rw[←e,qR,qR];rfl
  have l1:m.length+1+(ps++rs rest).length<eC:=qi (by rw[←k,←qR,qs (as:=m++[ad0 lb]++_),qs (as:=m++[ad0 lb]),qs (as:=m),Of];exact qj _ _) len
  have g:ad0 lb∉m:=λz=>by
   rw[←e]at nd;exact(xp.mp nd).2.2 _ z _ (.head _) dq
  have go:∀bS,bS=μ.H mt ⟨np,.F,(m++[ad0 lb]).map mU⟩->bZ ad (aJ ad (N+1)) Dr (cD Wk Q) (λa=>X) (λa=>cD Wk Q .u) ((((UL.H (λa=>ft) .f (T.A (.a lb ps rest) [b]).u).H .kR (.A .F (bK known))).H .o7 (.d mt)).H .dC (.A .F (bK ps++bK (rs rest)))) bS:=λbS em=>by
   rw[←mf];refine AK (zb hN) ih (it:=m++[ad0 lb]) d (ajR<|q9 (iS _ _) c) sc.1 sc.2 n (by rw[qs];exact xl j) nd len k (em▸aE _ _ _) dq dq dq dq ?_
   rw[em,eP,qR];exact q
  have l2:(bK ps).length+(bK (rs rest)).length<aH:=by
   rw[dU,dU,←qs];exact gY<|qi (qr _ _) l1
  have fin:∀ρ,ρ=(((UL.H (λa=>ft) .f (T.A (.a lb ps rest) [b]).u).H .kR (.A .F (bK known))).H .o7 (.d mt)).H .dC (.A .F (bK ps++bK (rs rest)))->bZ ad (aJ ad (N+1)) (bC (Ks (kg (bC gj.a)))) (cD Wk Q) (λa=>X) (bZ ad (aJ ad (N+1)) Dr (cD Wk Q) (λa=>X) λa=>cD Wk Q .u) ρ μ:=λρ er=>by
   rw[er];refine bF f<|Wj (x:=.inr lb) g (mA f<|sR f ?_ (go _ (by rw[xj];rfl)))
   rw[qI];exact gY<|qi (qj _ _) l1
  refine b7 (b:=decide<|rest>=0) (λh=>?_) λh=>?_
  ·rw[show rs rest=[rest]from qK<|qC h]at l2 fin;exact⟨l2,fin _ dq⟩
  ·rw[show rs rest=[]from if_neg<|xG h]at l2 fin;exact⟨l2,fin _ dq⟩
end
abbrev Ig:U:=.A .F [.z .fj]
def vU(v:V):U:=@V.rec (λc=>U) (λk=>k.u) (λc c n a b=>.A .F [.z .nG,a,b,.j n]) v
def uB(s:SV):U:=@SV.rec (λc=>U) (λb=>.A .H [.z ⟨143⟩,.q b]) (λi=>.A .H [.z ⟨146⟩,.j i]) (.A .H [.z ⟨81⟩]) (.A .H [.z .ja]) (λa=>.d a) (λc c a b=>.A .H [.z .nG,a,b]) (λi=>.j i) s
def lN(μ:Mu)(v:V):Prop:=@V.rec (λc=>Prop) (λk=>Ao μ k) (λc c c a b=>a/\b) v
def LS(μ:Mu)(s:SV):Prop:=@SV.rec (λc=>Prop) (λc=>xT) (λc=>xT) xT xT (λa=>Ao μ<|.y a) (λc c a b=>a/\b) (λc=>xT) s
section
variable{ad:qe U}{n:qc}{μ:Mu}{v:V}{k:K}
theorem nj(v:V):lN aB v->LS aB (dO v):=by
 induction v with
 |B k=>cases k<;>exact id
 |e a b n i j=>exactλh=>⟨i h.1,j h.2⟩
theorem ya(le:jj aB μ)(tx:Ao aB k)(q:Q (uB (oi k)) μ):aJ ad (n+1) (.r .a8) [k.u] Q X μ:=by
 refine aC (fn:=jz) dq dq ?_;induction k with
 |y a=>exact(Ao.G le tx).elim λb h=>h.elim λb h=>h.elim λb h=>⟨h,⟨h,.j q⟩⟩
 |_=>exact .j q
theorem sQ(v:V):∀{n:qc} {Q:UQ},vd v<=n->jj aB μ->lN aB v->Q (uB (dO v)) μ->aJ ad (n+1) (.r .a8) [vU v] Q X μ:=by
 induction v with
 |B k=>exactλd le tx q=>ya le tx q
 |e a b m i j=>
  intro n Q c le tx q;cases n with
  |zero=>exact qH c<|zr _
  |succ n=>
   have c:max (vd a) (vd b)<=n:=zV c;exact aC (fn:=jz) dq dq<|i (qg (xK _ _) c) le tx.1 (j (qg (xL _ _) c) le tx.2<|.j q)
noncomputable def isL(v:V):qw:=@V.casesOn (λa=>qw) v (λa=>np) λa a a=>hY
theorem uU(le:jj aB μ)(tx:lN aB v)(q:Q (.q (isL v)) μ):Kk [.B] (vU v) Q μ:=by
 induction v with
 |B k=>induction k with
  |y a=>exact(Ao.G (k:=.y a) le tx).elim λb h=>h.elim λb h=>h.elim λb h=>⟨h,q⟩
  |_=>exact q
 |_=>exact q
theorem OM(le:jj aB μ)(tx:lN aB v)(q:Q (.q (@V.casesOn (λb=>qw) v (λk=>@K.casesOn (λb=>qw) k (λb=>np) (λb=>hY) np np λb=>np) (λb b b=>np))) μ):Kk [.gX] (vU v) Q μ:=by
 induction v with
 |B k=>induction k with
  |y a=>exact(Ao.G (k:=.y a) le tx).elim λb h=>h.elim λb h=>h.elim λb h=>⟨h,q⟩
  |_=>exact q
 |_=>exact q
end
section
variable{ad:qe U}
theorem MB(h:a=[]\/b=[]):BM μ eU (.A .H (.z t::a)) (.A .H (.z t'::b)) ((decide (t=t')&&hY)&&(a.length+1==b.length+1)):=
 oG.H ⟨λc=>decide (t=t'),⟨λj x y=>(by
  cases j with
  |zero=>exactλh k=>by cases h;cases k;exact oG.o
  |succ j=>exactλe f=>h.elim (λz=>(by rw[z]at e;exact nomatch e)) λz=>(by rw[z]at f;exact nomatch f)),by
  have e:min (a.length+1) (b.length+1)=1:=h.elim (λz=>by rw[z];exact Nat.min_eq_left<|qN (qP _)) λz=>by rw[z];exact Nat.min_eq_right<|qN (qP _)
  show(zL (min (a.length+1) (b.length+1))).all _=_;rw[e];rfl⟩⟩
theorem tag_1(h:BM μ 199 x y r):BM μ eU (.A .H [.z t,x]) (.A .H [.z t',y]) ((decide (t=t')&&(r&&hY))&&hY):=
 oG.H ⟨λj=>@Nat.rec (λa=>qw) (decide (t=t')) (λa a=>r) j,⟨λj x y=>(by
  cases j with
  |zero=>exactλh k=>by cases h;cases k;exact oG.o
  |succ j=>cases j with
   |zero=>exactλe f=>by cases e;cases f;exact h
   |succ=>exactλh=>nomatch h),dq⟩⟩
theorem dK:decide (K.j a=K.j b)=((hY&&((a==b)&&hY))&&hY):=by
 rw[xn,xn,ahI,Zj,zw,zK];exact⟨λh=>by cases h;rfl,λh=>qh _ h⟩
theorem dT(h:a≠b):decide (K.y a=K.y b)=np:=xN λe=>h (by cases e;rfl)
theorem Ys(tx:Ao μ k)(d:Ao μ k'):BM μ eU (uB (oi k)) (uB (oi k')) (decide (k=k')):=by
 induction k with
 |j i=>induction k' with
  |j j=>exact dK▸tag_1 .c
  |q j=>exact tag_1 (r:=i==UX j) .v
  |y=>exact d.elim λc h=>h.elim λc h=>h.elim λc h=>.k h
  |_=>exact MB<|.inr dq
 |q i=>induction k' with
  |j j=>exact tag_1 (r:=UX i==j) .t
  |q j=>
   have h:BM μ eU (uB<|oi (.q i)) (uB<|oi (.q j)) _:=tag_1 (r:=i==j) .g;cases i<;>cases j<;>exact h
  |y=>exact d.elim λc h=>h.elim λc h=>h.elim λc h=>.k h
  |_=>exact MB<|.inr dq
 |y a=>exact tx.elim λc h=>h.elim λc h=>h.elim λc h=>(by
   induction k' with
   |y b=>exact d.elim λc h'=>h'.elim λc h'=>h'.elim λc h'=>(by
     by_cases e:a=b
     ·rw[←e,decide_eq_true dq];exact .y h
     ·rw[dT e];exact .u e h h')
   |_=>exact .p h)
 |_=>induction k' with
  |y=>exact d.elim λc h=>h.elim λc h=>h.elim λc h=>.k h
  |_=>exact MB<|.inl dq
theorem afC{K:qw->Prop}(h:BM μ eU (uB (oi k)) (uB (oi k')) b)(q:K b):eqU (uB (oi k)) (uB (oi k')) μ K:=by
 cases k<;>exact⟨b,h,q⟩
theorem M4(le:jj aB μ)(c:lN aB a)(tb:lN aB b)(q:Q (.q (same a b)) μ):aJ ad (n+2) (.r ⟨235⟩) [vU a,vU b] Q X μ:=by
 refine aC (fn:=tS) dq dq<|uU le c ?_;induction a with
 |B k=>
  refine uU le tb ?_;induction b with
  |B k'=>exact ya le c (ya le tb (afC (Ys (Ao.G le c) (Ao.G le tb)) (K:=λb=>cD Wk Q (.q b) μ) (.j q)))
  |e=>exact uU (v:=.B k) le c<|cD.j q
 |e g f m=>
  refine uU le tb ?_;induction b with
  |B k'=>exact cD.j q
  |e b1 b2 d=>
   have q:Q (.q<|m==d) μ:=q;rw[show(m==d)=((m:qd)==(d:qd))by rw[aeu,Zj,zw,zK]]at q
   refine b7 (b:=(m:qd)==(d:qd)) (λe=>?_) λe=>?_
   ·rw[e]at q;exact .j q
   ·rw[e]at q;exact .j q
end
structure Ad where
 l:qc
 C:qc
 m:qc
 Y:U
def sdN:qe Nm:=[.E,⟨75⟩,⟨142⟩,⟨192⟩,⟨116⟩,.fB]
abbrev Wm:=qc->qk (qc⊕U)
noncomputable def Wm.H(w:Wm)(a:qc)(x:qc⊕U):Wm:=λb=>if b=a then dA x else w b
def An(w w':Wm):Prop:=∀a x,w a=dA x->w' a=dA x
def cont(sg:Sg)(x:qc⊕U):U:=@Sum.casesOn qc U (λa=>U) x (λi=>vU<|cellOf sg i) λu=>u
def QI(p:qd×SV):U:=.A .H [.j p.1,uB p.2]
def VJ(A:Ad)(sg:Sg)(er:U):Mc:=⟨np,.j sdN,[.j (5000-(sg.e:qd)),.j (sg.d:qc),.d A.C,.d A.m,er,A.Y]⟩
def IL(sg:Sg):Mc:=⟨np,.d [1,2,4],[vU sg.y,vU sg.z,Ig]⟩
noncomputable def Dm(u:U):Mc:=⟨np,.F,[u]⟩
def dS(s:SV):qc:=@SV.rec (λc=>qc) (λc=>0) (λc=>0) 0 0 (λc=>0) (λc c a b=>max a b+1) (λc=>0) s
theorem nX(v:V):dS (dO v)<=vd v:=by
 induction v with
 |B k=>cases k<;>exact qm _
 |e a b n i j=>exact qN<|zj.mpr ⟨qg i<|xK _ _,qg j<|xL _ _⟩
inductive LP:U->Prop
 |mk{ks vs}(h:∀w:Pw,Er ks vs w.f=dA (.z w.z)):LP (.A (.d ks) vs)
structure TxG(aB:Mu)(sg:Sg):Prop where
 c:∀v∈sg.c,lN aB v
 y:lN aB sg.y
 z:lN aB sg.z
 C:∀p∈sg.o,LS aB p.2/\dS p.2<=190
structure SR(A:Ad)(aB:Mu)(w:Wm)(sg:Sg)(er:U)(μ:Mu):Prop where
 I:jj aB μ
 l:μ A.l=dA (VJ A sg er)
 C:μ A.C=dA ⟨np,.F,sg.o.map QI⟩
 m:μ A.m=dA (IL sg)
 H:∀a x,w a=dA x->μ a=dA (Dm<|cont sg x)
 y:∀a i,w a=dA (.inl i)->i<sg.c.length
 inj:∀a b i,w a=dA (.inl i)->w b=dA (.inl i)->a=b
 O:aB A.l=ft
 F:aB A.C=ft
 P:aB A.m=ft
 W:∀a x,w a=dA x->aB a=ft
 L:w A.C=ft
 J:TxG aB sg
 Y:LP A.Y
theorem iz{μ:Mu}{a b:qc}{f g:qw}{h k:Uh}{l m:qe U}(e:μ a=dA ⟨f,h,l⟩)(c:μ b=dA ⟨g,k,m⟩)(n:h≠k):a≠b:=λz=>n<|qh Mc.h (qA<|(z▸e).symm.trans c)
theorem An.j(w:Wm):An w w:=λa a h=>h
theorem An.i(h:An w w')(k:An w' b):An w b:=λa x e=>k a x<|h a x e
theorem jX(w:Wm)(a:qc)(x:qc⊕U):w.H a x a=dA x:=qK dq
theorem v7(w:Wm)(x:qc⊕U)(h:b≠a):w.H a x b=w b:=if_neg h
theorem An.H(x:qc⊕U)(h:w a=ft):An w (w.H a x):=λb y e=>(v7 w x λz:b=a=>rk<|(z▸e).symm.trans h).trans e
section
variable{ad:qe U}{μ aB:Mu}{A:Ad}{w:Wm}{sg:Sg}{er:U}{a i:qc}{u:U}{v:V}{x:qc⊕U}
theorem SR.Z(S:SR A aB w sg er μ)(h:μ a=ft):w a=ft:=by
 cases e:w a with
 |none=>rfl
 |some x=>exact rk<|(S.H a x e).symm.trans h
theorem SR.B(S:SR A aB w sg er μ)(c:Mc)(h:w i=ft)(h1:A.l≠i)(h2:A.C≠i)(h3:A.m≠i)(h0:aB i=ft):SR A aB w sg er (μ.H i c):=
 {S with I:=S.I.B _ h0,l:=(ap _ _ h1).trans S.l,C:=(ap _ _ h2).trans S.C,m:=(ap _ _ h3).trans S.m,H:=λa x e=>(ap _ _ λz:a=i=>rk<|(z▸e).symm.trans h).trans (S.H a x e)}
theorem SR.G(S:SR A aB w sg er μ)(c:Mc)(h:μ i=ft):SR A aB w sg er (μ.H i c):=S.B c (S.Z h) (bz S.l h) (bz S.C h) (bz S.m h) (S.I.u h)
theorem SR.Yb{um:Sg}{er':U}(S:SR A aB w sg er μ)(e1:um.c=sg.c)(e2:um.y=sg.y)(e3:um.z=sg.z)(e4:um.o=sg.o):SR A aB w um er' (μ.H A.l (VJ A um er')):=
 {S with
  I:=S.I.B _ S.O,l:=aE _ _ _
  C:=(ap _ _ (iz S.C S.l λz=>nomatch z)).trans (e4▸S.C)
  m:=(ap _ _ (iz S.m S.l λz=>nomatch z)).trans (by unfold IL;rw[e2,e3];exact S.m)
  H:=λa x e=>(ap _ _ (iz (S.H a x e) S.l λz=>nomatch z)).trans (by rw[show cont um x=cont sg x by unfold cont cellOf;rw[e1]];exact S.H a x e)
  y:=λa i e=>e1▸S.y a i e
  J:=⟨e1▸S.J.c,e2▸S.J.y,e3▸S.J.z,e4▸S.J.C⟩}
theorem SR.r(S:SR A aB w sg er μ)(k:qc):SR A aB w {sg with r:=k} er μ:=⟨S.I,S.l,S.C,S.m,S.H,S.y,S.inj,S.O,S.F,S.P,S.W,S.L,⟨S.J.c,S.J.y,S.J.z,S.J.C⟩,S.Y⟩
theorem PK(h:i<sg.c.length):cellOf (eT v sg) i=cellOf sg i:=by
 show(sg.c++[v]).getD i un=sg.c.getD i un;rw[xy,xy,List.getElem?_append_left h]
theorem UG:cellOf (eT v sg) sg.c.length=v:=by
 show(sg.c++[v]).getD sg.c.length un=v;rw[xy,ahq];rfl
theorem SR.adR(S:SR A aB w sg er μ)(u:U)(h:μ i=ft):SR A aB (w.H i (.inr u)) sg er (μ.H i (Dm u)):=
 have d:=S.G (Dm u) h;have T:∀{b},b≠i->w.H i (.inr u) b=w b:=v7 w _
 {d with
  H:=λa x e=>by
   by_cases z:a=i
   ·rw[z,jX]at e;rw[z,aE,←qA e];rfl
   ·rw[T z]at e;exact d.H a x e
  y:=λa j e=>by
   by_cases z:a=i
   ·rw[z,jX]at e;cases e
   ·rw[T z]at e;exact S.y a j e
  inj:=λa b j e f=>by
   by_cases z:a=i
   ·rw[z,jX]at e;cases e
   ·by_cases c:b=i
    ·rw[c,jX]at f;cases f
    ·rw[T z]at e;rw[T c]at f;exact S.inj a b j e f
  W:=λa x e=>by
   by_cases z:a=i
   ·rw[z];exact S.I.u h
   ·rw[T z]at e;exact S.W a x e
  L:=(T (bz S.C h)).trans S.L}
theorem SR.K(S:SR A aB w sg er μ)(h:μ i=ft)(t:lN aB v):SR A aB (w.H i (.inl sg.c.length)) (eT v sg) er (μ.H i (Dm (vU v))):=
 have g:=S.G (Dm<|vU v) h;have T:∀{b},b≠i->w.H i (.inl sg.c.length) b=w b:=v7 w _
 {g with
  H:=λa x e=>by
   by_cases z:a=i
   ·rw[z,jX]at e;rw[z,aE,←qA e];show _=dA (Dm<|vU (cellOf (eT v sg) sg.c.length));rw[UG]
   ·rw[T z]at e
    rw[show cont (eT v sg) x=cont sg x by
     cases x with
     |inl j=>exact qh vU<|PK (S.y a j e)
     |inr=>rfl]
    exact g.H a x e
  y:=λa j e=>by
   show j<(sg.c++[v]).length;rw[qs];by_cases z:a=i
   ·rw[z,jX]at e;cases e;exact xS _
   ·rw[T z]at e;exact xW<|S.y a j e
  inj:=λa b j e f=>by
   by_cases z:a=i
   ·by_cases d:b=i
    ·exact z.trans d.symm
    ·rw[z,jX]at e;rw[T d]at f;cases e;exact qH (S.y b _ f)<|xr _
   ·rw[T z]at e;by_cases d:b=i
    ·rw[d,jX]at f;cases f;exact qH (S.y a _ e)<|xr _
    ·rw[T d]at f;exact S.inj a b j e f
  W:=λa x e=>by
   by_cases z:a=i
   ·rw[z];exact S.I.u h
   ·rw[T z]at e;exact S.W a x e
  L:=(T<|bz S.C h).trans S.L
  J:=⟨λv' k=>(qY.mp k).elim (S.J.c v') λz=>qD.mp z▸t,S.J.y,S.J.z,S.J.C⟩}
theorem SR.D1(S:SR A aB w sg er μ){c:qc}(hc:w a=dA (.inl c))(t:lN aB v):SR A aB w {sg with c:=sg.c.set c v} er (μ.H a (Dm (vU v))):=
 have ha:=S.H a _ hc
 {S with
  I:=S.I.B _ (S.W a _ hc)
  l:=(ap _ _ (iz S.l ha λz=>nomatch z)).trans S.l
  C:=(ap _ _ λz:A.C=a=>rk<|(z▸hc).symm.trans S.L).trans S.C
  m:=(ap _ _ (iz S.m ha λz=>nomatch z)).trans S.m
  H:=λb x e=>by
   by_cases z:b=a
   ·rw[z]at e;rw[z,aE,←qA (hc.symm.trans e)];show _=dA (Dm<|vU ((sg.c.set c v).getD c un));rw[xy,List.getElem?_set_self<|S.y a c hc];rfl
   ·rw[ap _ _ z,S.H b x e];cases x with
    |inr=>rfl
    |inl j=>
     show dA (Dm<|vU (sg.c.getD j un))=dA (Dm<|vU ((sg.c.set c v).getD j un));rw[xy,xy,List.getElem?_set_ne λq:c=j=>z<|S.inj b a j e (q▸hc)]
  y:=λb j e=>by show j<(sg.c.set c v).length;rw[akb];exact S.y b j e
  J:=⟨λv' d=>(ahD d).elim (S.J.c v') λz=>z▸t,S.J.y,S.J.z,S.J.C⟩}
theorem SR.o(S:SR A aB w sg er μ){g:qd}{s:SV}(t:LS aB s)(d:dS s<=190):SR A aB w {sg with o:=sg.o++[(g,s)]} er (μ.H A.C ⟨np,.F,sg.o.map QI++[QI (g,s)]⟩):=
 {S with
  I:=S.I.B _ S.F
  l:=(ap _ _ (iz S.l S.C λz=>nomatch z)).trans S.l
  C:=(aE _ _ _).trans (by rw[xj];rfl)
  m:=(ap _ _ (iz S.m S.C λz=>nomatch z)).trans S.m
  H:=λb x e=>(ap _ _ λz:b=A.C=>rk<|(z▸e).symm.trans S.L).trans (S.H b x e)
  J:=⟨S.J.c,S.J.y,S.J.z,λp a=>(qY.mp a).elim (S.J.C p) λz=>qD.mp z▸⟨t,d⟩⟩}
theorem SR.adC(S:SR A aB w sg er μ){v1 v2:V}(t1:lN aB v1)(t2:lN aB v2):SR A aB w {sg with y:=v1,z:=v2} er (μ.H A.m (IL {sg with y:=v1,z:=v2})):=
 {S with
  I:=S.I.B _ S.P
  l:=(ap _ _ (iz S.l S.m λz=>nomatch z)).trans S.l
  C:=(ap _ _ (iz S.C S.m λz=>nomatch z)).trans S.C
  m:=aE _ _ _
  H:=λb x e=>(ap _ _ (iz (S.H b x e) S.m λz=>nomatch z)).trans (S.H b x e)
  J:=⟨S.J.c,t1,t2,S.J.C⟩}
end
def rU(r:R):U:=@R.casesOn (λa=>U) r (λv=>vU v) λl=>.A .F<|.z .cB::l.map vU
def Ve(aB:Mu)(r:R):Prop:=@R.casesOn (λa=>Prop) r (λv=>lN aB v) λl=>(∀v∈l,lN aB v)/\l.length<eC
def mx(A:Ad)(aB:Mu){α β:Type}(cv:α->β)(P:α->Prop)(o:Ou α)(w:Wm)(Q:β->Mu->Prop)(X:Mu->Prop):Prop:=@Ou.casesOn α (λb=>Prop) o (λa sg=>∀μ w',An w w'->SR A aB w' sg .u μ->P a->Q (cv a) μ) λnm t sg=>∀μ w',An w w'->SR A aB w' sg (.A .H [.z nm,uB t]) μ->LS aB t->dS t<=190->X μ
section
variable{ad:qe U}{n:qc}{Q:UQ}{X:Mu->Prop}{μ aB:Mu}{C:be}{ρ:UL}{A:Ad}{w:Wm}{sg um:Sg}{er:U}{a i:qc}{u:U}{v:V}{l:qe U}{nm:Nm}{t:SV}{vs:qe V}
theorem mx.I{α β:Type}{cv:α->β}{Q:β->Mu->Prop}{P:α->Prop}{o:Ou α}{w':Wm}(E:mx A aB cv P o w Q X)(h:An w w'):mx A aB cv P o w' Q X:=by
 cases o with
 |c a sg=>exactλμ b l=>E μ b<|h.i l
 |b nm t sg=>exactλμ b l=>E μ b<|h.i l
theorem mx.q{α β γ δ:Type}{m:Mo α}{f:α->Mo β}{cv:α->γ}{P:α->Prop}{b:β->δ}{d:β->Prop}{Q:δ->Mu->Prop}{e:γ->Mu->Prop}(E:mx A aB b d (fy m f sg) w Q X)(k:∀a m9,m sg=.c a m9->∀μ c,An w c->SR A aB c m9 .u μ->P a->mx A aB b d (f a m9) c Q X->e (cv a) μ):mx A aB cv P (m sg) w e X:=by
 have E:mx A aB b d (match m sg with|.c a s=>f a s|.b w t s=>.b w t s) w Q X:=E
 revert E k;cases m sg with
 |c a m9=>exactλk E μ c l S p=>k a m9 dq μ c l S p<|E.I l
 |b=>exactλg E=>E
theorem T9(S:SR A aB w sg er μ)(q:∀bS,SR A aB w sg (.A .H [.z nm,u]) bS->X bS):aJ ad (n+1) (.r .bY) [.d A.l,.z nm,u] Q X μ:=
 aC (fn:=tU) dq dq ⟨S.l,by show 6+1<aH;decide,q _<|S.Yb dq dq dq dq⟩
theorem mX{α β:Type}{cv:α->β}{Q:β->Mu->Prop}{P:α->Prop}(S:SR A aB w sg .u μ)(E:mx A aB cv P (.b nm t sg) w Q X)(tx:LS aB t)(d:dS t<=190){b:UQ}:aJ ad (n+1) (.r .bY) [.d A.l,.z nm,uB t] b X μ:=T9 S λbS a=>E bS w (.j w) a tx d
theorem Cp(S:SR A aB w sg er μ)(hl:l.length<eC)(q:∀bS,SR A aB w {sg with d:=sg.d+1} er bS->(∀a,a≠A.l->bS a=μ a)->Q (.A .F (.z nm::l++[.j (sg.d+1:qc)])) bS):aJ ad (n+1) (.r .dI) [.d A.l,.z nm,.A .F l] Q X μ:=
 aC (fn:=tT) dq dq ⟨S.l,⟨S.l,by show 6+1<aH;decide,
  ⟨by show 1+l.length<aH;exact q9 (Zh hl 1) (by decide),⟨aE _ _ _,⟨by rw[qs];show 1+l.length+1<aH;exact q9 (aiE (Zh hl 1) 1) (by decide),.j (q _ (S.Yb (um:={sg with d:=sg.d+1}) dq dq dq dq) λa h=>ap _ _ h)⟩⟩⟩⟩⟩
theorem wa{R:UQ}{Xs P:ce}(S:SR A aB w sg .u μ)(a:ρ .k=dA (.d A.l))(hc:sg.e+1<=5000)(q:∀bS,SR A aB w {sg with e:=sg.e+1} .u bS->bZ ad C (bC (bC fR.a)) R Xs P ρ bS):bZ ad C fR.a R Xs P ρ μ:=by
 have e:(5000-(sg.e:qd)-1)=5000-((sg.e+1:qc):qd):=Int.sub_sub _ _ _;refine ac a<|bF S.l (ac a ⟨S.l,by show 6+1<aH;decide,ac a ⟨aE _ _ _,?_⟩⟩)
 have c:=S.Yb (um:={sg with e:=sg.e+1}) (er':=.u) dq dq dq dq
 unfold VJ at c;rw[show(5000-(({sg with e:=sg.e+1}:Sg).e:qd))=5000-(sg.e:qd)-1 from e.symm]at c
 refine b7 (b:=decide<|(5000-(sg.e:qd)-1)<0) (λh=>?_) λd=>q _ c;have:=qC h
 grind
theorem abH{b:qw}{A B:Prop}(e:b=np)(k:B):xU b A B:=by rw[e];exact k
theorem WH{b:qw}{A B:Prop}(e:b=hY)(k:A):xU b A B:=by rw[e];exact k
theorem iQ{x y:Nm}{a l:iH}{R:UQ}{Xs P:ce}(b:ρ .V=dA (.z y))(ne:decide (y=x)=np)(q:bZ ad C l R Xs P ρ μ):bZ ad C (.o (.v (.g .Eq (.s .V) (.t x)) a .t) l) R Xs P ρ μ:=ac b<|abH ne q
theorem oO{x:Nm}{a l:iH}{R:UQ}{Xs P:ce}(b:ρ .V=dA (.z x))(q:bZ ad C a R Xs (bZ ad C l R Xs P) ρ μ):bZ ad C (.o (.v (.g .Eq (.s .V) (.t x)) a .t) l) R Xs P ρ μ:=ac b<|WH (decide_eq_true dq) q
inductive LsI(A:Ad)(aB j4:Mu)(w:Wm)(sg:Sg)(er:U)(vs:qe V)(its:qe (qe U))(ρ:UL)(μ:Mu):Prop
 |mk{L Xj:qe V}{m9:Sg}{v:V}(ei:its=fF (L.map vU))(ev:vs=L.reverse++Xj)(em:mD Xj sg=.c v m9)(tx:lN aB v)(e1:ρ .fE=dA (vU v))(S:SR A aB w m9 er μ)(e2:ρ .k=dA (.d A.l))(fr:∀a,a≠A.l->μ a=j4 a):LsI A aB j4 w sg er vs its ρ μ
abbrev Y9:iH:=LZ<|kg (bC<|Ks (kg<|bC eI.a))
theorem Td{R:UQ}{Xs P:ce}{a:U}(b:ρ .o8=dA u)(e1:ρ .fE=dA a)(e2:ρ .k=dA (.d A.l))(q:C (.r .dI) [.d A.l,.z .nG,.A .F [u,a]] (y8 .fE ρ P) (Xs ρ) μ):bZ ad C Y9 R Xs P ρ μ:=ac e2<|ac b (ac e1 q)
theorem Tf(S:SR A aB w sg er μ)(tx:∀v∈vs,lN aB v)(q:∀bS um v,mD vs sg=.c v um->lN aB v->SR A aB w um er bS->(∀a,a≠A.l->bS a=μ a)->Q (vU v) bS):aJ ad (n+2) (.r .bX) [.z .B,.A .F (vs.map vU),.d A.l] Q X μ:=by
 refine aC (fn:=eI) dq dq<|iQ (y:=.B) dq dq (oO dq ?_);refine CJ (LsI A aB μ w sg er vs) (λρ μ h=>h.rec λ{L Xj m9 v} c ev em tx e1 S e2 fr=>?_) (λus its ρ j h K g=>h.rec λ{L Xj m9 v} c ev em d e1 S e2 fr=>?_) _ _ μ ⟨by rw[←zP],by rw[List.reverse_reverse,qO],dq,show lN aB (.B .d)from oy,dq,S,dq,λf f=>dq⟩
 ·induction L with
  |nil=>exact ac e1<|.j (q _ m9 v (ev▸em) tx S fr)
  |cons=>cases c
 ·induction L with
  |nil=>cases c
  |cons b L=>
   cases c;refine Td (ρ:=ρ.H .o8<|vU b) dq e1 e2<|Cp S (by show 2<eC;decide) λbS i e=>g _ _<|.mk (L:=L) (Xj:=b::Xj) (m9:={m9 with d:=m9.d+1,r:=m9.r+1}) (v:=.e b v<|m9.d+1) dq (ev.trans (by rw[z0,qR];rfl)) ?_ ⟨tx b (by rw[ev];exact qx _<|aeV.mpr (.head _)),d⟩ dq (i.r<|m9.r+1) e2 λa h=>(e a h).trans (fr a h)
   show fy (mD Xj) (λw=>rV b w) sg=_;unfold fy;rw[em];rfl
end
theorem Mj{α:Type}{P:qe α->Prop}(h:∀a b,P [a,b]){l:qe α}(e:l.length=2):P l:=by
 induction l with
 |nil=>cases e
 |cons a l=>exact kz (P:=λl=>P<|a::l) (h a)<|zH e
abbrev Gg:iH:=bC<|bC (bC<|bC eI.a)
section
variable{ad:qe U}{a v:V}
noncomputable def isP(v:V):qw:=@V.casesOn (λa=>qw) v (λa=>np) λa a a=>hY
theorem Su{R:UQ}(le:jj aB μ)(tx:lN aB v)(e1:ρ .Q=dA (.A .F [vU v]))(q:bZ ad C (bC Gg) R Xs P (ρ.H ⟨196⟩ (.q (isP v))) μ):bZ ad C Gg R Xs P ρ μ:=by
 refine ac e1<|uU le tx ?_;induction v with
 |B k=>exact q
 |e a b m=>exact ac e1 q
theorem Y0{R:UQ}(le:jj aB μ)(tx:lN aB v)(e1:ρ .Q=dA (.A .F [vU v]))(q:R (.q (oq v)) μ):bZ ad C (Ks (kg (bC (bC eI.a)))) R Xs P ρ μ:=by
 refine ac e1<|OM le tx ?_;induction v with
 |B k=>induction k with
  |q b=>cases b<;>exact ac e1 q
  |_=>exact q
 |e a b m=>exact q
theorem G6{n:qc}{Q:UQ}{X:Mu->Prop}{μ aB:Mu}{A:Ad}{w:Wm}{sg:Sg}{p:Pw}(c:p.z≠.nI)(b:p.z≠.B)(V0:p.z≠.rG)(a:p.z≠.kB)(S:SR A aB w sg .u μ)(tx:lN aB v)(h:bZ ad (aJ ad (n+2)) (bC Gg) (cD Wk Q) (λd=>X) (λd=>cD Wk Q .u) ((((UL.H (λd=>ft) .V (.z p.z)).H .Q (.A .F [vU v])).H .k (.d A.l)).H ⟨196⟩ (.q (isP v))) μ):aJ ad (n+3) (.r .bX) [.z p.z,.A .F [vU v],.d A.l] Q X μ:=
 aC (fn:=eI) dq dq (iQ dq (xN c)<|iQ dq (xN b) (iQ dq (xN V0)<|iQ dq (xN a) (Su S.I tx dq h)))
theorem Sn{n:qc}{Q:UQ}{X:Mu->Prop}{μ aB:Mu}{A:Ad}{w:Wm}{sg:Sg}{p:Pw}{vs:qe V}(c:vs.length=p.I)(S:SR A aB w sg .u μ)(tx:∀v∈vs,lN aB v)(E:mx A aB rU (Ve aB) (jp p vs sg) w Q X):aJ ad (n+3) (.r .bX) [.z p.z,.A .F (vs.map vU),.d A.l] Q X μ:=by
 revert tx E;induction p with
 |o=>
  refine Mj (P:=λvs=>(∀v∈vs,lN aB v)->mx A aB rU (Ve aB) (jp .o vs sg) w Q X->aJ ad (n+3) (.r .bX) [.z .nI,.A .F<|vs.map vU,.d A.l] Q X μ) (λa b tx E=>?_) c;exact aC (fn:=eI) dq dq<|oO dq (Cp S (by show 2<eC;decide) λbS d e=>.j<|E bS w (.j w) (d.r<|sg.r+1) ⟨tx a<|.head _,tx b<|.tail _ (.head _)⟩)
 |e=>
  refine Mj (P:=λvs=>(∀v∈vs,lN aB v)->mx A aB rU (Ve aB) (jp .e vs sg) w Q X->aJ ad (n+3) (.r .bX) [.z .kB,.A .F<|vs.map vU,.d A.l] Q X μ) (λa b tx E=>?_) c;exact aC (fn:=eI) dq dq<|iQ (y:=.kB) dq dq (iQ (y:=.kB) dq dq<|iQ (y:=.kB) dq dq (oO dq<|M4 S.I (tx a<|.head _) (tx b<|.tail _ (.head _)) (.j<|E μ w (.j w) S oy)))
 |v=>
  refine kz (P:=λvs=>(∀v∈vs,lN aB v)->mx A aB rU (Ve aB) (jp .v vs sg) w Q X->aJ ad (n+3) (.r .bX) [.z .rG,.A .F<|vs.map vU,.d A.l] Q X μ) (λa tx E=>?_) c;refine aC (fn:=eI) dq dq<|iQ (y:=.rG) dq dq (iQ (y:=.rG) dq dq<|oO dq (Y0 S.I (tx a<|.head _) dq<|.j (E μ w (.j w) S oy)))
 |g=>
  refine kz (P:=λvs=>(∀v∈vs,lN aB v)->mx A aB rU (Ve aB) (jp .g vs sg) w Q X->aJ ad (n+3) (.r .bX) [.z ⟨131⟩,.A .F<|vs.map vU,.d A.l] Q X μ) (λa tx E=>?_) c;refine G6 (p:=.g) (by decide) (by decide) (by decide) (by decide) S (tx a<|.head _)<|oO dq (.j ?_)
  induction a with
  |B k=>exact E μ w (.j w) S oy
  |e=>exact E μ w (.j w) S oy
 |c=>
  refine kz (P:=λvs=>(∀v∈vs,lN aB v)->mx A aB rU (Ve aB) (jp .c vs sg) w Q X->aJ ad (n+3) (.r .bX) [.z .s8,.A .F<|vs.map vU,.d A.l] Q X μ) (λa tx E=>?_) c;refine G6 (p:=.c) (by decide) (by decide) (by decide) (by decide) S (tx a<|.head _)<|iQ (y:=.s8) dq dq ?_
  induction a with
  |B k=>exact ya (k:=k) S.I (tx (.B k) (.head _)) (mX S E (nj (.B k) (tx _ (.head _))) (qg (nX (.B k)) (qP _)))
  |e a b m=>exact cD.j<|E μ w (.j w) S (tx _<|.head _).1
 |d=>
  refine kz (P:=λvs=>(∀v∈vs,lN aB v)->mx A aB rU (Ve aB) (jp .d vs sg) w Q X->aJ ad (n+3) (.r .bX) [.z .vo,.A .F<|vs.map vU,.d A.l] Q X μ) (λa tx E=>?_) c;refine G6 (p:=.d) (by decide) (by decide) (by decide) (by decide) S (tx a<|.head _)<|iQ (y:=.vo) dq dq ?_
  induction a with
  |B k=>exact ya (k:=k) S.I (tx (.B k) (.head _)) (mX S E (nj (.B k) (tx _ (.head _))) (qg (nX (.B k)) (qP _)))
  |e a b m=>exact cD.j<|E μ w (.j w) S (tx _<|.head _).2
end
structure Ms where
 c:qd->qc
 q:qd->qc
 d:qd->qc
def Lv(Γ Φ:qe qd)(ρ:Ev):Prop:=(∀x∈Γ,∃c,ρ.v x=dA c)/\∀f∈Φ,∃d,ρ.f f=dA d
structure Vm where
 f:qd
 b:qe qd
 a:qd
 e:E
 d:Ev
 D:iP
 M:Ms
 m:qc
 h:qe qd
 g:qe qd
noncomputable def iY(D:iP):U:=.A (.d (D.map (·.1))) (D.map (·.2))
def Kh(lb:qd)(ps:qe qd)(rest:qd)(e:E):U:=(T.A (.a lb ps rest) [e.t]).u
def Vm.u(c:Vm):U:=.A .F [.z ⟨23⟩,Kh c.f c.b c.a c.e,iY c.D,.j (c.m:qc)]
structure QB(aB:Mu)(c:Vm)(uY:AH)(cc qq dd:qc):Prop where
 b:uY=gB c.b c.a (ev c.e) c.d
 d:WS (c.b++rs c.a++c.h) c.g c.e
 j:Fr c.h c.g (c.b++rs c.a++bd c.e)
 o:Lv c.h c.g c.d
 k:og c.d c.M.c c.M.q
 e:bL wC c.e c.M.c<=cc
 f:bL wQ c.e c.M.q<=qq
 i:bL wD c.e c.M.d<=dd
 J:Tx aB c.e.t
 a:sz c.e.t<eC
 u:c.D.length+(c.b++rs c.a++bd c.e).length<eC
inductive Ap(aB:Mu)(w:Wm):Ev->iP->Ms->Prop
 |mk{ρ:Ev}{D:iP}{M:Ms}(hv:∀x c,ρ.v x=dA c->∃a,w a=dA (.inl c)/\eA D x=dA (.d a))(cl:qd->Vm)(hf:∀x uY,ρ.f x=dA uY->(∃a,w a=dA (.inr (cl x).u)/\eA D x=dA (.d a))/\QB aB (cl x) uY (M.c x) (M.q x) (M.d x))(he:∀x uY,ρ.f x=dA uY->Ap aB w (cl x).d (cl x).D (cl x).M):Ap aB w ρ D M
section
variable{μ aB:Mu}{w w':Wm}{ρ:Ev}{D:iP}{M M2:Ms}{x:qd}{a c:qc}{uY:AH}{Γ Φ lO:qe qd}
theorem Ap.G(h:Ap aB w ρ D M)(l:An w w'):Ap aB w' ρ D M:=by
 induction h with
 |mk d cl b f ih=>exact⟨λx c e=>(d x c e).imp λa z=>⟨l _ _ z.1,z.2⟩,cl,λx uY e=>⟨(b x uY e).1.imp λa z=>⟨l _ _ z.1,z.2⟩,(b x uY e).2⟩,ih⟩
theorem Ap.v(h:Ap aB w ρ D M):∀x c,ρ.v x=dA c->∃a,w a=dA (.inl c)/\eA D x=dA (.d a):=h.rec λd b b b b=>d
theorem OO{α:Type}{P:Prop} [Decidable P]{a b:α}{r:α}(h:P)(e:(if P then a else b)=r):a=r:=(qK h).symm.trans e
theorem ED{α:Type}{P:Prop} [Decidable P]{a b:α}{r:α}(h:¬P)(e:(if P then a else b)=r):b=r:=(if_neg h).symm.trans e
theorem Ij{y:qd}{u:U}{r:qk U}(h:¬y=x)(e:eA D y=r):eA (jm D x u) y=r:=by rw[vt,if_neg λz=>h z.symm];exact e
theorem V9{u:U}:eA (jm D x u) x=dA u:=by rw[vt,qK dq]
theorem Ap.p(h:Ap aB w ρ D M)(l:An w w')(e:w' a=dA (.inl c)):Ap aB w' (ρ.p x c) (jm D x (.d a)) M:=by
 cases h.G l with|mk f cl d g=>
 refine⟨λy i k=>?_,cl,λy uY k=>?_,λy uY k=>?_⟩
 ·by_cases z:y=x
  ·cases OO z k;exact⟨a,e,z▸V9⟩
  ·exact(f y i<|ED z k).imp λb q=>⟨q.1,Ij z q.2⟩
 ·by_cases z:y=x
  ·exact nomatch OO z k
  ·exact⟨(d y uY<|ED z k).1.imp λb q=>⟨q.1,Ij z q.2⟩,(d y uY<|ED z k).2⟩
 ·by_cases z:y=x
  ·exact nomatch OO z k
  ·exact g y uY<|ED z k
theorem Ap.u(h:Ap aB w ρ D M)(l:An w w')(d:Vm)(e:w' a=dA (.inr d.u))(ok:QB aB d uY (M2.c x) (M2.q x) (M2.d x))(o:Ap aB w' d.d d.D d.M)(g:∀y,y≠x->M2.c y=M.c y/\M2.q y=M.q y/\M2.d y=M.d y):Ap aB w' (ρ.u x uY) (jm D x (.d a)) M2:=by
 cases h.G l with|mk m cl j n=>
 refine⟨λy i k=>?_,λy=>if y=x then d else cl y,λy f k=>?_,λy f k=>?_⟩
 ·by_cases z:y=x
  ·exact nomatch OO z k
  ·exact(m y i<|ED z k).imp λb q=>⟨q.1,Ij z q.2⟩
 ·by_cases z:y=x
  ·cases OO z k;rw[qK z,z];exact⟨⟨a,e,V9⟩,ok⟩
  ·rw[if_neg z,(g y z).1,(g y z).2.1,(g y z).2.2];exact⟨(j y f<|ED z k).1.imp λb q=>⟨q.1,Ij z q.2⟩,(j y f<|ED z k).2⟩
 ·by_cases z:y=x
  ·rw[qK z];exact o
  ·rw[if_neg z];exact n y f<|ED z k
theorem Lv.p(h:Lv Γ Φ ρ)(n:x∉Φ)(c:qc):Lv (x::Γ) Φ (ρ.p x c):=⟨λy a=>by
  by_cases z:y=x
  ·exact⟨c,qK z⟩
  ·exact(h.1 y ((qG.mp a).resolve_left z)).imp λi k=>(if_neg z).trans k,λy a=>(h.2 y a).imp λi k=>(if_neg λz:y=x=>n (z▸a)).trans k⟩
theorem Lv.u(h:Lv Γ Φ ρ)(n:x∉Γ)(c:AH):Lv Γ (x::Φ) (ρ.u x c):=⟨λy a=>(h.1 y a).imp λi k=>(if_neg λz:y=x=>n (z▸a)).trans k,λy a=>by
  by_cases z:y=x
  ·exact⟨c,qK z⟩
  ·exact(h.2 y ((qG.mp a).resolve_left z)).imp λi k=>(if_neg z).trans k⟩
theorem Lv.s(h:Lv Γ Φ ρ)(k:∀x∈lO,x∈Γ):Lv lO Φ ρ:=⟨λx a=>h.1 x<|k x a,h.2⟩
end
structure Bd(k m:qc)(sg:Sg):Prop where
 d:Dp sg
 c:sg.e+k<=5000
 q:sg.r+m<=190
 t:sg.o.length+k<=10000
theorem Bd.I{c q c' q':qc}{sg:Sg}(h:Bd c q sg)(a:c'<=c)(b:q'<=q):Bd c' q' sg:=⟨h.d,qg (qn a _) h.c,qg (qn b _) h.q,qg (qn a _) h.t⟩
theorem wu{s t c c' B:qc}(h:t<=s+c)(k:s+(c+c')<=B):t+c'<=B:=qg (qF h _)<|qg (qL<|qT ..) k
theorem Bd.j{α:Type}{c q c' q':qc}{m:Mo α}{uq:qc->Prop}{ko:α->qc->Prop}{sg um:Sg}{a:α}(b:Bm c q uq m ko)(p:uq sg.r)(h:Bd (c+c') (q+q') sg)(e:m sg=.c a um):Bd c' q' um/\ko a um.r:=by
 have k:=b sg h.d p;rw[e]at k;exact⟨⟨k.1.d,wu k.1.e h.c,wu k.1.j h.q,wu k.1.C h.t⟩,k.2⟩
theorem Bd.g{α:Type}{c q c' q':qc}{m:Mo α}{ko:α->qc->Prop}{sg um:Sg}{a:α}(b:Bm c q tt m ko)(h:Bd (c+c') (q+q') sg)(e:m sg=.c a um):Bd c' q' um/\ko a um.r:=Bd.j b oy h e
theorem Bd.f{c q:qc}{sg:Sg}(h:Bd (1+c) q sg):Bd c q {sg with e:=sg.e+1}:=⟨⟨h.d.c,h.d.y,h.d.z⟩,wu (c:=1) (qm<|sg.e+1) h.c,h.q,qg (qn (qr _ _) _) h.t⟩
theorem Bd.i{c q:qc}{sg:Sg}(h:Bd c q sg):Bd c q {sg with d:=sg.d+1}:=⟨⟨h.d.c,h.d.y,h.d.z⟩,h.c,h.q,h.t⟩
structure Do(A:Ad)(aB:Mu)(e:E)(w:Wm)(sg:Sg)(ρ:Ev)(D:iP)(M:Ms)(Γ Φ:qe qd)(μ:Mu):Prop where
 d:WS Γ Φ e
 j:Fr Γ Φ (bd e)
 o:Lv Γ Φ ρ
 m:Ap aB w ρ D M
 k:og ρ M.c M.q
 u:D.length+(bd e).length<eC
 J:Tx aB e.t
 a:sz e.t<eC
 p:Bd (bL wC e M.c) (bL wQ e M.q) sg
 s:SR A aB w sg .u μ
abbrev gC(A:Ad)(aB:Mu)(o:Ou R)(w:Wm)(Q:UQ)(X:Mu->Prop):Prop:=mx A aB rU (Ve aB) o w Q X
def lJ(ad:qe U)(A:Ad)(aB:Mu)(N:qc):Prop:=∀(e:E) {w:Wm} {sg:Sg} {ρ:Ev} {D:iP} {M:Ms} {Γ Φ:qe qd} {Q:UQ} {X:Mu->Prop} {μ:Mu},bL wD e M.d+200<=N->Do A aB e w sg ρ D M Γ Φ μ->gC A aB (ev e ρ sg) w Q X->aJ ad N (.r .K) [e.t.u,iY D,.d A.l] Q X μ
section
variable{ad:qe U}{n:qc}{Q:UQ}{X:Mu->Prop}{μ aB:Mu}{C:be}{A:Ad}{w:Wm}{sg:Sg}{t env:U}{m:Mo R}
theorem acX{v:V}{ρ:UL}{R:UQ}{Xs P:ce}(e1:ρ .fE=dA (vU v))(le:jj aB μ)(tx:lN aB v)(q:R (vU v) μ):bZ ad C (bC cZ.a) R Xs P ρ μ:=by
 refine ac e1<|uU le tx ?_;induction v with
 |B k=>exact ac e1 q
 |e a b m=>exact ac e1<|ac e1 q
theorem acY{vs:qe U}{ρ:UL}{R:UQ}{Xs P:ce}(e1:ρ .fE=dA (.A .F (.z .cB::vs)))(e2:ρ .k=dA (.d A.l))(q:C (.r .bY) [.d A.l,.z .cB,.j (vs.length:qc)] (cEx (bZ ad C (bC (bC cZ.a)) R Xs P ρ)) (Xs ρ) μ):bZ ad C (bC cZ.a) R Xs P ρ μ:=by
 have e:(((U.z .cB::vs).length:qd))-1=(vs.length:qc):=acU (vs.length:qd) 1;rw[←e]at q;exact ac e1<|ac e1 (ac e2<|ac e1 q)
theorem BP{ρ:UL}{R:UQ}{Xs P:ce}(a:ρ .f=dA t)(e1:ρ .D=dA env)(e2:ρ .k=dA (.d A.l))(q:C (.r .K) [t,env,.d A.l] (y8 .fE ρ (bZ ad C (bC cZ.a) R Xs P)) (Xs ρ) μ):bZ ad C cZ.a R Xs P ρ μ:=ac a<|ac e1 (ac e2 q)
theorem v8(H:mx A aB vU (lN aB) (ln m sg) w Q X)(a:∀b:UQ,gC A aB (m sg) w b X->aJ ad (n+1) (.r .K) [t,env,.d A.l] b X μ):aJ ad (n+2) (.r .bf) [t,env,.d A.l] Q X μ:=by
 refine aC (fn:=cZ) dq dq<|BP dq dq dq (a _<|mx.q (cv:=rU) (P:=Ve aB) H λr m9 d bS w' l S tx c=>?_);induction r with
 |E v=>exact acX (ρ:=UL.H _ _ _) dq S.I tx<|.j (c bS w' (.j _) S tx)
 |b l=>
  refine acY (ρ:=UL.H _ _ _) (vs:=l.map vU) dq dq ?_;rw[qI];exact mX (t:=.j l.length) S c oy<|qP _
end
abbrev oU:iH:=bC<|bC fR.a
section
variable{ad:qe U}{Q:UQ}{X:Mu->Prop}{μ aB:Mu}{C:be}{ρ:UL}{R:UQ}{Xs P:ce}{A:Ad}{D:iP}{k:K}{x:qd}{a:qc}{u env:U}{v:V}{t t1 t2 t3:T}{l:qe T}{h:Hd}
theorem Xx(le:jj aB μ)(tx:lN aB v){K:qw->Prop}(q:K np):TA (vU v) (.K .a) μ K:=by
 induction v with
 |B k=>induction k with
  |y a=>exact(Ao.G (k:=.y a) le tx).elim λb h=>h.elim λb h=>h.elim λb h=>⟨h,q⟩
  |_=>exact q
 |_=>exact q
theorem Q5(a:ρ .f=dA (T.A (.u k) []).u)(q:R k.u μ):bZ ad C oU R Xs P ρ μ:=ac a<|ac a q
theorem Pq{K:UQ}(a:eA D x=dA u)(q:K u μ):EE (iY D) (.j x) K μ:=by
 show dB (Er (D.map (·.1)) (D.map (·.2)) x) λw=>K w μ;rw[lkD,a];exact q
theorem akj{v w:U}(q:TA v w μ λb=>Q (.q b) μ):UC .Is v w Q μ:=q
theorem Vs{K:UQ}{Xm:Mu->Prop}(c:ρ .f=dA (T.A (.s x) []).u)(e1:ρ .D=dA (iY D))(b:eA D x=dA (.d a))(m:μ a=dA (Dm u))(q:K u μ):uE ad C (.r (.r (.s .D) (.d (.s .f) .j)) (.j 0)) np Xm ρ K μ:=ac e1<|ac c (Pq b ⟨m,q⟩)
theorem Vu(b:ρ .f=dA (T.A (.s x) []).u)(e1:ρ .D=dA (iY D))(c:eA D x=dA (.d a))(m:μ a=dA (Dm u))(d:∀K:qw->Prop,K np->TA u (.K .a) μ K)(q:R u μ):bZ ad C oU R Xs P ρ μ:=by
 refine ac b<|ac b (Vs b e1 c m ?_);refine akj (v:=u) (w:=.K .a)<|d _ ?_;exact Vs b e1 c m q
theorem L4(a:ρ .f=dA (T.A (.B x) []).u)(e1:ρ .D=dA env)(e2:ρ .k=dA (.d A.l))(q:C (.r ⟨251⟩) [(T.A (.B x) []).u,env,.d A.l] R (Xs ρ) μ):bZ ad C oU R Xs P ρ μ:=ac a<|ac a (ac a<|ac a (ac a<|ac a (ac a<|ac a (ac e1<|ac e2 q))))
theorem Xd(a:ρ .f=dA (T.A (.F x) [t]).u)(e1:ρ .D=dA env)(e2:ρ .k=dA (.d A.l))(q:C (.r ⟨251⟩) [(T.A (.F x) [t]).u,env,.d A.l] R (Xs ρ) μ):bZ ad C oU R Xs P ρ μ:=ac a<|ac a (ac a<|ac a (ac a<|ac a (ac a<|ac a (ac e1<|ac e2 q))))
theorem Xe(a:ρ .f=dA (T.A (.G x) [t]).u)(e1:ρ .D=dA env)(e2:ρ .k=dA (.d A.l))(q:C (.r ⟨251⟩) [(T.A (.G x) [t]).u,env,.d A.l] R (Xs ρ) μ):bZ ad C oU R Xs P ρ μ:=ac a<|ac a (ac a<|ac a (ac a<|ac a (ac a<|ac a (ac e1<|ac e2 q))))
theorem ac7{lb rest:qd}{ps:qe qd}(a:ρ .f=dA (T.A (.a lb ps rest) [t]).u)(e1:ρ .D=dA env)(e2:ρ .k=dA (.d A.l))(q:C (.r .dI) [.d A.l,.z ⟨23⟩,.A .F [(T.A (.a lb ps rest) [t]).u,env]] R (Xs ρ) μ):bZ ad C oU R Xs P ρ μ:=ac a<|ac a (ac a<|ac a (ac a<|ac a (ac e2<|ac a (ac e1 q))))
abbrev ifT:iH:=bC<|Ks (kg<|bC (bC<|bC (bC oU)))
theorem ac8(a:ρ .f=dA (T.A .v [t1,t2,t3]).u)(e1:ρ .D=dA env)(e2:ρ .k=dA (.d A.l))(q:C (.r .bf) [t1.u,env,.d A.l] (y8 .kA ρ (bZ ad C ifT R Xs (bZ ad C (bC (bC (bC (bC (bC oU))))) R Xs P))) (Xs ρ) μ):bZ ad C oU R Xs P ρ μ:=ac a<|ac a (ac a<|ac a (ac a<|ac a (ac e1<|ac e2 q)))
theorem Xc(c:ρ .f=dA (T.A .v [t1,t2,t3]).u)(e1:ρ .D=dA env)(e2:ρ .k=dA (.d A.l))(e3:ρ .kA=dA (vU v))(le:jj aB μ)(tx:lN aB v)(e:oq v=hY->C (.r .K) [t3.u,env,.d A.l] R (Xs ρ) μ)(d:oq v=np->C (.r .K) [t2.u,env,.d A.l] R (Xs ρ) μ):bZ ad C ifT R Xs P ρ μ:=by
 refine ac e3<|OM le tx ?_;induction v with
 |B k=>induction k with
  |q b=>cases b with
   |true=>exact ac e3<|ac c (ac e1<|ac e2 (d dq))
   |false=>exact ac e3<|ac c (ac e1<|ac e2 (e dq))
  |_=>exact ac c<|ac e1 (ac e2<|d dq)
 |e a b m=>exact ac c<|ac e1 (ac e2<|d dq)
abbrev caT:iH:=bC<|Ks (kg<|bC (bC oU))
theorem w_call(a:ρ .f=dA (T.A .h (t::l)).u)(e1:ρ .D=dA env)(e2:ρ .k=dA (.d A.l))(q:C (.r .bf) [t.u,env,.d A.l] (y8 .iV ρ (bZ ad C caT R Xs (bZ ad C (bC (bC (bC oU))) R Xs P))) (Xs ρ) μ):bZ ad C oU R Xs P ρ μ:=ac a<|ac a (ac a<|ac a (ac e1<|ac e2 q))
abbrev oY(ad:qe U)(C:be)(ρ:UL)(X:Mu->Prop):qe U->(qk U->Mu->Prop)->Mu->Prop:=λvs K μ=>jL [.eF] vs ρ λaI=>uE ad C (.h .bf<|.o (.s .eF) (.o (.s .D)<|.o (.s .k) .t)) np X aI (km K) μ
theorem Hv(a:ρ .f=dA (T.A .h (t::l)).u)(e1:ρ .iV=dA u)(e2:ρ .k=dA (.d A.l))(q:dF (oY ad C ρ (Xs ρ)) (fF (us l)) [] (λvs μ=>C (.r .dR) [u,.A .F vs,.d A.l] R (Xs ρ) μ) μ):bZ ad C caT R Xs P ρ μ:=by
 refine ac e1<|ac a ?_
 have e:(PQ np (cE1 (FQ ad C (.o (.s .k) .t) (Xs ρ) ρ) (cE2 u (Jk C .dR R (Xs ρ)))))=λvs μ=>C (.r .dR) [u,.A .F vs,.d A.l] R (Xs ρ) μ:=by
  funext vs μ;show dB (ρ .k) _=_;rw[e2];rfl
 rw[←e]at q;exact q
end
abbrev Hj:iH:=gw.a
abbrev agi:iH:=bC<|Ks (kg<|bC Hj)
abbrev agj:iH:=bC<|Ks (kg<|bC (bC Hj))
abbrev Dd:iH:=bC<|bC (bC Hj)
section
variable{ad:qe U}{Q:UQ}{X:Mu->Prop}{μ aB:Mu}{C:be}{ρ:UL}{R:UQ}{Xs P:ce}{A:Ad}{D:iP}{x:qd}{a:qc}{u v er env:U}{t:T}{w:Wm}{sg:Sg}
theorem ab5(a:ρ .f=dA (T.A (.F x) [t]).u)(e1:ρ .D=dA env)(e2:ρ .k=dA (.d A.l))(q:C (.r .bf) [t.u,env,.d A.l] (y8 .m ρ (bZ ad C agi R Xs (bZ ad C (bC (bC Hj)) R Xs P))) (Xs ρ) μ):bZ ad C Hj R Xs P ρ μ:=ac a<|ac a (ac a<|ac e1 (ac e2 q))
theorem ahf(c:ρ .f=dA (T.A (.F x) [t]).u)(e1:ρ .D=dA (iY D))(e3:ρ .m=dA v)(b:eA D x=dA (.d a))(m:μ a=dA (Dm u))(q:R (.K .e) (μ.H a (Dm v))):bZ ad C agi R Xs P ρ μ:=ac e3<|ac e1 (ac c<|Pq b ⟨m,⟨xg _,by show(0:qd)<1;decide⟩,q⟩)
theorem ab6(a:ρ .f=dA (T.A (.G x) [t]).u)(e1:ρ .D=dA env)(e2:ρ .k=dA (.d A.l))(q:C (.r .bf) [t.u,env,.d A.l] (y8 .m ρ (bZ ad C agj R Xs (bZ ad C Dd R Xs P))) (Xs ρ) μ):bZ ad C Hj R Xs P ρ μ:=ac a<|ac a (ac a<|ac a (ac e1<|ac e2 q))
theorem Vb(a:ρ .f=dA (T.A (.G x) [t]).u)(e2:ρ .k=dA (.d A.l))(e3:ρ .m=dA v)(S:SR A aB w sg er μ)(q:C (.r .a8) [v] (λs μ=>bmU .ch (.d A.C) [.A .H [.j x,s]] (cEx (P ρ)) μ) (Xs ρ) μ):bZ ad C agj R Xs P ρ μ:=ac e2<|bF S.l (mA S.C<|ac a (ac e3 q))
theorem Qe(a:ρ .f=dA (T.A (.B x) []).u)(q:bZ ad C Dd R Xs P ρ μ):bZ ad C Hj R Xs P ρ μ:=ac a<|ac a (ac a q)
theorem aaS(a:ρ .f=dA (T.A (.B 1) []).u)(e2:ρ .k=dA (.d A.l))(S:SR A aB w sg er μ)(q:R (vU sg.y) μ):bZ ad C Dd R Xs P ρ μ:=ac a<|ac e2 (bF S.l<|bF S.m (ac a<|ac e2 (bF S.l<|ac a (bF S.m q))))
theorem aaR(a:ρ .f=dA (T.A (.B 2) []).u)(e2:ρ .k=dA (.d A.l))(S:SR A aB w sg er μ)(q:R (vU sg.z) μ):bZ ad C Dd R Xs P ρ μ:=ac a<|ac e2 (bF S.l<|bF S.m (ac a<|ac e2 (bF S.l<|ac a (bF S.m q))))
theorem aaQ(a:ρ .f=dA (T.A (.B 4) []).u)(e2:ρ .k=dA (.d A.l))(S:SR A aB w sg er μ)(q:R Ig μ):bZ ad C Dd R Xs P ρ μ:=ac a<|ac e2 (bF S.l<|bF S.m (ac a<|ac e2 (bF S.l<|ac a (bF S.m q))))
theorem aj5(a:ρ .f=dA (T.A (.B 3) []).u)(e2:ρ .k=dA (.d A.l))(S:SR A aB w sg er μ)(q:∀K,C (.r .bY) [.d A.l,.z ⟨203⟩,.j 3] K (Xs ρ) μ):bZ ad C Dd R Xs P ρ μ:=ac a<|ac e2 (bF S.l<|bF S.m (ac e2<|ac a (q _)))
theorem adG(a:ρ .f=dA (T.A (.G 3) [t]).u)(e2:ρ .k=dA (.d A.l))(S:SR A aB w sg er μ)(q:∀K,C (.r .bY) [.d A.l,.z ⟨203⟩,.j 3] K (Xs ρ) μ):bZ ad C Dd R Xs P ρ μ:=ac a<|ac e2 (bF S.l<|bF S.m (ac e2<|ac a (q _)))
theorem Yu{v:V}(a:ρ .f=dA (T.A (.G 1) [t]).u)(e2:ρ .k=dA (.d A.l))(e3:ρ .m=dA (vU v))(S:SR A aB w sg er μ)(q:R (.K .e) (μ.H A.m (IL {sg with y:=v}))):bZ ad C Dd R Xs P ρ μ:=ac a<|ac e2 (bF S.l<|bF S.m (ac a<|ac e3 (ac e2<|bF S.l (ac a ⟨S.m,by show 3+1<aH;decide,q⟩))))
theorem Yt{v:V}(a:ρ .f=dA (T.A (.G 2) [t]).u)(e2:ρ .k=dA (.d A.l))(e3:ρ .m=dA (vU v))(S:SR A aB w sg er μ)(q:R (.K .e) (μ.H A.m (IL {sg with z:=v}))):bZ ad C Dd R Xs P ρ μ:=ac a<|ac e2 (bF S.l<|bF S.m (ac a<|ac e3 (ac e2<|bF S.l (ac a ⟨S.m,by show 3+1<aH;decide,q⟩))))
end
abbrev ρ3(t env:U)(A:Ad):UL:=((UL.H (λzz=>ft) .f t).H .D env).H .k (.d A.l)
section
variable{ad:qe U}{n:qc}{Q:UQ}{X:Mu->Prop}{μ aB:Mu}{A:Ad}{w:Wm}{sg:Sg}{ρ:Ev}{D:iP}{M:Ms}{Γ Φ:qe qd}{e:E}
theorem Do.b(r:Do A aB e w sg ρ D M Γ Φ μ):sg.e+1<=5000:=qg (qn (Cv L6 e M.c) _) r.p.c
theorem f7(r:Do A aB e w sg ρ D M Γ Φ μ)(k:∀bS,SR A aB w {sg with e:=sg.e+1} .u bS->bZ ad (aJ ad n) oU (cD Wk Q) (λa=>X) (λa=>cD Wk Q .u) (ρ3 e.t.u (iY D) A) bS):aJ ad (n+1) (.r .K) [e.t.u,iY D,.d A.l] Q X μ:=
 aC (fn:=fR) dq dq (wa r.s dq r.b k)
theorem Hy(T:TxG aB sg)(c:qc):lN aB (cellOf sg c):=by
 show lN aB (sg.c.getD c un);rw[xy];cases e:sg.c[c]? with
 |none=>exact oy
 |some v=>exact T.c v<|xX e
theorem JP{k:K}(r:Do A aB (.u k) w sg ρ D M Γ Φ μ)(H:gC A aB (ev (.u k) ρ sg) w Q X):aJ ad (n+1) (.r .K) [(E.u k).t.u,iY D,.d A.l] Q X μ:=
 f7 r λbS S=>Q5 dq<|.j (H bS w (.j w) S r.J.1)
theorem R6{x:qd}(r:Do A aB (.s x) w sg ρ D M Γ Φ μ)(H:gC A aB (ev (.s x) ρ sg) w Q X):aJ ad (n+1) (.r .K) [(E.s x).t.u,iY D,.d A.l] Q X μ:=
 f7 r λbS S=>(r.o.1 x r.d).elim λc hc=>(r.m.v x c hc).elim λa ha=>by
  have H:gC A aB (getv ρ x {sg with e:=sg.e+1}) w Q X:=H
  unfold getv at H;rw[hc]at H;exact Vu dq dq ha.2 (S.H a _ ha.1) (λK q=>Xx S.I (Hy S.J c) q)<|.j (H bS w (.j w) S<|Hy S.J c)
theorem Nd{g:qd}(r:Do A aB (.B g) w sg ρ D M Γ Φ μ)(H:gC A aB (ev (.B g) ρ sg) w Q X):aJ ad (n+3) (.r .K) [(E.B g).t.u,iY D,.d A.l] Q X μ:=
 f7 r λbS S=>L4 dq dq dq (aC (fn:=gw) dq dq (Qe dq (by
  have k:g=1\/g=2\/g=3:=r.d;clear r;revert H;refine k.elim (λk=>?_) λk=>k.elim (λk=>?_) λk=>?_
  ·subst k;exactλH=>aaS dq dq S<|.j (.j<|H bS w (.j w) S S.J.y)
  ·subst k;exactλH=>aaR dq dq S<|.j (.j<|H bS w (.j w) S S.J.z)
  ·subst k;exactλH=>aj5 dq dq S λK=>mX (t:=.j 3) S H oy (qP _))))
theorem M5{x:qd}(h1:lJ ad A aB (n+1))(hd:bL wD (.F x e) M.d+200<=n+4)(r:Do A aB (.F x e) w sg ρ D M Γ Φ μ)(H:gC A aB (ev (.F x e) ρ sg) w Q X):aJ ad (n+4) (.r .K) [(E.F x e).t.u,iY D,.d A.l] Q X μ:=
 f7 r λbS S=>Xd dq dq dq (aC (fn:=gw) dq dq (ab5 dq dq dq (by
  have H:gC A aB (fy (ln<|ev e ρ) (λv=>oS ρ x v) {sg with e:=sg.e+1}) w Q X:=H
  have b1:Bd (bL wC e M.c) (bL wQ e M.q) {sg with e:=sg.e+1}:=(Bd.I (c':=1+bL wC e M.c) r.p (by show _<=2+_;exact alf) (by show _<=0+_;exact ale)).f
  have hd:3+bL wD e M.d+200<=n+4:=hd;refine v8 (n:=n) (mx.q (cv:=vU) (P:=lN aB) H λv m9 i j f l2 g tx b=>?_) λk h=>h1 e (by exact agr hd) ⟨r.d.2,r.j,r.o,r.m,r.k,r.u,r.J.2.1,qi (qg lU<|xB (iS (.F x) [e.t])) r.a,b1,S⟩ h
  refine(r.o.1 x r.d.1).elim λc hc=>(r.m.v x c hc).elim λa ha=>?_;have b:gC A aB (oS ρ x v m9) f Q X:=b;unfold oS at b;rw[hc]at b;exact ahf (ρ:=UL.H _ _ _) dq dq dq ha.2 (g.H a _ (l2 _ _ ha.1)) (.j (.j (b _ f (.j f) (g.D1 (l2 _ _ ha.1) tx) oy))))))
theorem M6{g:qd}(h1:lJ ad A aB (n+1))(j:200<=n)(hd:bL wD (.G g e) M.d+200<=n+4)(r:Do A aB (.G g e) w sg ρ D M Γ Φ μ)(H:gC A aB (ev (.G g e) ρ sg) w Q X):aJ ad (n+4) (.r .K) [(E.G g e).t.u,iY D,.d A.l] Q X μ:=
 f7 r λbS S=>Xe dq dq dq (aC (fn:=gw) dq dq (ab6 dq dq dq (by
  have H:gC A aB (fy (ln<|ev e ρ) (λv=>du g v) {sg with e:=sg.e+1}) w Q X:=H
  have b1:Bd (bL wC e M.c+1) (bL wQ e M.q+0) {sg with e:=sg.e+1}:=(Bd.I (c':=1+(bL wC e M.c+1)) r.p (by show _<=2+_;exact agx) (by show _<=0+_;exact agq)).f
  have hd:3+bL wD e M.d+200<=n+4:=hd;refine v8 (n:=n) (mx.q (cv:=vU) (P:=lN aB) H λv m9 e2 m f l2 i tx b=>?_) λo l=>h1 e (by exact agr hd) ⟨r.d.2,r.j,r.o,r.m,r.k,r.u,r.J.2.1,qi (qg lU<|xB (iS (.G g) [e.t])) r.a,b1.I (qj _ _)<|qm _,S⟩ l
  obtain⟨b2,h⟩:=b1.g (n6<|Bt e r.k) e2;have h:vd v<=190:=qg h b2.q;have lt:(m9.o.map QI).length+1<aH:=by rw[qI];exact qi b2.t (by decide)
  have a:=i.o (g:=g) (nj v tx)<|qg (nX v) h;refine Vb (ρ:=UL.H _ _ _) dq dq dq i<|sQ v (qg h<|qg (by decide) (qg j<|qj n 1)) i.I tx (sR i.C lt ?_)
  have k:g=1\/g=2\/g=3:=r.d.1;clear hd r H b1;revert b a;refine k.elim (λk=>?_) λk=>k.elim (λk=>?_) λk=>?_
  ·subst k;exactλb a=>Yu (ρ:=UL.H _ _ _) dq dq dq a<|.j (.j<|b _ f (.j f) (a.adC (v1:=v) (v2:=m9.z) tx a.J.z) oy)
  ·subst k;exactλb a=>Yt (ρ:=UL.H _ _ _) dq dq dq a<|.j (.j<|b _ f (.j f) (a.adC (v1:=m9.y) (v2:=v) a.J.y tx) oy)
  ·subst k;exactλb a=>adG (ρ:=UL.H _ _ _) dq dq a λK=>mX (t:=.j 3) a b oy (qP _))))
theorem mx.j{o:Ou R}(H:gC A aB o w Q X):gC A aB o w (cD Wk Q) X:=by
 cases o with
 |c a sg=>exactλμ b l S p=>.j<|H μ b l S p
 |b nm t sg=>exact H
theorem R7{e1 e2 e3:E}(h2:lJ ad A aB (n+2))(h3:lJ ad A aB (n+3))(hd:bL wD (.v e1 e2 e3) M.d+200<=n+4)(r:Do A aB (.v e1 e2 e3) w sg ρ D M Γ Φ μ)(H:gC A aB (ev (.v e1 e2 e3) ρ sg) w Q X):aJ ad (n+4) (.r .K) [(E.v e1 e2 e3).t.u,iY D,.d A.l] Q X μ:=
 f7 r λbS S=>ac8 dq dq dq (by
  have H:gC A aB (fy (ln<|ev e1 ρ) (λv=>if oq v then ev e3 ρ else ev e2 ρ) {sg with e:=sg.e+1}) w Q X:=H
  have hd:3+max (max (bL wD e1 M.d)<|bL wD e2 M.d) (bL wD e3 M.d)+200<=n+4:=hd;have fr:Fr Γ Φ (bd e1++bd e2++bd e3):=r.j;have len:D.length+(bd e1++bd e2++bd e3).length<eC:=r.u;rw[qs,qs]at len;have b:0+(sz e1.t+(sz e2.t+(sz e3.t+0)))+1<eC:=r.a;have b1:Bd (bL wC e1 M.c+(bL wC e2 M.c+bL wC e3 M.c)) (bL wQ e1 M.q+(bL wQ e2 M.q+bL wQ e3 M.q)) {sg with e:=sg.e+1}:=(Bd.I (c':=1+(bL wC e1 M.c+(bL wC e2 M.c+bL wC e3 M.c))) r.p (by show _<=1+(bL wC e1 M.c+bL wC e2 M.c+bL wC e3 M.c);exact ald) (by show _<=0+(bL wQ e1 M.q+bL wQ e2 M.q+bL wQ e3 M.q);exact agw)).f
  refine v8 (n:=n+1) (mx.q (cv:=vU) (P:=lN aB) H λv m9 f j i l2 g tx a=>?_) λk h=>h2 e1 (by exact alc hd) ⟨r.d.1,fr.g.g,r.o,r.m,r.k,by exact agp len,r.J.2.1,by exact alb b,b1.I (qj _ _)<|qj _ _,S⟩ h
  obtain⟨b2,_⟩:=b1.g (n6<|Bt e1 r.k) f;refine Xc (ρ:=UL.H _ _ _) dq dq dq dq g.I tx (λe=>?_) λe=>?_
  ·rw[e]at a;exact h3 e3 (by exact ala hd) ⟨r.d.2.2,fr.i,r.o,r.m.G l2,r.k,by exact ak9 len,r.J.2.2.2.1,by exact ak8 b,b2.I (qr _ _)<|qr _ _,g⟩<|mx.j a
  ·rw[e]at a;exact h3 e2 (by exact ak7 hd) ⟨r.d.2.1,fr.g.i,r.o,r.m.G l2,r.k,by exact ak6 len,r.J.2.2.1,by exact ak5 b,b2.I (qj _ _) (qj _ _),g⟩ (mx.j a))
end
structure Hn(A:Ad)(aB:Mu)(l:qe E)(w:Wm)(sg:Sg)(ρ:Ev)(D:iP)(M:Ms)(Γ Φ:qe qd)(μ:Mu):Prop where
 d:oJ Γ Φ l
 j:Fr Γ Φ (lM l)
 o:Lv Γ Φ ρ
 m:Ap aB w ρ D M
 k:og ρ M.c M.q
 u:D.length+(lM l).length<eC
 J:QQ aB (E.C l)
 a:ku (E.C l)<eC
 s:SR A aB w sg .u μ
section
variable{ad:qe U}{n N:qc}{Q:UQ}{X:Mu->Prop}{μ bS aB:Mu}{C:be}{A:Ad}{w w':Wm}{sg um:Sg}{ρ:Ev}{D:iP}{M:Ms}{Γ Φ:qe qd}{e:E}{l:qe E}
theorem Hn.c(r:Hn A aB (e::l) w sg ρ D M Γ Φ μ)(b:Bd (bL wC e M.c) (bL wQ e M.q) sg):Do A aB e w sg ρ D M Γ Φ μ:=
 ⟨r.d.1,r.j.g,r.o,r.m,r.k,qi (qn (by show _<=(bd e++lM l).length;rw[qs];exact qj _ _) _) r.u,r.J.1,qi lU r.a,b,r.s⟩
theorem Hn.p(r:Hn A aB (e::l) w sg ρ D M Γ Φ μ)(h:An w w')(S:SR A aB w' um .u bS):Hn A aB l w' um ρ D M Γ Φ bS:=
 ⟨r.d.2,r.j.i,r.o,r.m.G h,r.k,qi (qn (by show _<=(bd e++lM l).length;rw[qs];exact qr _ _) _) r.u,r.J.2,qi sH r.a,S⟩
theorem wG(i:lJ ad A aB (N+1)){cy:qe U->(qk U->Mu->Prop)->Mu->Prop}(g:∀t K μ,aJ ad (N+2) (.r .bf) [t,iY D,.d A.l] (km K) X μ->cy [t] K μ)(l:qe E):∀{w:Wm} {sg:Sg} {μ:Mu} {acc:qe U} {Q:rj},bQ wD l M.d+200<=N+1->Hn A aB l w sg ρ D M Γ Φ μ->Bd (bQ wC l M.c) (bQ wQ l M.q) sg->
  mx A aB (λvs=>vs.map vU) (λvs=>∀v∈vs,lN aB v) (oz l ρ sg) w (λus μ=>Q (acc++us) μ) X->dF cy (fF<|us (E.C l)) acc Q μ:=by
 induction l with
 |nil=>
  intro w sg μ acc Q _ r _ H;have h:Q (acc++[]) μ:=H μ w (.j w) r.s λf z=>qH z qX;rw[qO]at h;show dF cy [] acc Q μ;rw[eX];exact h
 |cons e l ih=>
  intro w sg μ acc Q hd r b H;have H:mx A aB (λvs=>vs.map vU) (λvs=>∀v∈vs,lN aB v) (fy (ln<|ev e ρ) (λv=>fy (oz l ρ) λvs=>ret<|v::vs) sg) w (λus μ=>Q (acc++us) μ) X:=H;have hd:max (bL wD e M.d) (bQ wD l M.d)+200<=N+1:=hd;have b:Bd (bL wC e M.c+bQ wC l M.c) (bL wQ e M.q+bQ wQ l M.q) sg:=b;show dF cy ([e.t.u]::fF (us<|E.C l)) acc Q μ;rw[dD];refine g _ _ _<|v8 (n:=N) (mx.q (cv:=vU) (P:=lN aB) H λv m9 e2 B y l2 k tx s=>?_) λG x=>i e (qg (qF (xK _ _) _) hd) (r.c<|b.I (qj _ _) (qj _ _)) x;refine ih (acc:=acc++[vU v]) (qg (qF (xL _ _) _) hd) (r.p l2 k) (b.g (n6<|Bt e r.k) e2).1<|mx.q s λvs F f o a C j m p=>?_;rw[qR];exact p o a (.j a) j λu hu=>(qG.mp hu).elim (λz=>z▸tx) (m u)
theorem Lg{α β γ:Type}{m:Mo α}{g:α->Mo β}{g2:β->Mo γ}{s:Sg}:fy (fy m g) g2 s=fy m (λx=>fy (g x) g2) s:=by
 unfold fy;cases m s<;>rfl
theorem Yc(o:lJ ad A aB N){I:UL->Prop}{cy:qe U->ce->ce}{Qn:ce}(n:∀t K ρ μ,I ρ->aJ ad N (.r .K) [t,iY D,.d A.l] (λa μ=>K (ρ.H .eF t) μ) X μ->cy [t] K ρ μ)(hI:∀ρ t,I ρ->I (ρ.H .eF t))(l:qe E):∀{w:Wm} {sg:Sg} {μ:Mu} {bR:UL},bQ wD l M.d+200<=N->Hn A aB l w sg ρ D M Γ Φ μ->Bd (bQ wC l M.c+bL wC e M.c) (bQ wQ l M.q+bL wQ e M.q) sg->I bR->
  gC A aB (fy (LL l ρ) (λa=>ev e ρ) sg) w Q X->(∀f m9 h aI,An w f->SR A aB f m9 .u h->Bd (bL wC e M.c) (bL wQ e M.q) m9->gC A aB (ev e ρ m9) f Q X->I aI->Qn aI h)->kX cy (fF<|us (E.C l)) Qn bR μ:=by
 induction l with
 |nil=>
  intro w sg μ bR _ r b i H fin;exact j3<|fin w sg μ bR (.j w) r.s (b.I (qr _ _)<|qr _ _) H i
 |cons e1 l ih=>
  intro w sg μ bR hd r b i H fin;have hd:max (bL wD e1 M.d) (bQ wD l M.d)+200<=N:=hd;have b:Bd (bL wC e1 M.c+bQ wC l M.c+bL wC e M.c) (bL wQ e1 M.q+bQ wQ l M.q+bL wQ e M.q) sg:=b;rw[qT,qT]at b;have H:gC A aB (fy (ev e1 ρ) (λa=>fy (LL l ρ) λa=>ev e ρ) sg) w Q X:=(Lg (m:=ev e1 ρ) (g:=λa=>LL l ρ) (g2:=λa=>ev e ρ))▸H;refine gi (its:=fF<|us (E.C l))<|n _ _ _ _ i (o e1 (qg (qF (xK _ _) _) hd) (r.c<|b.I (qj _ _) (qj _ _))<|mx.q H λv m9 e2 h f l2 s tx x=>?_);exact ih (qg (qF (xL _ _) _) hd) (r.p l2 s) (b.g (Bt e1 r.k) e2).1 (hI _ _ i) x λj p u aI k=>fin j p u aI<|l2.i k
abbrev sqT:iH:=Ks<|kg (bC<|bC (bC<|bC (bC<|bC oU)))
abbrev X3(ad:qe U)(C:be)(R:UQ)(Xs:ce):qe U->ce->ce:=λvs K ρ μ=>jL [.eF] vs ρ λρ=>bZ ad C (LZ<|kg sqT) R Xs K ρ μ
end
section
variable{ad:qe U}{n N:qc}{Q:UQ}{X:Mu->Prop}{μ bS aB:Mu}{C:be}{A:Ad}{w:Wm}{sg:Sg}{ρ:Ev}{bR:UL}{D:iP}{M:Ms}{Γ Φ:qe qd}{e:E}{l:qe E}{R:UQ}{Xs P:ce}{ts:qe T}{t:T}{env u:U}{p:Pw}
theorem KY(n:qc):acD (n+1) (-1)=n:=by
 unfold clipAt;rw[qK (by decide)]
 exact ak4
theorem FZ(q:d9 b .F m Q μ):iA b (.A .F (m++[v])) .u (.j (-1)) Q μ:=by
 unfold iA;show d9 b .F (((m++[v]).take (acD (m++[v]).length (-1))).drop 0) Q μ;rw[qs,show[v].length=1 from dq,KY,alW];exact q
theorem ac5(a:bR .f=dA (T.A .y (ts++[t])).u)(q:kX (X3 ad C R Xs) (fF (us ts)) (bZ ad C (bC sqT) R Xs (bZ ad C (bC (bC (bC (bC (bC (bC (bC oU))))))) R Xs P)) bR μ):bZ ad C oU R Xs P bR μ:=by
 have a:bR .f=dA (.A (.f .jJ [.fV]) [.A .F (us ts++[t.u])]):=a.trans<|qh (λl=>dA<|U.A (.f .jJ [.fV]) [.A .F l]) (mz ts [t]);exact ac a<|ac a (ac a<|ac a (ac a<|ac a (ac a<|ac a (FZ q))))
theorem Xg(a:bR .eF=dA u)(e1:bR .D=dA env)(e2:bR .k=dA (.d A.l))(q:C (.r .K) [u,env,.d A.l] (cEx (P bR)) (Xs bR) μ):bZ ad C (LZ (kg sqT)) R Xs P bR μ:=ac a<|ac e1 (ac e2 q)
theorem Xh(a:bR .f=dA (T.A .y (ts++[t])).u)(e1:bR .D=dA env)(e2:bR .k=dA (.d A.l))(q:C (.r .K) [t.u,env,.d A.l] R (Xs bR) μ):bZ ad C (bC sqT) R Xs P bR μ:=by
 refine ac a ?_;show dB (u1 (us<|ts++[t]) (-1)) _;rw[mz,show us [t]=[t.u]from dq,Fe];exact ac e1<|ac e2 q
theorem Ra(h:QQ μ (ts++[t])):QQ μ ts/\Tx μ t:=by
 induction ts with
 |nil=>exact⟨oy,h.1⟩
 |cons a l ih=>exact⟨⟨h.1,(ih h.2).1⟩,(ih h.2).2⟩
theorem R5(h3:lJ ad A aB (n+3))(hd:bL wD (.y l e) M.d+200<=n+4)(r:Do A aB (.y l e) w sg ρ D M Γ Φ μ)(H:gC A aB (ev (.y l e) ρ sg) w Q X):aJ ad (n+4) (.r .K) [(E.y l e).t.u,iY D,.d A.l] Q X μ:=
 f7 r λbS S=>ac5 dq (by
  have H:gC A aB (fy (LL l ρ) (λb=>ev e ρ) {sg with e:=sg.e+1}) w Q X:=H
  have hd:3+max (bQ wD l M.d) (bL wD e M.d)+200<=n+4:=hd;have fr:Fr Γ Φ (lM l++bd e):=r.j;have len:D.length+(lM l++bd e).length<eC:=r.u;rw[qs]at len;have a:0+ku (E.C l++[e.t])+1<eC:=r.a;rw[nq]at a;have a:0+(ku (E.C l)+(sz e.t+0))+1<eC:=a;have tx:QQ aB (E.C l)/\Tx aB e.t:=Ra r.J.2;have b1:Bd (bQ wC l M.c+bL wC e M.c) (bQ wQ l M.q+bL wQ e M.q) {sg with e:=sg.e+1}:=(Bd.I (c':=1+(bQ wC l M.c+bL wC e M.c)) r.p (qm _) (by show _<=0+(bQ wQ l M.q+bL wQ e M.q);exact ak3)).f
  refine Yc (e:=e) h3 (I:=λbR=>bR .f=dA (T.A .y<|E.C l++[e.t]).u/\bR .D=dA (iY D)/\bR .k=dA (.d A.l)) (λt K bR μ i h=>Xg (bR:=bR.H .eF t) dq i.2.1 i.2.2 h) (λb b i=>i) l (by exact ak1 hd) ⟨r.d.1,fr.g,r.o,r.m,r.k,by exact ago len,tx.1,by exact ak0 a,S⟩ b1 ⟨dq,dq,dq⟩ (mx.j H) λj m9 k aI l2 f b2 g i=>?_
  exact Xh i.1 i.2.1 i.2.2 (h3 e (by exact akZ hd) ⟨r.d.2,fr.i,r.o,r.m.G l2,r.k,by exact agn len,tx.2,by exact akY a,b2,f⟩ g))
theorem LY{W:U}{K:UQ}(a:LP W)(q:K (.z p.z) μ):EE W (.j p.f) K μ:=by
 induction a with
 |mk h=>
  show dB (Er _ _ _) _;rw[h p];exact q
theorem aba{f:Nm}(e2:bR .k=dA (.d A.l))(q:dF (oY ad C bR X) (fF (us ts)) [] (λvs μ=>C (.r f) [u,.A .F vs,.d A.l] R X μ) μ):dF (oY ad C bR X) (fF (us ts)) [] (PQ np (cE1 (FQ ad C (.o (.s .k) .t) X bR) (cE2 u (Jk C f R X)))) μ:=by
 have e:(PQ np (cE1 (FQ ad C (.o (.s .k) .t) X bR) (cE2 u (Jk C f R X))))=λvs μ=>C (.r f) [u,.A .F vs,.d A.l] R X μ:=by
  funext vs μ;show dB (bR .k) _=_;rw[e2];rfl
 rw[e];exact q
theorem Xf(S:SR A aB w sg .u μ)(a:bR .f=dA (T.A (.A p) ts).u)(e2:bR .k=dA (.d A.l))(q:dF (oY ad C bR (Xs bR)) (fF (us ts)) [] (λvs μ=>C (.r .bX) [.z p.z,.A .F vs,.d A.l] R (Xs bR) μ) μ):bZ ad C oU R Xs P bR μ:=
 ac a (ac a<|ac a (ac a<|ac e2 (bF S.l<|ac a (LY (p:=p) S.Y<|ac a (aba e2 q)))))
theorem wO(e1:bR .D=dA env)(e2:bR .k=dA (.d A.l)){K:qk U->Mu->Prop}(q:C (.r .bf) [u,env,.d A.l] (km K) X μ):oY ad C bR X [u] K μ:=ac (ρ:=bR.H .eF u) (x:=.D) e1<|ac (ρ:=bR.H .eF u) (x:=.k) e2 q
theorem M8(h2:lJ ad A aB (n+2))(hd:bL wD (.A p l) M.d+200<=n+4)(r:Do A aB (.A p l) w sg ρ D M Γ Φ μ)(H:gC A aB (ev (.A p l) ρ sg) w Q X):aJ ad (n+4) (.r .K) [(E.A p l).t.u,iY D,.d A.l] Q X μ:=
 f7 r λbS S=>Xf S dq dq (by
  have H:gC A aB (fy (oz l ρ) (λvs=>jp p vs) {sg with e:=sg.e+1}) w Q X:=H
  have hd:3+0+bQ wD l M.d+200<=n+4:=hd;have a:0+ku (E.C l)+1<eC:=r.a;have b1:Bd (bQ wC l M.c+0) (bQ wQ l M.q+1) {sg with e:=sg.e+1}:=(Bd.I (c':=1+(bQ wC l M.c+0)) r.p (by show _<=1+0+bQ wC l M.c;exact akX) (by show _<=0+1+bQ wQ l M.q;exact agv)).f
  refine wG (N:=n+1) h2 (λt K μ h=>wO dq dq h) l (by exact akW hd) ⟨r.d.2,r.j,r.o,r.m,r.k,r.u,r.J.2,by exact akV a,S⟩ (b1.I (qm _)<|qj _ _)<|mx.q H λvs m9 e2 i g l2 b e f=>?_
  obtain⟨_,hl,_⟩:=b1.g (CS l r.k) e2;exact Sn (n:=n) (hl.trans r.d.1) b e (mx.j f))
end
abbrev clT:iH:=bC<|bC (bC eR.a)
abbrev P3:iH:=LZ<|kg (bC clT)
abbrev U3:iH:=bC clT
section
variable{ad:qe U}{μ aB:Mu}{A:Ad}{w:Wm}{sg:Sg}{ρ:Ev}{bR:UL}{D:iP}{M:Ms}{Γ Φ:qe qd}{e:E}{R:UQ}{i:qc}
theorem WJ(e1:bR .iV=dA (.A .F [.z ⟨23⟩,u,iY D,.j m]))(q:∀i,μ i=ft->bZ ad C clT R Xs P ((bR.H .M u).H .y (.d i)) (μ.H i (dM D))):bZ ad C eR.a R Xs P bR μ:=ac e1<|ac e1 (ac e1<|ac e1 (ac e1<|ac e1 q))
theorem abJ(e1:bR .iV=dA Ig)(e2:bR .Q=dA (.A .F vs))(hl:vs.length<eC)(c:vs.length=1->∀v,vs=[v]->R v μ)(a:vs.length≠1->R (.A .F (.z .cB::vs)) μ):bZ ad C eR.a R Xs P bR μ:=by
 refine ac e1<|ac e1 (ac e2<|b7 (b:=(vs.length:qd)==1) (λh=>?_) λh=>?_)
 ·have k:vs.length=1:=Zo<|eq_of_beq h;obtain⟨v,z⟩:=aiT k;rw[z]at e2;exact ac e2<|c k v z
 ·exact ac e2 ⟨by show 1+vs.length<aH;exact q9 (Zh hl 1) (by decide),a λk=>by rw[k]at h;exact qH h (by decide)⟩
theorem Ji(e1:bR .M=dA (T.A (.a lb ps rest) [t]).u)(e2:bR .Q=dA (.A .F vs))(e3:bR .k=dA (.d A.l))(a:(vs.length<ps.length\/(ps.length<vs.length/\rest<0))->∀K,C (.r .bY) [.d A.l,.z ⟨110⟩,.j (vs.length:qc)] K (Xs bR) μ)(c:¬(vs.length<ps.length\/(ps.length<vs.length/\rest<0))->bZ ad C U3 R Xs P bR μ):bZ ad C clT R Xs P bR μ:=by
 have e:(bK ps).length=ps.length:=dU ps;refine ac e2<|ac e1 (b7 (b:=decide<|(vs.length:qd)<((bK ps).length:qd)) (λh=>?_) λh=>?_)
 ·exact ac e3<|ac e2 (a (.inl<|e▸xV.mp (qC h)) _)
 ·have h:¬vs.length<ps.length:=λz=>xG h<|xV.mpr (e.symm▸z);refine ac e2<|ac e1 (b7 (b:=decide<|(vs.length:qd)>((bK ps).length:qd)) (λh2=>?_) λh2=>?_)
  ·have h2:ps.length<vs.length:=e▸xV.mp (qC h2);refine ac e1<|b7 (b:=decide<|rest<0) (λh3=>?_) λh3=>?_
   ·exact ac e3<|ac e2 (a (.inr ⟨h2,qC h3⟩) _)
   ·exact c λz=>z.elim h λz=>xG h3 z.2
  ·exact c λz=>z.elim h λz=>xG h2<|xV.mpr (e.symm▸z.1)
theorem P7(e1:bR .j=dA (.j x))(e2:bR .m=dA v)(e3:bR .y=dA (.d i))(h:μ i=dA (dM D))(n:D.length+1<aH)(q:∀c,μ c=ft->P bR ((μ.H c (Dm v)).H i (dM (jm D x (.d c))))):bZ ad C P3 R Xs P bR μ:=ac e2 λc hc=>ac e3<|ac e1 (Ci ((ap _ _<|bz h hc).trans h) n<|q c hc)
theorem WG(e1:bR .M=dA (T.A (.a lb ps rest) [t]).u)(e2:bR .Q=dA (.A .F vs))(q:kX (λvs K ρ μ=>jL [.j,.m] vs ρ λρ=>bZ ad C P3 R Xs K ρ μ) (sE (bK ps) vs) (bZ ad C (bC U3) R Xs P) bR μ):bZ ad C U3 R Xs P bR μ:=ac e1<|ac e2 q
theorem abG(hr:0<=rest)(e1:bR .M=dA (T.A (.a lb ps rest) [t]).u)(e2:bR .Q=dA (.A .F vs))(e3:bR .k=dA (.d A.l))(hl:ps.length<=vs.length)(q:C (.r .bX) [.z .B,.A .F (vs.drop ps.length),.d A.l] (λv μ=>∀c,μ c=ft->uE ad C (.s .y) np (Xs bR) bR (afU (.d c) (uE ad C (.d (.s .M) .R) np (Xs bR) bR) (bZ ad C (bC (bC U3)) R Xs P bR)) (μ.H c (Dm v))) (Xs bR) μ):bZ ad C (bC U3) R Xs P bR μ:=by
 rw[←dU ps]at q hl;exact ac e1<|WH (b:=decide<|rest>=0) (decide_eq_true hr) (ac e2<|ac e1 (ny hl<|ac e3 q))
theorem PO(hr:¬0<=rest)(e1:bR .M=dA (T.A (.a lb ps rest) [t]).u)(q:bZ ad C (bC (bC U3)) R Xs P bR μ):bZ ad C (bC U3) R Xs P bR μ:=ac e1<|abH (b:=decide<|rest>=0) (xN hr) q
theorem WI(e1:bR .M=dA (T.A (.a lb ps rest) [t]).u)(e3:bR .k=dA (.d A.l))(e4:bR .y=dA (.d i))(m:μ i=dA (dM D))(q:C (.r .K) [t.u,iY D,.d A.l] R (Xs bR) (μ.H i ⟨hY,.d (D.map (·.1)),D.map (·.2)⟩)):bZ ad C (bC (bC U3)) R Xs P bR μ:=ac e1<|ac e4 (bF m<|ac e3 q)
end
structure BI(A:Ad)(aB:Mu)(w:Wm)(sg:Sg)(ρ:Ev)(D:iP)(M:Ms)(Γ Φ:qe qd)(i c q:qc)(bR:UL)(μ:Mu):Prop where
 s:SR A aB w sg .u μ
 j:μ i=dA (dM D)
 r:aB i=ft
 u:A.m≠i
 m:Ap aB w ρ D M
 o:Lv Γ Φ ρ
 k:og ρ M.c M.q
 p:Bd c q sg
 e:bR .y=dA (.d i)
section
variable{ad:qe U}{μ aB:Mu}{A:Ad}{w:Wm}{sg:Sg}{ρ:Ev}{bR:UL}{D:iP}{M:Ms}{Γ Φ:qe qd}{e:E}{i c q:qc}
theorem BI.y(B:BI A aB w sg ρ D M Γ Φ i c q bR μ):w i=ft:=by
 cases e:w i with
 |none=>rfl
 |some x=>exact qH dq (iz (B.s.H i x e) B.j λz=>nomatch z)
theorem BI.H(B:BI A aB w sg ρ D M Γ Φ i c q bR μ)(n:μ b=ft)(t:lN aB v)(d:vd v<=sg.r)(h:x∉Φ)(g f:U):BI A aB (w.H b (.inl sg.c.length)) (eT v sg) (ρ.p x sg.c.length) (jm D x (.d b)) M (x::Γ) Φ i c q ((bR.H .j g).H .m f) ((μ.H b (Dm (vU v))).H i (dM (jm D x (.d b)))):=
 have a:=B.s.K n t;have bi:=bz B.j n;have l:=An.H (.inl sg.c.length)<|B.s.Z n
 ⟨a.B _ ((v7 _ _ bi).trans B.y) (iz a.l ((ap _ _ bi).trans B.j) λz=>nomatch z) (iz a.C ((ap _ _ bi).trans B.j) λz=>nomatch z) B.u B.r,aE _ _ _,B.r,B.u,B.m.p l<|jX _ _ _,B.o.p h _,B.k.p x _,⟨Jb B.p.d d,B.p.c,B.p.q,B.p.t⟩,B.e⟩
theorem UP{Q:UQ}{X:Mu->Prop}{Qn:ce}{ad:qe U}{C:be}{R:UQ}{Xs:ce}{I:UL->Prop}(hI:∀ρ x v,I ρ->I ((ρ.H .j x).H .m v)){k:Ev->Mo Internal.R}(ps:qe qd):∀{vs:qe V} {w:Wm} {sg:Sg} {ρ:Ev} {D:iP} {μ:Mu} {bR:UL} {Γ:qe qd},ps.length<=vs.length->(∀x∈ps,x∉Φ)->(∀v∈vs,lN aB v/\vd v<=sg.r)->D.length+ps.length<eC->BI A aB w sg ρ D M Γ Φ i c q bR μ->I bR->gC A aB (cT ps vs ρ k sg) w Q X->
  (∀a m9 h j g f,An w a->BI A aB a m9 h j M (ps.reverse++Γ) Φ i c q f g->I f->j.length<=D.length+ps.length->m9.r=sg.r->gC A aB (k h m9) a Q X->Qn f g)->kX (λvs K ρ μ=>jL [.j,.m] vs ρ λρ=>bZ ad C P3 R Xs K ρ μ) (sE (bK ps)<|vs.map vU) Qn bR μ:=by
 induction ps with
 |nil=>
  intro vs w sg ρ D μ bR Γ _ _ _ _ B i H fin;have H:gC A aB (k ρ sg) w Q X:=by cases vs<;>exact H
  exact j3<|fin w sg ρ D μ bR (.j w) B i (qm _) dq H
 |cons x ps ih=>
  intro vs w sg ρ D μ bR Γ hl d l hd B i H fin;cases vs with
  |nil=>exact qH hl<|zr _
  |cons v vs=>
   have m:D.length+1+ps.length<eC:=by rw[qT,xa 1];exact hd
   refine gi (its:=sE (bK ps)<|vs.map vU)<|P7 (bR:=(bR.H .j _).H .m _) dq dq B.e B.j (gY<|qi (qj _ _) m) λb hb=>?_;refine ih (vs:=vs) (sg:=eT v sg) (ρ:=ρ.p x sg.c.length) (zV hl) (λy n=>d y<|.tail _ n) (λu hu=>l u<|.tail _ hu) (qi (qF (gF _ _ _) _) m) (B.H hb (l v<|.head _).1 (l v<|.head _).2 (d x<|.head _) _ _) (hI _ _ _ i) (mx.I (show gC A aB (cT ps vs (ρ.p x sg.c.length) k<|eT v sg) w Q X from H)<|An.H _ (B.s.Z hb)) λa m9 h j g f l2 s i2 p o r=>fin a m9 h j g f ((An.H _<|B.s.Z hb).i l2) (by rw[z0,qR];exact s) i2 (qg p<|qg (qF (gF _ _ _) _) (by rw[qT,xa 1];exact qm _)) o r
end
section
variable{ad:qe U}
theorem BJ(a:lJ ad A aB (n+2))(ok:QB aB c uY cc qq dd)(hd:dd+200<=n+2)(B:BI A aB w sg ρ D c.M Γ c.g i (bL wC c.e c.M.c) (bL wQ c.e c.M.q) bR μ)(e1:bR .M=dA (Kh c.f c.b c.a c.e))(e2:bR .k=dA (.d A.l))(b:∀x∈c.b++rs c.a++c.h,x∈Γ)(hl:D.length+(bd c.e).length<eC)(H:gC A aB (ev c.e ρ sg) w Q X):
  bZ ad (aJ ad<|n+2) (bC<|bC U3) (cD Wk Q) (λd=>X) P bR μ:=
 WI e1 e2 B.e B.j (a c.e (qg (qF ok.i _) hd) ⟨ok.d,ok.j.b,B.o.s b,B.m,B.k,hl,ok.J,ok.a,B.p,B.s.B _ B.y (iz B.s.l B.j λz=>nomatch z) (iz B.s.C B.j λz=>nomatch z) B.u B.r⟩<|mx.j H)
theorem abN(h:m s=.c x s'):fy m g s=g x s':=by unfold fy;rw[h]
theorem Fi(r:lJ ad A aB (n+2))(ok:QB aB c uY cc qq dd)(hd:dd+200<=n+2)(S:SR A aB w sg .u μ)(env:Ap aB w c.d c.D c.M)(k:∀v∈vs,lN aB v/\vd v<=sg.r)(b:Bd cc (vs.length+qq) sg)(H:gC A aB (uY vs sg) w Q X):aJ ad (n+3) (.r .dR) [c.u,.A .F (vs.map vU),.d A.l] Q X μ:=by
 refine aC (fn:=eR) dq dq<|WJ dq λi hi=>?_;have B:=S.G (dM c.D) hi;have lv:(vs.map vU).length=vs.length:=qI ..
 have H:gC A aB ((if vs.length<c.b.length\/(c.b.length<vs.length/\c.a<0)then vZ ⟨110⟩ (.j vs.length)else cT c.b vs c.d λρ=>if 0<=c.a then fy (mD (vs.drop c.b.length)) λv s=>ev c.e (ρ.p c.a s.c.length) (eT v s)else ev c.e ρ) sg) w Q X:=by
  rw[ok.b]at H;exact H
 refine Ji (bR:=(UL.H _ _ _).H _ _) dq dq dq (λhc K=>?_) λhc=>?_
 ·rw[lv]at hc⊢;rw[qK hc]at H;exact mX (t:=.j vs.length) B H oy<|qP _
 ·rw[lv]at hc;rw[if_neg hc]at H;have hl:=ok.u;rw[qs,qs]at hl;have fr:=ok.j.2
  have T:BI A aB w sg c.d c.D c.M c.h c.g i (0+bL wC c.e c.M.c) ((vs.drop c.b.length).length+bL wQ c.e c.M.q) ((((((UL.H (λj=>ft) .iV c.u).H .Q (.A .F (vs.map vU))).H .k (.d A.l)).H .M (Kh c.f c.b c.a c.e)).H .y (.d i))) (μ.H i (dM c.D)):=
   ⟨B,aE _ _ _,S.I.u hi,bz S.m hi,env,ok.o,ok.k,b.I (by rw[vu];exact ok.e)<|qM (by rw[abY];exact ahy _ _) ok.f,dq⟩
  refine WG dq dq<|UP (I:=λbR=>bR .M=dA (Kh c.f c.b c.a c.e)/\bR .Q=dA (.A .F<|vs.map vU)/\bR .k=dA (.d A.l)) (λj j j i=>i) c.b (FB λz=>hc<|.inl z) (λx d=>(fr x<|qx _ (qx _ d)).2) k (by exact agp hl) T ⟨dq,dq,dq⟩ H λE m9 O p U P l2 a i2 o G g=>?_
  by_cases hr:0<=c.a
  ·rw[qK hr]at g;have f:rs c.a=[c.a]:=qK hr;have l:c.a∉c.g:=(fr c.a (qx _ (qJ _ (f▸.head _)))).2;rw[f]at hl;have hl:c.D.length+(c.b.length+1+(bd c.e).length)<eC:=hl;refine abG hr i2.1 i2.2.1 i2.2.2 (by rw[lv];exact FB λz=>hc (.inl z)) ?_
   rw[←List.map_drop];refine Tf a.s (λv h=>(k v<|ZD h).1) λC N v em F y m b hb=>?_;have h3:C i=dA (dM p):=(m i (iz a.s.l a.j λz=>nomatch z).symm).trans a.j
   obtain⟨L,J⟩:=Bd.j (C5<|vs.drop c.b.length) ⟨rfl,λv h=>G▸(k v<|ZD h).2⟩ a.p em;have R:BI A aB E N O p c.M (c.b.reverse++c.h) c.g i (bL wC c.e c.M.c) (bL wQ c.e c.M.q) P C:={a with s:=y,j:=h3,p:=L}
   rw[abN em]at g;refine ac a.e<|ac i2.1 (Ci ((ap _ _<|bz h3 hb).trans h3) (gY (by exact akU o hl)) ?_)
   refine BJ (D:=jm p c.a<|.d b) r ok hd {R.H hb F J l .u .u with e:=a.e} i2.1 i2.2.2 (λx d=>?_) (qi (qF (gF _ _ _) _) (by exact akS o hl))<|mx.I g (.H _<|y.Z hb)
   rw[f]at d;refine(qY.mp d).elim (λh=>(qY.mp h).elim (λh=>.tail _<|qx _ (aeV.mpr h)) λh=>qD.mp h▸.head _) λh=>.tail _<|qJ _ h
  ·rw[if_neg hr]at g;have f:rs c.a=[]:=if_neg hr;rw[f]at hl;refine PO hr i2.1 (BJ r ok hd {a with p:=a.p.I (qr _ _) (qr _ _)} i2.1 i2.2.2 (λx d=>?_) (by have:([]:qe qd).length=0:=dq;exact akR hl o) g)
   rw[f,qO]at d;exact qY.mpr<|(qY.mp d).imp aeV.mpr id
end
section
variable{ad:qe U}{n N:qc}{Q:UQ}{X:Mu->Prop}{μ bS aB:Mu}{C:be}{A:Ad}{w:Wm}{sg:Sg}{ρ:Ev}{bR:UL}{D:iP}{M:Ms}{Γ Φ:qe qd}{e:E}{l:qe E}{R:UQ}{x g:qd}{b:E}{c:Vm}{uY:AH}
theorem FI{Xs P:ce}{x:Nm}{vs:qe U}(e1:bR .fE=dA (.A .F (.z x::vs)))(ne:decide (x=.cB)=np)(q:R (.A .F (.z x::vs)) μ):bZ ad C (bC cZ.a) R Xs P bR μ:=ac e1<|ac e1 (abH ne<|ac e1 q)
theorem yH(S:SR A aB w sg .u μ)(hc:sg.e+1<=5000)(q:∀bS,SR A aB w {sg with e:=sg.e+1,d:=sg.d+1} .u bS->Q (.A .F [.z ⟨23⟩,Kh lb ps rest b,iY D,.j (sg.d+1:qc)]) bS):aJ ad (n+3) (.r .bf) [Kh lb ps rest b,iY D,.d A.l] Q X μ:=
 aC (fn:=cZ) dq dq (BP dq dq dq<|aC (fn:=fR) dq dq (wa S dq hc λj4 d=>ac7 dq dq dq<|Cp d (by show 2<eC;decide) λa c e=>.j<|FI (bR:=UL.H _ _ _) dq dq (.j<|q a c)))
theorem J7(S:SR A aB w sg .u μ)(hc:sg.e+1<=5000)(q:∀bS,SR A aB w {sg with e:=sg.e+1} .u bS->Q Ig bS):aJ ad (n+3) (.r .bf) [(T.A (.B 4) []).u,iY D,.d A.l] Q X μ:=
 aC (fn:=cZ) dq dq (BP dq dq dq<|aC (fn:=fR) dq dq (wa S dq hc λj4 a=>L4 dq dq dq<|aC (fn:=gw) dq dq (Qe dq<|aaQ dq dq a (.j<|.j (FI (bR:=UL.H _ _ _) dq dq<|.j (q j4 a))))))
theorem Oc{a:qc}(S:SR A aB w sg .u μ)(hc:sg.e+1<=5000)(d:w a=dA (.inr c.u))(e:eA D x=dA (.d a))(q:∀bS,SR A aB w {sg with e:=sg.e+1} .u bS->Q c.u bS):aJ ad (n+2) (.r .bf) [(T.A (.s x) []).u,iY D,.d A.l] Q X μ:=
 aC (fn:=cZ) dq dq (BP dq dq dq<|aC (fn:=fR) dq dq (wa S dq hc λj4 b=>Vu (u:=c.u) dq dq e (b.H a _ d) (λK q=>q)<|.j (FI (bR:=UL.H _ _ _) dq dq<|.j (q j4 b))))
theorem Ap.r(h:Ap aB w ρ D M)(e:ρ.f x=dA uY):∃c:Vm,(∃a,w a=dA (.inr c.u)/\eA D x=dA (.d a))/\QB aB c uY (M.c x) (M.q x) (M.d x)/\Ap aB w c.d c.D c.M:=by
 cases h with|mk i cl b g=>exact⟨cl x,(b x _ e).1,(b x _ e).2,g x _ e⟩
theorem R8(h2:lJ ad A aB (n+2))(hd:bL wD (.D lb ps rest b l) M.d+200<=n+4)(r:Do A aB (.D lb ps rest b l) w sg ρ D M Γ Φ μ)(H:gC A aB (ev (.D lb ps rest b l) ρ sg) w Q X):aJ ad (n+4) (.r .K) [(E.D lb ps rest b l).t.u,iY D,.d A.l] Q X μ:=
 f7 r λbS S=>by
  have H:gC A aB (fy (oz l ρ) (λvs=>gB ps rest (ev b) ρ vs) {sg with e:=sg.e+1+1,d:=sg.d+1}) w Q X:=H
  have hd:3+0*l.length+max (bL wD b M.d) (bQ wD l M.d)+200<=n+4:=hd;have a:0+((ps.length+(sz b.t+0)+1)+ku (E.C l))+1<eC:=r.a;have fr:Fr Γ Φ (ps++rs rest++bd b++lM l):=r.j;have len:D.length+(ps++rs rest++bd b++lM l).length<eC:=r.u;rw[qs]at len;have f:sz b.t<eC:=by exact akQ a
  have e:D.length+(ps++rs rest++bd b).length<eC:=by exact ago len
  have b1:Bd (1+(1+(bQ wC l M.c+bL wC b M.c))) (bQ wQ l M.q+(l.length+bL wQ b M.q)) sg:=Bd.I r.p (by show _<=2+0*l.length+(bL wC b M.c+bQ wC l M.c);exact ab4) (by show _<=0+1*l.length+(bL wQ b M.q+bQ wQ l M.q);exact ab3)
  have b2:Bd (bQ wC l M.c+bL wC b M.c) (bQ wQ l M.q+(l.length+bL wQ b M.q)) {sg with e:=sg.e+1+1,d:=sg.d+1}:=b1.f.f.i
  refine w_call dq dq dq<|yH S (qg (qn (qj 1 _) _) b1.f.c) λx m=>?_;refine Hv (ρ:=UL.H _ _ _) dq dq dq<|wG (N:=n+1) h2 (λt K μ h=>wO (bR:=UL.H _ _ _) dq dq h) l (by exact agm hd) ⟨r.d.2,fr.i,r.o,r.m,r.k,by exact agn len,r.J.2.2,by exact akP a,m⟩ (b2.I (qj _ _)<|qj _ _) (mx.q H λvs y e3 z s g k o p=>?_)
  obtain⟨j,hl,i⟩:=b2.g (CS l r.k) e3;exact Fi (c:=⟨lb,ps,rest,b,ρ,D,M,sg.d+1,Γ,Φ⟩) (cc:=bL wC b M.c) (qq:=bL wQ b M.q) (dd:=bL wD b M.d) h2 ⟨dq,r.d.1,fr.g,r.o,r.k,qm _,qm _,qm _,r.J.2.1.2.1,f,e⟩ (by exact agl hd) k (r.m.G g) (λv h=>⟨o v h,i v h⟩) (hl▸j)<|mx.j p
theorem JQ(h2:lJ ad A aB (n+2))(hd:bL wD (.L g l) M.d+200<=n+4)(r:Do A aB (.L g l) w sg ρ D M Γ Φ μ)(H:gC A aB (ev (.L g l) ρ sg) w Q X):aJ ad (n+4) (.r .K) [(E.L g l).t.u,iY D,.d A.l] Q X μ:=
 f7 r λbS S=>(r.o.2 g r.d.1).elim λuY b=>by
  obtain⟨c,⟨a,j,m⟩,ok,o⟩:=r.m.r b;have H:gC A aB (fy (oz l ρ) (λvs=>match ρ.f g with|some d=>d vs|none=>ret<|.E un) {sg with e:=sg.e+1+1}) w Q X:=H
  rw[b]at H;have hd:3+0*l.length+max (M.d g) (bQ wD l M.d)+200<=n+4:=hd;have i:0+((0+0+1)+ku (E.C l))+1<eC:=r.a;have b1:Bd (1+(1+(bQ wC l M.c+M.c g))) (bQ wQ l M.q+(l.length+M.q g)) sg:=Bd.I r.p (by show _<=2+0*l.length+(M.c g+bQ wC l M.c);exact ab4) (by show _<=0+1*l.length+(M.q g+bQ wQ l M.q);exact ab3)
  have b2:Bd (bQ wC l M.c+M.c g) (bQ wQ l M.q+(l.length+M.q g)) {sg with e:=sg.e+1+1}:=b1.f.f
  refine w_call dq dq dq<|Oc (n:=n+1) S (qg (qn (qj 1 _) _) b1.f.c) j m λC x=>?_;refine Hv (ρ:=UL.H _ _ _) dq dq dq<|wG (N:=n+1) h2 (λt K μ h=>wO (bR:=UL.H _ _ _) dq dq h) l (by exact agm hd) ⟨r.d.2,r.j,r.o,r.m,r.k,r.u,r.J.2.2,by exact agk i,x⟩ (b2.I (qj _ _)<|qj _ _) (mx.q H λvs F e3 G B e s y z=>?_)
  obtain⟨p,hl,k⟩:=b2.g (CS l r.k) e3;exact Fi h2 ok (by exact agl hd) s (o.G e) (λv h=>⟨y v h,k v h⟩) (hl▸p)<|mx.j z
theorem M9(h2:lJ ad A aB (n+2))(hd:bL wD (.I l) M.d+200<=n+4)(r:Do A aB (.I l) w sg ρ D M Γ Φ μ)(H:gC A aB (ev (.I l) ρ sg) w Q X):aJ ad (n+4) (.r .K) [(E.I l).t.u,iY D,.d A.l] Q X μ:=
 f7 r λbS S=>by
  have H:gC A aB (fy (oz l ρ) (λvs=>ret<|manyR vs) {sg with e:=sg.e+1+1}) w Q X:=H
  have hd:3+bQ wD l M.d+200<=n+4:=hd;have m:0+((0+0+1)+ku (E.C l))+1<eC:=r.a;have b1:Bd (1+(1+(bQ wC l M.c+0))) (bQ wQ l M.q+0) sg:=Bd.I r.p (by show _<=2+bQ wC l M.c;exact agt) (by show _<=0+bQ wQ l M.q;exact agq)
  have b2:Bd (bQ wC l M.c+0) (bQ wQ l M.q+0) {sg with e:=sg.e+1+1}:=b1.f.f
  refine w_call dq dq dq<|J7 S (qg (qn (qj 1 _) _) b1.f.c) λs p=>?_;refine Hv (ρ:=UL.H _ _ _) dq dq dq<|wG (N:=n+1) h2 (λt K μ h=>wO (bR:=UL.H _ _ _) dq dq h) l (by exact akO hd) ⟨r.d,r.j,r.o,r.m,r.k,r.u,r.J.2.2,by exact agk m,p⟩ b2 (mx.q H λvs C e3 i a x f g j=>?_)
  obtain⟨B,hl,y⟩:=b2.g (CS l r.k) e3;have o:(vs.map vU).length=vs.length:=qI ..;have b:=j1<|E.C l;rw[DC]at b;have e:vs.length<eC:=by rw[hl];exact akN m b
  refine aC (fn:=eR) dq dq<|abJ dq dq (by show(vs.map vU).length<eC;rw[o,hl];exact akM hl e) (λk v z=>?_) λk=>?_
  ·cases vs with
   |nil=>cases z
   |cons u vs=>cases vs with
    |nil=>cases z;exact .j<|.j (j i a (.j a) f<|g u (.head _))
    |cons=>cases z
  ·cases vs with
   |nil=>exact .j<|.j (j i a (.j a) f ⟨g,by decide⟩)
   |cons u vs=>cases vs with
    |nil=>exact qH dq k
    |cons=>exact .j<|.j (j i a (.j a) f ⟨g,e⟩)
end
section
variable{ad:qe U}{n N:qc}{Q:UQ}{X:Mu->Prop}{μ bS aB:Mu}{A:Ad}{w:Wm}{sg:Sg}{ρ:Ev}{D:iP}{M:Ms}{Γ Φ:qe qd}{e b:E}{lb j2 rest x:qd}{ps:qe qd}{i:qc}{u:U}{R:UQ}{bR:UL}
theorem SR.atD(S:SR A aB w sg er μ)(h:μ i=dA (dM D))(h0:aB i=ft)(ig:A.m≠i)(c:Mc):SR A aB w sg er (μ.H i c):=
 S.B c (by
  cases e:w i with
  |none=>rfl
  |some x=>exact qH dq (iz (S.H i x e) h λz=>nomatch z)) (iz S.l h λz=>nomatch z) (iz S.C h λz=>nomatch z) ig h0
theorem FO(M:qd->qc)(x:qd)(n:qc):pI M x n x=n:=qK dq
theorem FM(M:qd->qc)(n:qc)(h:y≠x):pI M x n y=M y:=if_neg h
theorem ac6{C:be}{K:rj}{env:U}{t:T}(e1:bR .D=dA env)(e2:bR .k=dA (.d A.l))(q:C (.r .bf) [t.u,env,.d A.l] (λv μ=>K [v] μ) X μ):dF (oY ad C bR X) (fF (us [t])) [] K μ:=by
 show dF (oY ad C bR X) ([t.u]::[]) [] K μ;rw[dD];refine wO e1 e2 ?_;rw[show(km λv μ=>dF (oY ad C bR X) [] (@Option.casesOn U (λa=>qe U) v [] λw=>[]++[w]) K μ)=λv μ=>K [v] μ from funext λv=>funext λμ=>eX];exact q
theorem afT{P:ce}{C:be}{t:T}{v:U}(e1:bR .M=dA (T.A (.a lb [x] (-1)) [t]).u)(e2:bR .Q=dA (.A .F [v]))(e3:bR .k=dA (.d A.l))(e4:bR .y=dA (.d i))(m:μ i=dA (dM D))(n:D.length+1<aH)(q:∀c,μ c=ft->C (.r .K) [t.u,iY (jm D x (.d c)),.d A.l] R X (((μ.H c (Dm v)).H i (dM (jm D x (.d c)))).H i ⟨hY,.d ((jm D x (.d c)).map (·.1)),(jm D x (.d c)).map (·.2)⟩)):bZ ad C clT R (λa=>X) P bR μ:=by
 refine Ji e1 e2 e3 (λhc=>qH hc λz=>z.elim (λz=>xr 1 z) λz=>xr 1 z.1) λa=>WG e1 e2 ?_;refine gi (vs:=[.j x,v]) (its:=[]) ?_;refine P7 (bR:=(bR.H .j<|.j x).H .m v) dq dq e4 m n λc hc=>j3 ?_;exact PO (bR:=(bR.H .j<|.j x).H .m v) (by decide) e1<|WI (bR:=(bR.H .j<|.j x).H .m v) e1 e3 e4 (aE _ _ _) (q c hc)
theorem Na(h2:lJ ad A aB (n+2))(hd:bL wD (.H lb x j2 ps rest e b) M.d+200<=n+4)(r:Do A aB (.H lb x j2 ps rest e b) w sg ρ D M Γ Φ μ)(H:gC A aB (ev (.H lb x j2 ps rest e b) ρ sg) w Q X):aJ ad (n+4) (.r .K) [(E.H lb x j2 ps rest e b).t.u,iY D,.d A.l] Q X μ:=
 f7 r λbS S=>by
  have H:gC A aB (ev b (ρ.u x<|gB ps rest (ev e) ρ) {sg with e:=sg.e+1+1+1,d:=sg.d+1+1}) w Q X:=H
  have hd:3+3+bL wD b (pI M.d x<|bL wD e M.d)+200<=n+4:=hd;have g:bL wD b (pI M.d x<|bL wD e M.d)+200<=n+2:=by exact akL hd
  have k:0+((1+(sz b.t+0)+1)+((ps.length+(sz e.t+0)+1)+0))+1<eC:=r.a;have fr:Fr Γ Φ (x::(bd b++(ps++rs rest++bd e))):=r.j;have len:D.length+(x::(bd b++(ps++rs rest++bd e))).length<eC:=r.u;rw[ajT,qs]at len;have s:sz b.t<eC:=by exact akK k
  have p:sz e.t<eC:=by exact akJ k
  have o:D.length+(ps++rs rest++bd e).length<eC:=by exact akI len
  have j:D.length+1+(bd b).length<eC:=by exact akH len
  have b1:Bd (1+(1+(1+bL wC b (pI M.c x<|bL wC e M.c)))) (bL wQ b<|pI M.q x (bL wQ e M.q)) sg:=Bd.I r.p (by show _<=2+1+bL wC b (pI M.c x<|bL wC e M.c);exact agu) (by show _<=0+0+bL wQ b (pI M.q x<|bL wQ e M.q);exact akG)
  have v:Bd (bL wC b<|pI M.c x (bL wC e M.c)) (bL wQ b<|pI M.q x (bL wQ e M.q)) {sg with e:=sg.e+1+1+1,d:=sg.d+1+1}:=(b1.f.f.i.f).i
  refine w_call dq dq dq<|yH S (qg (qn (qj 1 _) _) b1.f.c) λG B=>?_;refine Hv (ρ:=UL.H _ _ _) dq dq dq<|ac6 (bR:=UL.H _ _ _) dq dq (yH B (qg (qn (qj 1 _) _) b1.f.f.c) λF h=>?_);refine aC (fn:=eR) dq dq<|WJ dq λi hi=>afT (bR:=(UL.H _ _ _).H _ _) dq dq dq dq (aE _ _ _) (gY<|qi (qj _ _) j) λc hc=>?_;have l:=h.G (dM D) hi;have t:=bz (aE F i<|dM D) hc
  let d:Vm:=⟨j2,ps,rest,e,ρ,D,M,sg.d+1+1,Γ,Φ⟩
  have a:=An.H (.inr d.u)<|l.Z hc;have i0:=h.I.u hi;have ig:=bz h.m hi;have z:=(l.adR d.u hc).atD ((ap _ _ t).trans (aE _ _ _)) i0 ig (dM<|jm D x (.d c));refine h2 b (M:=⟨pI M.c x<|bL wC e M.c,pI M.q x<|bL wQ e M.q,pI M.d x<|bL wD e M.d⟩) g ⟨r.d.1,fr.d.g,r.o.u fr.c.1 _,?_,?_,qi (qF (gF _ _ _) _) j,r.J.2.1.2.1,s,v,z.atD (aE _ _ _) i0 ig _⟩<|mx.j (mx.j<|mx.I H a)
  ·refine r.m.u a d (jX _ _ _) ⟨dq,r.d.2,fr.p.i,r.o,r.k,?_,?_,?_,r.J.2.2.1.2.1,p,o⟩ (r.m.G a) λy f=>⟨FM _ _ f,FM _ _ f,FM _ _ f⟩
   ·show _<=pI M.c x _ x;rw[FO];exact qm _
   ·show _<=pI M.q x _ x;rw[FO];exact qm _
   ·show _<=pI M.d x _ x;rw[FO];exact qm _
  ·exact r.k.u x λvs m=>Aa r.k (λρ C=>Bt e C) vs m
theorem X9{g:qd}(hd:bL wD (.G g e) M.d+200<=n+4):200<=n:=by
 have h:3+bL wD e M.d+200<=n+4:=hd;have:=Cv L5 e M.d;have:1<=bL wD e M.d:=this;exact akF h this
theorem Yv(N:qc):lJ ad A aB N:=by
 induction N using Nat.strongRecOn with
 |ind N ih=>
  intro e w sg ρ D M Γ Φ Q X μ hd r H;have k:200<=N:=qg (qr _ _) hd;obtain⟨n,rfl⟩:∃n,N=n+4:=⟨N-4,by exact akE k⟩
  have h1:=ih (n+1) (by exact akD)
  have h2:=ih (n+2) (by exact akC)
  have h3:=ih (n+3) (by exact ahe)
  cases e with
  |u=>exact JP r H
  |s=>exact R6 r H
  |B=>exact Nd r H
  |F=>exact M5 h1 hd r H
  |G=>exact M6 h1 (X9 hd) hd r H
  |v=>exact R7 h2 h3 hd r H
  |y=>exact R5 h3 hd r H
  |A=>exact M8 h2 hd r H
  |D=>exact R8 h2 hd r H
  |H=>exact Na h2 hd r H
  |L=>exact JQ h2 hd r H
  |I=>exact M9 h2 hd r H
end
inductive Da(μ:Mu):qc->U->Prop
 |z{n x}:Da μ n (.z x)
 |j{n i}:Da μ n (.j i)
 |q{n b}:Da μ n (.q b)
 |y{n a f xs l}(e:μ a=dA ⟨f,.f .N xs,l⟩):Da μ n (.d a)
 |H{n l}(h:∀u∈l,Da μ n u):Da μ (n+1) (.A .H l)
 |F{n l}(h:∀u∈l,Da μ n u):Da μ (n+1) (.A .F l)
section
variable{μ aB:Mu}{n:qc}{v:U}{l:qe U}
theorem yT{E:U->U->qw->Prop}(h:∀u∈l,E u u hY):Hp E l l hY:=
 ⟨λa=>hY,⟨λj x y c b=>(by rw[c]at b;cases b;exact h x<|xX c),qV.mpr λa a=>dq⟩⟩
theorem Da.o(h:Da μ n v):∀m,n<=m->BM μ (m+1) v v hY:=by
 induction h with
 |@z n x=>exactλm a=>(decide_eq_true dq:decide (x=x)=hY)▸oG.o
 |@j n i=>exactλm a=>(qZ i)▸oG.c
 |@q n b=>exactλm a=>(qZ b)▸oG.g
 |y e=>exactλm a=>oG.y e
 |@H n l h ih=>
  intro m k;cases m with
  |zero=>exact qH k<|zr _
  |succ m=>
   have t:BM μ (m+1+1) (.A .H l) (.A .H l) (hY&&l.length==l.length):=oG.H<|yT λu hu=>ih u hu m<|zV k;rwa [qZ]at t
 |@F n l h ih=>
  intro m k;cases m with
  |zero=>exact qH k<|zr _
  |succ m=>exact oG.F dq<|yT λu hu=>ih u hu m<|zV k
theorem C9{P:U->Prop}{a b:U}(h:P a)(k:P b):∀u∈[a,b],P u:=λu hu=>(qG.mp hu).elim (λe=>e▸h) λz=>qD.mp z▸k
theorem agd{P:U->Prop}{a b c:U}(h:P a)(k:P b)(j:P c):∀u∈[a,b,c],P u:=λu hu=>(qG.mp hu).elim (λe=>e▸h) (C9 k j u)
theorem age{P:U->Prop}{a:U}(h:P a):∀u∈[a],P u:=λu hu=>qD.mp hu▸h
theorem By(le:jj aB μ)(s:SV):∀n,dS s<=n->LS aB s->Da μ (n+1) (uB s):=by
 induction s with
 |C b=>exactλn c c=>.H<|C9 .z .q
 |d i=>exactλn c c=>.H<|C9 .z .j
 |u=>exactλn c c=>.H<|age .z
 |f=>exactλn c c=>.H<|age .z
 |c a=>exactλn c t=>(Ao.G (k:=.y a) le t).elim λc h=>h.elim λc h=>h.elim λc h=>.y h
 |e a b i j=>
  intro n h t;cases n with
  |zero=>exact qH h<|zr _
  |succ n=>
   have h:max (dS a) (dS b)<=n:=zV h;exact .H<|agd .z (i n (qg (xK _ _) h) t.1) (j n (qg (xL _ _) h) t.2)
 |j i=>exactλn c c=>.j
end
def DA(t:Qm):U:=@Qm.casesOn (λa=>U) t (λv=>.A .H [.z .gz,uB v]) (λl=>.A .H [.z .gz,.A .H<|.z .cB::l.map uB]) λw t=>.A .H [.z ⟨163⟩,.A .H [.z w,uB t]]
def Eb(o:oL):U:=.A .F [DA o.c,.A .F<|o.o.map QI,.A .F [uB o.y,uB o.z]]
structure pG(aB:Mu)(o:oL):Prop where
 c:Da aB 195 (DA o.c)
 C:∀p∈o.o,LS aB p.2/\dS p.2<=190
 y:LS aB o.y/\dS o.y<=190
 z:LS aB o.z/\dS o.z<=190
theorem YJ{aB:Mu}{o:oL}(h:pG aB o):Da aB 196 (Eb o):=
 .F (agd h.c (.F λu hu=>(xf.mp hu).elim λp a=>a.2▸.H (C9 .j<|By (.j _) _ _ (qg (h.C p a.1).2 (by decide)) (h.C p a.1).1))<|.F (C9 (By (.j _) _ _ (qg h.y.2 (by decide)) h.y.1)<|By (.j _) _ _ (qg h.z.2 (by decide)) h.z.1))
abbrev ME(ad:qe U)(C:be)(ρ:UL)(X:Mu->Prop):qe U->(qk U->Mu->Prop)->Mu->Prop:=λvs K μ=>jL [.o8] vs ρ λaI=>uE ad C (.h .a8<|.o (.s .o8) .t) np X aI (km K) μ
section
variable{ad:qe U}{n:qc}{Q:UQ}{X:Mu->Prop}{μ aB:Mu}{C:be}{A:Ad}{w:Wm}{sg:Sg}{er u t W:U}{bR:UL}{R:UQ}{Xs P:ce}{vs:qe U}
theorem Xp(e1:bR .m=dA (.A .F (.z .cB::vs)))(q:dF (ME ad C bR (Xs bR)) (fF vs) [] (λus μ=>1+us.length<aH/\R (.A .H (.z .cB::us)) μ) μ):bZ ad C jz.a R Xs P bR μ:=by
 refine ac e1<|ac e1 (ac e1<|ac e1 (ac e1<|ny (k:=1) (qN<|qP _) ?_));exact q
theorem MW(le:jj aB μ){l:qe V}(a:∀v∈l,lN aB v/\vd v<=n):∀{acc:qe U} {Q:rj},Q (acc++l.map λv=>uB (dO v)) μ->dF (ME ad (aJ ad (n+1)) bR X) (fF (l.map vU)) acc Q μ:=by
 induction l with
 |nil=>
  intro acc Q q;show dF _ [] acc Q μ;rw[eX];rwa [amv,qO]at q
 |cons v l ih=>
  intro acc Q q;show dF _ ([vU v]::fF (l.map vU)) acc Q μ;rw[dD];refine sQ v (a v<|.head _).2 le (a v<|.head _).1<|ih (λu hu=>a u<|.tail _ hu) (acc:=acc++[uB (dO v)]) ?_;rwa [qR]
theorem JN(le:jj aB μ){l:qe V}(a:∀v∈l,lN aB v/\vd v<=n)(hl:l.length<eC)(q:Q (.A .H (.z .cB::l.map λv=>uB (dO v))) μ):aJ ad (n+2) (.r .a8) [.A .F (.z .cB::l.map vU)] Q X μ:=
 aC (fn:=jz) dq dq (Xp dq<|MW le a ⟨by show 1+(l.map _).length<aH;rw[qI];exact q9 (Zh hl 1) (by decide),.j q⟩)
theorem YV(e1:bR .fB=dA W)(q:∀tr,μ tr=ft->∀gl,(μ.H tr ⟨np,.F,[]⟩) gl=ft->∀sd,((μ.H tr ⟨np,.F,[]⟩).H gl (IL At)) sd=ft->bZ ad C (bC cu.a) R Xs P (bR.H .k (.d sd)) (((μ.H tr ⟨np,.F,[]⟩).H gl (IL At)).H sd (VJ ⟨sd,tr,gl,W⟩ At .u))):bZ ad C cu.a R Xs P bR μ:=
 λtr a gl c=>ac e1 λsd b=>q tr a gl c sd b
abbrev adg:iH:=@Sm.casesOn (λzz=>iH) (kg<|bC cu.a) (λzz zz=>.t) (λzz zz zz=>.t) (λzz zz zz=>.t) (λzz zz zz=>.t) (λzz zz zz zz=>.t) (λzz=>.t) (λzz zz b=>b) (λzz b=>b) (λzz zz b=>b) (λzz=>.t) .t λb zz zz zz zz=>b
theorem ad1(e1:bR .f=dA t)(e2:bR .k=dA (.d A.l))(q:C (.r .K) [t,iY [],.d A.l] (λv μ=>C (.r .a8) [v] (λs μ=>P (bR.H .gz (.A .H [.z .gz,s])) μ) (Xs bR) μ) (Xs bR) μ):bZ ad C adg R Xs P bR μ:=ac e1<|ac e2 q
abbrev yq(ad:qe U)(C:be)(ρ:UL)(X:Mu->Prop):qe U->(qk U->Mu->Prop)->Mu->Prop:=λvs K μ=>jL [.T] vs ρ λaI=>uE ad C (.h .a8<|.o (.r (.r (.s .k)<|.t ⟨192⟩)<|.s .T) .t) np X aI (km K) μ
theorem ou_1{K:qk U->Mu->Prop}(e2:bR .k=dA (.d A.l))(h1:μ A.l=dA (VJ A sg er))(h2:μ A.m=dA (IL sg))(q:C (.r .a8) [vU sg.y] (km K) X μ):yq ad C bR X [.j 1] K μ:=ac (ρ:=bR.H .T<|.j 1) (x:=.k) e2<|bF h1 (bF h2 q)
theorem ou_2{K:qk U->Mu->Prop}(e2:bR .k=dA (.d A.l))(h1:μ A.l=dA (VJ A sg er))(h2:μ A.m=dA (IL sg))(q:C (.r .a8) [vU sg.z] (km K) X μ):yq ad C bR X [.j 2] K μ:=ac (ρ:=bR.H .T<|.j 2) (x:=.k) e2<|bF h1 (bF h2 q)
theorem ad2(e1:bR .gz=dA t)(e2:bR .k=dA (.d A.l))(S:SR A aB w sg er μ)(q:dF (yq ad C bR (Xs bR)) [[.j 1],[.j 2]] [] (λus μ=>R (.A .F [t,.A .F (sg.o.map QI),.A .F us]) μ) (μ.H A.C ⟨hY,.F,sg.o.map QI⟩)):bZ ad C (bC (bC cu.a)) R Xs P bR μ:=ac e1<|ac e2 (bF S.l<|bF S.C q)
end
section
variable{ad:qe U}{e:E}
theorem yo{T:Qm}(S:SR A aB w sg er μ)(dp:Dp sg)(a:sg.r<=n)(e1:bR .gz=dA (DA T))(e2:bR .k=dA (.d A.l))(q:Q (Eb ⟨T,sg.o,dO sg.y,dO sg.z⟩) aB):bZ ad (aJ ad (n+1)) (bC (bC cu.a)) (cD Wk Q) Xs P bR μ:=by
 have le:=S.I.B ⟨hY,.F,sg.o.map QI⟩ S.F;have h1:=(ap μ ⟨hY,.F,sg.o.map QI⟩ (iz S.l S.C λz=>nomatch z)).trans S.l
 have h2:=(ap μ ⟨hY,.F,sg.o.map QI⟩ (iz S.m S.C λz=>nomatch z)).trans S.m
 refine ad2 e1 e2 S ?_;rw[dD];refine ou_1 e2 h1 h2<|sQ sg.y (qg dp.y a) le S.J.y ?_;show dF (yq ad (aJ ad<|n+1) bR<|Xs bR) [[.j 2]] [uB (dO sg.y)] _ _;rw[dD];refine ou_2 e2 h1 h2<|sQ sg.z (qg dp.z a) le S.J.z ?_;show dF (yq ad (aJ ad<|n+1) bR<|Xs bR) [] [uB (dO sg.y),uB<|dO sg.z] _ _;rw[eX];exact cD.A (.I le) q
structure u7(e:E):Prop where
 c:bL wC e (λzz=>0)<=5000
 q:bL wQ e (λzz=>0)<=190
 d:bL wD e (λzz=>0)+200<=300
noncomputable def M0:Ms:=⟨λa=>0,λa=>0,λa=>0⟩
theorem UW(t:T):(LO t).length<=2*sz t:=
 T.rec (motive_1:=λt=>(LO t).length<=2*sz t) (motive_2:=λl=>(n7 l).length<=2*ku l) (λh l ih=>by
  have k:(Am h).length<=2*(AB h+1):=by
   cases h with
   |a lb ps rest=>
    show(ps++rs rest).length<=2*(ps.length+1);rw[qs]
    have:(rs rest).length<=1:=by
     unfold rs;split
     ·exact qm _
     ·exact qP _
    exact ahd this
   |_=>exact qP _
  show(Am h++n7 l).length<=2*(AB h+ku l+1);rw[qs];exact ahc ih k) (qm _) (λt l a b=>by
  show(LO t++n7 l).length<=2*(sz t+ku l);rw[qs];exact ahb a b) t
theorem Uc(aB:Mu)(w:Wm):Ap aB w Ev.t [] M0:=⟨λa a e=>(nomatch e),λa=>⟨0,[],0,.u .d,Ev.t,[],M0,0,[],[]⟩,λa a e=>(nomatch e),λa a e=>(nomatch e)⟩
theorem sr0{gl:qc}(l:LP W)(c:μ tr=ft)(d:(μ.H tr ⟨np,.F,[]⟩) gl=ft)(b:((μ.H tr ⟨np,.F,[]⟩).H gl (IL At)) sd=ft):SR ⟨sd,tr,gl,W⟩ μ (λa=>ft) At .u (((μ.H tr ⟨np,.F,[]⟩).H gl (IL At)).H sd (VJ ⟨sd,tr,gl,W⟩ At .u)):=
 have i:=jj.H (f:=μ) ⟨np,.F,[]⟩ c;have j:=i.u d;have g:=i.B (IL At) j;have s0:=g.u b;have k:=bz (aE μ tr ⟨np,.F,[]⟩) d;have t2:=(ap _ (IL At) k).trans (aE μ tr ⟨np,.F,[]⟩);have g2:=aE (μ.H tr ⟨np,.F,[]⟩) gl<|IL At
 {I:=g.B _ s0,l:=aE _ _ _,C:=(ap _ _<|bz t2 b).trans t2,m:=(ap _ _<|bz g2 b).trans g2,H:=λa a e=>(nomatch e),y:=λa a e=>(nomatch e),inj:=λa a a e=>(nomatch e),O:=s0,F:=c,P:=j,W:=λa a e=>(nomatch e),L:=dq,J:=⟨λa h=>(nomatch h),oy,oy,λa h=>(nomatch h)⟩,Y:=l}
end
section
variable{ad:qe U}{n m:qc}{Q:UQ}{X:Mu->Prop}{μ aB:Mu}{A:Ad}{w:Wm}{sg:Sg}{er W:U}{bR:UL}{Xs P:ce}{e:E}
theorem Gl{T:Qm}{v:qc}(d:Da aB 195 (DA T))(S:SR A aB w sg er μ)(dp:Dp sg)(h:sg.r<=190):pG aB ⟨T,sg.o,dO sg.y,dO sg.z⟩:=⟨d,S.J.C,⟨nj _ S.J.y,qg (nX _)<|qg dp.y h⟩,⟨nj _ S.J.z,qg (nX _)<|qg dp.z h⟩⟩
theorem aiC{C:be}{R:UQ}(q:bZ ad C adg R (wJ .gz ⟨163⟩ .k ⟨116⟩ (bZ ad C (bC (bC cu.a)) R Xs P)) (bZ ad C (bC (bC cu.a)) R Xs P) bR μ):bZ ad C (bC cu.a) R Xs P bR μ:=q
theorem Sz(e2:bR .k=dA (.d A.l))(h:μ A.l=dA (VJ A sg er))(q:P (bR.H .gz (.A .H [.z ⟨163⟩,er])) μ):wJ .gz ⟨163⟩ .k ⟨116⟩ P bR μ:=ac e2<|bF h q
theorem Gk(p:Pr e)(F:u7 e)(tx:Tx μ e.t)(C:sz e.t<=100)(H:LP W)(q:pG μ (rS e)->Q (Eb (rS e)) μ):aJ ad (m+320) (.r .c7) [e.t.u,W] Q X μ:=by
 refine aC (fn:=cu) dq dq<|YV dq λtr x gl B sd y=>?_;have S:=sr0 H x B y;have s:Dp At:=⟨λi h=>(nomatch h),qm _,qm _⟩
 have w:og Ev.t M0.c M0.q:=λi i e=>(nomatch e)
 have k:=Bt e w At s oy
 have hb:([]:iP).length+(bd e).length<eC:=by
  have:=UW e.t;rw[Hc.1 e]at this;show 0+(bd e).length<100000;exact aha C this
 have r:Do ⟨sd,tr,gl,W⟩ μ e (λi=>ft) At Ev.t [] M0 [] [] _:=⟨p.d,p.j,⟨λi h=>(nomatch h),λi h=>(nomatch h)⟩,Uc _ _,w,hb,tx,qi C (by decide),⟨s,by show 0+bL wC e (λi=>0)<=5000;have:=F.c;exact ag9 this,by show 0+bL wQ e (λi=>0)<=190;have:=F.q;exact ag8 this,by show 0+bL wC e (λi=>0)<=10000;have:=F.c;exact ag7 this⟩,S⟩
 refine aiC<|ad1 (A:=⟨sd,tr,gl,W⟩) dq dq (Yv (m+319) e (qg F.d (by exact ag6)) r ?_)
 have D:bL wQ e M0.q<=190:=F.q;revert q k;unfold rS;generalize ev e Ev.t At=o;intro q k;cases o with
 |c a sg=>
  have g:sg.r<=190:=by have h:sg.r<=0+bL wQ e M0.q:=k.1.j;exact WT D h
  have b:sg.r<=m+318:=qg g (by exact WR)
  intro G E l f t2;cases a with
  |E v=>
   have j:vd v<=sg.r:=k.2;exact sQ v (qg j b) f.I t2<|yo (T:=.E<|dO v) f k.1.d b dq dq (q<|Gl (v:=0) (.H<|C9 .z (By (.j _) (dO v) 193 (qg (nX v)<|qg j (qg g (by decide)))<|nj v t2)) f k.1.d g)
  |b vs=>
   have j:∀v∈vs,vd v<=sg.r:=k.2;have I:∀v∈vs,dS (dO v)<=192:=λv h=>qg (nX v)<|qg (j v h) (qg g (by decide))
   have em:DA (.b (vs.map dO))=.A .H [.z .gz,.A .H (.z .cB::vs.map λv=>uB (dO v))]:=by
    show U.A .H [.z .gz,.A .H<|.z .cB::(vs.map dO).map uB]=_;rw[xP];rfl
   refine JN (n:=m+317) f.I (λv h=>⟨t2.1 v h,qg (j v h)<|qg g (by exact ag5)⟩) t2.2<|yo (T:=.b<|vs.map dO) f k.1.d b (by rw[em];rfl) dq (q<|Gl (v:=0) ?_ f k.1.d g)
   rw[em];exact .H<|C9 .z (.H λu hu=>(qG.mp hu).elim (λz=>z▸.z) λz=>(xf.mp z).elim λv h=>h.2▸By (.j _) (dO v) 192 (I v h.1) (nj v<|t2.1 v h.1))
 |b nm t sg=>
  have g:sg.r<=190:=by have h:sg.r<=0+bL wQ e M0.q:=k.j;exact WT D h
  have b:sg.r<=m+318:=qg g (by exact WR)
  intro G E l f t2 J;exact Sz dq f.l<|yo (T:=.a nm t) f k.d b dq dq (q<|Gl (v:=0) (.H<|C9 .z (.H<|C9 .z (By (.j _) t 192 (qg J (by decide)) t2))) f k.d g)
end
noncomputable def tA(n:qc):qc:=[0,1,2,3,4,5,6,9,12,16,20,27].getD n 0
noncomputable def tB(n:qc):qc:=[1,7,13,19,30,43,61,85,112,153,205,277].getD n 0
noncomputable def tQ(n:qc):qc:=[0,4,8,12,16,24,36,48,64,84,120,160].getD n 0
def adq(x y:qc):qw:=zR (tA x+tA y) (tA<|x+y)&&(zR (tB x+tB y) (tB (x+y)+1)&&zR (tQ x+tQ y) (tQ<|x+y))
def adp(x y:qc):qw:=zR (tA x+tA y) (tA<|x+y+1)&&(zR (tB x+tB y+5) (tB<|x+y+1)&&(zR (tQ x+tQ y+4) (tQ<|x+y+1)&&(zR (tA x*tA y) (tA<|x+y+1)&&(zR (tA x+1) (tA<|x+y+1)&&(zR (tA x*tB y+(tB x+3)) (tB<|x+y+1)&&zR (tA x*tQ y+tQ x) (tQ<|x+y+1))))))
theorem XI:((zL 12).all λx=>(zL 12).all λy=>!Nat.ble (x+y) 11||(adq x y&&(!Nat.ble (x+y+1) 11||adp x y)))=hY:=by decide+kernel
structure ahh(x y:qc):Prop where
 a:tA x+tA y<=tA (x+y)
 b:tB x+tB y<=tB (x+y)+1
 q:tQ x+tQ y<=tQ (x+y)
structure acb(x y:qc):Prop where
 a:tA x+tA y<=tA (x+y+1)
 b:tB x+tB y+5<=tB (x+y+1)
 q:tQ x+tQ y+4<=tQ (x+y+1)
 m:tA x*tA y<=tA (x+y+1)
 s:tA x+1<=tA (x+y+1)
 L:tA x*tB y+(tB x+3)<=tB (x+y+1)
 c:tA x*tQ y+tQ x<=tQ (x+y+1)
theorem WM(h:(zR a b&&p)=hY):a<=b:=xo<|bA h
theorem ado(h:adq x y=hY):ahh x y:=⟨WM h,WM<|bB h,xo<|bB (bB h)⟩
theorem adn(h:adp x y=hY):acb x y:=
 have h1:=bB h;have h2:=bB h1;have h3:=bB h2;have h4:=bB h3;have a:=bB h4
 ⟨WM h,WM h1,WM h2,WM h3,WM h4,WM a,xo<|bB a⟩
theorem af7(h:(!Nat.ble a b||p)=hY)(k:a<=b):p=hY:=by rw[aip k]at h;exact h
theorem MC(h:x+y<=11):ahh x y/\(x+y+1<=11->acb x y):=
 have h1:=af7 (qV.mp (qV.mp XI x<|ZY.mpr (z8<|qg (qj _ _) h)) y<|ZY.mpr (z8<|qg (qr _ _) h)) h
 ⟨ado<|bA h1,λk=>adn<|af7 (bB h1) k⟩
theorem MD(h:x<11):tA x+1<=tA (x+1)/\tB x+5<=tB (x+1)/\tQ x+4<=tQ (x+1):=
 have t:acb x 0:=(MC<|xB h).2 h
 ⟨t.s,qg (qF (qj _ _) 5) t.b,qg (qF (qj _ _) 4) t.q⟩
theorem ar1{X a b c b' m:qc}(h:X<=a*m+b)(s:a<=c)(t:b<=b'):X<=c*m+b':=qg h<|qM (ZG m s) t
theorem ar2{X Y a b c d e b' m:qc}(h:X<=a*m+b)(k:Y<=c*m+d)(s:a+c<=e)(t:b+d<=b'):X+Y<=e*m+b':=
 qg (qM h k) (by rw[ZH,←Nat.add_mul];exact qM (ZG m s) t)
theorem ar3{D B m a b c d e b':qc}(h:D<=c*m+d)(k:B<=a*max m D+b)(s:a*c<=e)(s':a<=e)(t:a*d+b<=b'):B<=e*m+b':=by
 refine qg k ?_;rcases Nat.le_total m D with z|z
 ·rw[Nat.max_eq_right z];refine qg (qF (x0 a h) b) ?_;rw[ZE,←Nat.mul_assoc,qT];exact qM (ZG m s) t
 ·rw[Nat.max_eq_left z];exact qM (ZG m s')<|qg (qr _ _) t
theorem U0(h:X<=a*m+b)(k:qc):X+k<=a*m+(b+k):=qT (a*m) b k▸qF h k
theorem up_0(h:X<=Y):0+X<=Y:=qg (qL<|vu X) h
theorem sG{X Y k:qc}(h:X+k<=Y):k+X<=Y:=xa X k▸h
structure Dq(N:qc)(e:E):Prop where
 c:∀(M:qd->qc) (m:qc),(∀x,M x<=m)->bL wC e M<=tA N*m+tB N
 q:∀(M:qd->qc) (m:qc),(∀x,M x<=m)->bL wQ e M<=tA N*m+tQ N
 d:∀(M:qd->qc) (m:qc),(∀x,M x<=m)->bL wD e M<=7*N+1+m
 z:sz e.t<=8*N+1
structure Af(N:qc)(l:qe E):Prop where
 c:∀(M:qd->qc) (m:qc),(∀x,M x<=m)->bQ wC l M+1<=tA N*m+(tB N+l.length)
 q:∀(M:qd->qc) (m:qc),(∀x,M x<=m)->bQ wQ l M<=tA N*m+tQ N
 d:∀(M:qd->qc) (m:qc),(∀x,M x<=m)->bQ wD l M<=7*N+1+m
 z:ku (E.C l)<=8*N+l.length
theorem N5(h:(∃k,e=.u k)\/(∃x,e=.s x)\/∃g,e=.B g):Dq 0 e:=by
 have z:∀m,1<=0*m+1:=λm=>qr _ _;rcases h with⟨k,rfl⟩|⟨k,rfl⟩|⟨k,rfl⟩<;>
 exact⟨λM m a=>z m,λM m a=>qP _,λM m a=>qj 1 m,qm _⟩
theorem Eh:Af 0 []:=⟨λM m z=>qr _ _,λM m z=>qP _,λM m z=>qP _,qP _⟩
theorem k_b(t:p+q<=b+1):p+(q+n)<=b+(n+1):=qT p q n▸qg (qF t n) (qL<|Zk b n)
theorem m_7(h:x<=y)(m:qc):7*x+1+m<=7*y+1+m:=qF (qN<|x0 7 h) m
theorem k_d(h:B<=7*x+1+m)(k:L<=7*y+1+m):max B L<=7*(x+y)+1+m:=zj.mpr ⟨qg h<|m_7 (qj x y) m,qg k<|m_7 (qr y x) m⟩
theorem k_z(h:B<=8*x+1)(k:L<=8*y+n):B+L<=8*(x+y)+(n+1):=qg (qM h k) (by rw[ZH,←ZE,xa 1 n];exact qm _)
theorem A5{e:E}{l:qe E}{x y:qc}(a:Dq x e)(b:Af y l)(h:x+y<=11):Af (x+y) (e::l):=
 have t:=(MC h).1
 ⟨λM m f=>(ar2 (a.c M m f) (b.c M m f) t.a (k_b t.b):bL wC e M+(bQ wC l M+1)<=_),λM m f=>ar2 (a.q M m f) (b.q M m f) t.a t.q,λM m f=>k_d (a.d M m f)<|b.d M m f,k_z a.z b.z⟩
theorem k_p(k:n<=4)(t:b+5<=b'):b+n+1<=b':=by exact ag4 k t
theorem s_7(x m:qc):7*x+1+m+7=7*(x+1)+1+m:=by rw[Nat.mul_succ,xQ _ m 7,xQ _ 1 7]
theorem aam(h:D<=7*x+1+m)(a:k<=7):D+k<=7*(x+1)+1+m:=s_7 x m▸qM h a
theorem OE{D x m k:qc}(h:D<=7*x+1+m)(a:k<=7):k+D<=7*(x+1)+1+m:=sG<|aam h a
theorem ai8(h:D<=7*x+1+m)(k:A<=m):3+max A D<=7*(x+1)+1+m:=OE (zj.mpr ⟨qg k<|qr m _,h⟩) (by decide)
theorem aey(h:S<=8*x+n)(a:n<=4):0+S+1<=8*(x+1)+1:=qN<|up_0 (qg h<|qn (qg a (by decide:4<=8)) _)
theorem aez{S x n:qc}(h:S<=8*x+n)(a:n<=4):0+(0+0+1+S)+1<=8*(x+1)+1:=qN<|up_0 (sG (k:=1)<|qg (qN h) (qn (qg (qN a) (by decide:5<=8))<|8*x))
theorem NI{l:qe E}{x k:qc}(b:Af x l)(h:x<11)(hl:l.length<=4)(a:k<=2)(M:qd->qc)(m:qc)(d:∀x,M x<=m):k+bQ wC l M<=tA (x+1)*m+tB (x+1):=
 qg (qF a _) (sG<|ar1 (U0 (b.c M m d) 1) (zs (MD h).1) (k_p hl (MD h).2.1))
theorem NH{l:qe E}{x k:qc}(b:Af x l)(h:x<11)(a:k<=4)(M:qd->qc)(m:qc)(c:∀x,M x<=m):k+bQ wQ l M<=tA (x+1)*m+tQ (x+1):=
 sG (ar1 (U0 (b.q M m c) k) (zs (MD h).1)<|qg (qn a _) (MD h).2.2)
theorem NY(b:Af x l)(h:x<11)(hl:l.length<=2):Dq (x+1) (.A w l):=
 ⟨NI (k:=1) b h (qg hl (by decide)) (by decide),NH (k:=1) b h (by decide),λM m a=>OE (k:=3) (b.d M m a) (by decide),aey b.z<|qg hl (by decide)⟩
theorem NZ(b:Af x l)(h:x<11)(hl:l.length<=2):Dq (x+1) (.I l):=
 ⟨NI (k:=2) b h (qg hl (by decide)) (by decide),NH (k:=0) b h (by decide),λM m a=>OE (k:=3) (b.d M m a) (by decide),aez b.z<|qg hl (by decide)⟩
theorem ar4{X A a b m c b':qc}(h:X<=a*m+b)(k:A<=m)(s:a+1<=c)(t:b<=b'):A+X<=c*m+b':=sG<|ar2 h (qg k (qL (aiB m).symm):A<=1*m+0) s t
theorem J6{f:qd}{l:qe E}{x:qc}(b:Af x l)(h:x<11)(hl:l.length<=4):Dq (x+1) (.L f l):=by
 have t:=MD h;refine⟨λM m a=>?_,λM m a=>?_,λM m a=>?_,aez b.z hl⟩
 ·show 2+0*l.length+(M f+bQ wC l M)<=_;rw[aed];exact sG (k:=2) (ar4 (U0 (b.c M m a) 1) (a f) t.1 (k_p hl t.2.1):M f+(bQ wC l M+2)<=_)
 ·show 0+1*l.length+(M f+bQ wQ l M)<=_;rw[aiB,vu];exact sG<|qT (M f) (bQ wQ l M) l.length▸ar4 (U0 (b.q M m a) l.length) (a f) t.1 (qg (qn hl _) t.2.2)
 ·show 3+0*l.length+max (M f) (bQ wD l M)<=_;rw[aed];exact ai8 (b.d M m a)<|a f
theorem aja(k:n<=4)(t:p+q+5<=r):p+(q+n+1)<=r:=by exact ag3 k t
theorem ai9(k:n<=4)(t:p+q+4<=r):p+(q+n)<=r:=by exact ag2 k t
theorem ai7(h:B<=7*x+1+m)(k:L<=7*y+1+m):3+max B L<=7*(x+y+1)+1+m:=OE (k_d h k) (by decide)
theorem z_2(h:B<=8*x+p)(k:L<=8*y+q)(t:p+q<=8):0+(B+L)+1<=8*(x+y+1)+1:=qN<|up_0 (qg (qM h k) (by rw[ZH,←ZE];exact qn t _))
theorem z_p(a:P<=2)(h:B<=8*x+1):P+(B+0)+1<=8*x+4:=qN<|qg (qM a h) (qL<|xa 2 (8*x+1))
theorem ai3(h:B<=8*x+1)(k:S<=8*y+n)(a:P<=2)(b:n<=4):0+((P+(B+0)+1)+S)+1<=8*(x+y+1)+1:=z_2 (z_p a h) k<|qn b 4
theorem Ic{lb rest:qd}{ps:qe qd}{b:E}{l:qe E}{x y:qc}(a:Dq x b)(c:Af y l)(h:x+y<11)(hl:l.length<=4)(f:ps.length<=2):Dq (x+y+1) (.D lb ps rest b l):=by
 have t:=(MC<|xB h).2 h;refine⟨λM m e=>?_,λM m e=>?_,λM m e=>?_,ai3 a.z c.z f hl⟩
 ·show 2+0*l.length+(bL wC b M+bQ wC l M)<=_;rw[aed];exact sG (k:=2) (ar2 (a.c M m e) (U0 (c.c M m e) 1) t.a (aja hl t.b):bL wC b M+(bQ wC l M+2)<=_)
 ·show 0+1*l.length+(bL wQ b M+bQ wQ l M)<=_;rw[aiB,vu];exact sG<|qT (bL wQ b M) (bQ wQ l M) l.length▸ar2 (a.q M m e) (U0 (c.q M m e) l.length) t.a (ai9 hl t.q)
 ·show 3+0*l.length+max (bL wD b M) (bQ wD l M)<=_;rw[aed];exact ai7 (a.d M m e)<|c.d M m e
theorem ai4(t:p+q+5<=r):p+2+(q+1)<=r:=by exact ag1 t
theorem ai6{F V E x y m:qc}(f:F<=V+3)(h:V<=7*x+1+m)(k:E<=7*y+1+m):3+max (max F 0) E<=7*(x+y+1)+1+m:=
 sG (qg (qF (zj.mpr ⟨zj.mpr ⟨qg f<|qF (qg h<|m_7 (qj x y) m) 3,qP _⟩,qg k<|qg (m_7 (qr y x) m) (qj _ 3)⟩) 3)<|aam (k:=6) (qm _) (by decide))
theorem ai2{V E:qc}(f:F<=V+2)(h:V<=8*x+1)(k:E<=8*y+1):0+(F+(E+0))+1<=8*(x+y+1)+1:=z_2 (p:=3) (qg f<|qF h 2) k (by decide)
structure al8(f v:E):Prop where
 c:∀M,bL wC f M<=bL wC v M+2
 q:∀M,bL wQ f M<=bL wQ v M
 d:∀M,bL wD f M<=bL wD v M+3
 z:sz f.t<=sz v.t+2
theorem aiZ(s:qc):1+(s+0)+1<=s+2:=qL<|qh xZ (xa 1 s)
theorem ai1(s:qc):0+(s+0)+1<=s+2:=qg (qN<|qL (vu s))<|xO _
theorem Uq(a:f=v\/(∃x,f=.F x v)\/∃g,f=.G g v):al8 f v:=by
 rcases a with e|⟨g,e⟩|⟨g,e⟩<;>rw[e]
 ·exact⟨λM=>qj _ _,λM=>qm _,λM=>qj _ _,qj _ _⟩
 ·exact⟨λM=>qL<|xa 2 _,λM=>qL<|vu _,λM=>qL<|xa 3 _,aiZ _⟩
 ·exact⟨λM=>qL<|xa 2 _,λM=>qL<|vu _,λM=>qL<|xa 3 _,ai1 _⟩
theorem N7{f v e:E}{x y:qc}(n:f=v\/(∃x,f=.F x v)\/∃g,f=.G g v)(j:Dq x v)(l:Dq y e)(h:x+y<11):Dq (x+y+1) (.y [f] e):=
 have t:=(MC<|xB h).2 h;have D:=Uq n
 ⟨λM m i=>sG (k:=1) (ar2 (qg (D.c M) (U0 (j.c M m i) 2)) (U0 (l.c M m i) 1) t.a (ai4 t.b):bL wC f M+(bL wC e M+1)<=_),λM m i=>up_0 (ar2 (qg (D.q M) (j.q M m i)) (l.q M m i) t.a (qg (qj _ 4) t.q)),
  λM m i=>ai6 (D.d M) (j.d M m i) (l.d M m i),ai2 D.z j.z l.z⟩
theorem ai5{D B x y m:qc}(h:D<=7*y+1+m)(k:B<=7*x+1+max m D):3+3+B<=7*(x+y+1)+1+m:=
 have e:7*x+1+(7*y+1+m)=7*(x+y)+1+m+1:=by rw[ZE];exact(ZH _ 1 (7*y+1) m).trans (qh (7*x+7*y+1+·)<|xa 1 m)
 sG (k:=6) (qg (qF (qg k<|qg (qn (zj.mpr ⟨qr m _,h⟩) _) (qL e)) 6)<|aam (k:=7) (qm _) (by decide))
theorem ai0{P B D x y:qc}(h:B<=8*x+1)(k:D<=8*y+1)(a:P<=2):0+((1+(B+0)+1)+((P+(D+0)+1)+0))+1<=8*(x+y+1)+1:=z_2 (p:=3) (qN<|sG (qN h)) (z_p a k) (by decide)
theorem N4{lb g j2 rest:qd}{ps:qe qd}{d b:E}{x y:qc}(hb:Dq x b)(hd:Dq y d)(h:x+y<11)(e:ps.length<=2):Dq (x+y+1) (.H lb g j2 ps rest d b):=
 have t:=(MC<|xB h).2 h
 have up:∀{M:qd->qc} {m:qc} (c:qc),(∀x,M x<=m)->∀x,pI M g c x<=max m c:=λ{M m} c a x=>by
  unfold pI;split
  ·exact xL _ _
  ·exact qg (a x)<|xK _ _
 ⟨λM m a=>sG (k:=3)<|ar3 (hd.c M m a) (U0 (hb.c _ _<|up _ a) 3) t.m (zs t.s) t.L,λM m a=>up_0<|ar3 (hd.q M m a) (hb.q _ _<|up _ a) t.m (zs t.s) t.c,λM m a=>ai5 (hd.d M m a)<|hb.d _ _ (up _ a),ai0 hb.z hd.z e⟩
theorem Rp:((zL 12).all λn=>decide (tB n<=277)&&(decide (tQ n<=160)&&decide (7*n+1<=78)))=hY:=by decide+kernel
theorem Dq.f(m:Dq N e)(h:N<=11):u7 e:=
 have z:∀x,(λa:qd=>0) x<=0:=λa=>qm _;have b:=qV.mp Rp N<|ZY.mpr (z8 h)
 ⟨qg (m.c _ 0 z) (qg (qL (vu _)) (qg (qC (bA b)) (by decide))),qg (m.q _ 0 z) (qg (qL (vu _)) (qg (qC (bA (bB b))) (by decide))),
  qg (qF (qg (m.d _ 0 z) (qC (bB (bB b)))) 200) (by decide)⟩
structure Gd where
 b:Mu
 e:qc
 f:qc
 z:qc
 d:qc
 h:qe qd
 J:qe U
 i:U
structure sB where
 a:qe qd
 c:qd
 L:qd
 k:qd
noncomputable def nmN:qe Nm:=[⟨138⟩,⟨71⟩,⟨176⟩,⟨33⟩,⟨88⟩]
def SM(tb:U)(L:qd):Mc:=⟨np,.f .ik nmN,[tb,.j L,.A (.d []) [],.A (.d []) [],.u]⟩
noncomputable def lfM(tx:qe U)(k:qd):Mc:=⟨np,.F,[.j k,.A .F tx]⟩
def FD(xs:qe qd):Mc:=⟨np,.F,bK xs⟩
def KN(d0:qc)(ys:qe qd)(c:qd):Mc:=⟨np,.F,[.d d0,.A .F<|bK ys,.j c]⟩
def Gd.a(G:Gd)(s:sB):Mu:=(((G.b.H G.z<|SM G.i s.L).H G.d (lfM G.J s.k)).H G.f (FD s.a)).H G.e (KN G.f G.h s.c)
structure kH(G:Gd):Prop where
 d:G.e≠G.f
 g:G.e≠G.d
 p:G.e≠G.z
 r:G.f≠G.d
 i:G.f≠G.z
 A:G.d≠G.z
 y:0<G.h.length
theorem cw(μ:Mu){a b:qc}(c d:Mc)(h:a≠b):(μ.H a c).H b d=(μ.H b d).H a c:=funext λx=>by
 by_cases e:x=b
 ·rw[e,aE,ap _ _ λz=>h z.symm,aE]
 ·rw[ap _ _ e];by_cases f:x=a
  ·rw[f,aE,aE]
  ·rw[ap _ _ f,ap _ _ f,ap _ _ e]
section
variable{ad:qe U}{n:qc}{Q:UQ}{X:Mu->Prop}{μ:Mu}{C:be}{ρ:UL}{R:UQ}{Xs P:ce}{G:Gd}{s:sB}{m x c L k:qd}{xs:qe qd}
theorem Gd.g:G.a s G.e=dA (KN G.f G.h s.c):=aE _ _ _
theorem kH.w(o:kH G):G.a s G.f=dA (FD s.a):=(ap _ _ λz=>o.d z.symm).trans (aE _ _ _)
theorem kH.t(o:kH G):G.a s G.d=dA (lfM G.J s.k):=(ap _ _ λz=>o.g z.symm).trans ((ap _ _ λz=>o.r z.symm).trans (aE _ _ _))
theorem kH.u(o:kH G):G.a s G.z=dA (SM G.i s.L):=(ap _ _ λz=>o.p z.symm).trans ((ap _ _ λz=>o.i z.symm).trans ((ap _ _ λz=>o.A z.symm).trans (aE _ _ _)))
theorem Gd.j:(G.a s).H G.e (KN G.f G.h c)=G.a {s with c:=c}:=eP _ _ _ _
theorem kH.B(o:kH G):(G.a s).H G.f (FD xs)=G.a {s with a:=xs}:=(cw _ _ _ o.d).trans (qh (Mu.H · G.e _)<|eP _ _ _ _)
theorem kH.D(o:kH G):(G.a s).H G.d (lfM G.J k)=G.a {s with k:=k}:=(cw _ _ _ o.g).trans (qh (Mu.H · G.e _) ((cw _ _ _ o.r).trans (qh (Mu.H · G.f _)<|eP _ _ _ _)))
theorem kH.E(o:kH G):(G.a s).H G.z (SM G.i L)=G.a {s with L:=L}:=(cw _ _ _ o.p).trans (qh (Mu.H · G.e _) ((cw _ _ _ o.i).trans (qh (Mu.H · G.f _) ((cw _ _ _ o.A).trans (qh (Mu.H · G.d _)<|eP _ _ _ _)))))
theorem abX{i:qd}(h0:0<=i)(h1:i<xs.length){K:U->Prop}(q:∀x,K (.j x)):dB (u1 (bK xs) i) K:=by
 have e:u1 (bK xs) i=(xs[i.toNat]?).map .j:=(if_neg<|ZC.mpr h0).trans (xx ..);rw[e,xe<|(ah5 h0).mpr h1];exact q _
theorem AO(i:qd){j:qd}(h1:0<j)(h2:j<2^62):jn (i.fmod j):=by
 have b:=Zt i h1;have a:=Z5 i h1;unfold jn
 grind
theorem HI{i:qd}(h:decide (i.natAbs<2^63)=hY):jn i:=show i.natAbs<2^63 from qC h
theorem abl(o:kH G)(em:μ=G.a s)(b:0<m)(e1:ρ .o=dA (.d G.e))(e2:ρ .fj=dA (.j m))(q:∀v,0<=v->v<m->R (.j v) (G.a s)):bZ ad C (bC (bC jA.a)) R Xs P ρ μ:=by
 rw[em];have a:(0:qd)<((bK G.h).length:qd):=by rw[dU];exact zt.mpr o.y
 refine ac e1<|bF Gd.g (ac e1<|bF Gd.g (ac e1<|bF Gd.g ⟨a,?_⟩));refine abX (Zt _ a) (by have:=Z5 s.c a;rwa [dU]at this⊢) λy=>?_
 refine ac e1<|bF Gd.g ⟨.inl<|HI dq,⟨by decide,?_⟩⟩
 refine⟨.inl<|AO _ (by decide) (by decide),?_⟩
 refine ac (ρ:=ρ.H .kQ _) e1<|bF Gd.g ⟨.inl<|HI dq,⟨by decide,?_⟩⟩
 refine⟨.inl<|AO _ (by decide) (by decide),⟨by decide,⟨⟨by decide,by decide⟩,?_⟩⟩⟩
 exact ac (ρ:=(ρ.H .kQ _).H .kQ _) e2 ⟨b,q _ (Zt _ b)<|Z5 _ b⟩
theorem Py(em:μ=G.a s)(a:0<m)(e1:ρ .R=dA (.j x))(e2:ρ .fj=dA (.j m))(q:∀v,0<=v->v<m->R (.j v) (G.a s)):bZ ad C (bC (bC (bC (Ks (kg jA.a))))) R Xs P ρ μ:=
 ac e1 (ac e2 ⟨a,em▸q _ (Zt _ a) (Z5 _ a)⟩)
theorem abj(o:kH G)(em:μ=G.a {s with a:=x::xs})(c:0<m)(d:ρ .o=dA (.d G.e))(e1:ρ .R=dA (.j k))(e2:ρ .fj=dA (.j m))(q:∀v xs,0<=v->v<m->R (.j v) (G.a {s with a:=xs})):bZ ad C (bC (bC (Ks (kg jA.a)))) R Xs P ρ μ:=by
 rw[em];refine ac d<|bF Gd.g (bF o.w<|b7 (b:=x==0) (λe=>?_) λe=>?_)
 ·exact ac d<|bF Gd.g ⟨o.w,⟨o.w,dq,Py o.B c e1 e2 λv a b=>q v xs a b⟩⟩
 ·exact Py dq c e1 e2 λv a b=>q v _ a b
theorem Ug(o:kH G)(e:0<m)(d:m<1000000)(q:∀v xs c,0<=v->v<m->Q (.j v) (G.a {s with a:=xs,c:=c})):aJ ad (n+1) (.r .bh) [.d G.e,.j m] Q X (G.a s):=by
 obtain⟨xs,c,L,k⟩:=s;refine aC (fn:=jA) dq dq<|bF Gd.g ⟨_,.j o.w,?_⟩;cases xs with
 |nil=>exact bF Gd.g ⟨Gd.g,⟨⟨by decide,by show(2:qd)<(3:qc);decide⟩,abl o Gd.j e dq dq λv a b=>.j<|q v _ _ a b⟩⟩
 |cons x xs=>exact bF Gd.g<|bF o.w ⟨⟨e,d⟩,bF Gd.g ⟨o.w,⟨⟨xg _,zt.mpr<|zT _⟩,abj (s:=⟨[],c,L,k⟩) o (o.B (xs:=x.fdiv m::xs)) e dq dq dq λv f a b=>.j<|q v f _ a b⟩⟩⟩
end
abbrev Se:=qd×qk (qc×qw)
def soU(o:qk (qc×qw)):U:=@Option.casesOn (qc×qw) (λa=>U) o (.z .jq) λp=>.A .H [.j p.1,.q p.2]
def pP(e:Se):U:=.A .H [.j e.1,soU e.2]
def LD(sc:qe Se):U:=.A .F<|sc.map pP
noncomputable def lA(sc:qe Se):qe qd:=(sc.filter λe=>e.2.isNone).map (·.1)
noncomputable def t8(sc:qe Se):qe Se:=sc.filter λe=>e.2.isSome
def Qz(G:Gd)(C:be):Prop:=∀{m:qd} {s:sB} {Q:UQ} {X:Mu->Prop},decide (0<m/\m<1000000)=hY->(∀v xs c,0<=v->v<m->Q (.j v) (G.a {s with a:=xs,c:=c}))->C (.r .bh) [.d G.e,.j m] Q X (G.a s)
def ahm(G:Gd)(C:be):Prop:=∀{l:qe U} {s:sB} {Q:UQ} {X:Mu->Prop},l≠[]->l.length<eC->(∀v xs c,v∈l->Q v (G.a {s with a:=xs,c:=c}))->C (.r .dQ) [.d G.e,.A .F l] Q X (G.a s)
def Qv(G:Gd)(C:be):Prop:=∀{s:sB} {Q:UQ} {X:Mu->Prop},Q (.j<|s.L+1) (G.a {s with L:=s.L+1})->C (.y .ik .fc) [.d G.z] Q X (G.a s)
structure Gc(G:Gd)(C:be):Prop where
 o:kH G
 d:Qz G C
 n:ahm G C
 f:Qv G C
section
variable{ad:qe U}{n:qc}{Q:UQ}{X:Mu->Prop}{C:be}{R:UQ}{G:Gd}{s:sB}{m c L:qd}{xs:qe qd}{l:qe U}{sc:qe Se}
theorem aaU(o:kH G)(em:μ=G.a s)(e1:ρ .g=dA (.d G.z))(q:R (.j s.L) (G.a s)):bZ ad C (bC mE.a) R Xs P ρ μ:=by
 rw[em];exact ac e1<|bF o.u q
theorem Pa(o:kH G):Qv G (aJ ad (n+1)):=λq=>aC (fn:=mE) dq dq<|bF o.u ⟨o.u,aaU o o.E dq<|.j q⟩
theorem Pv(o:kH G):Qz G (aJ ad (n+1)):=λh q=>Ug o (qC h).1 (qC h).2 q
theorem abW{i:qd}(h0:0<=i)(h1:i<l.length){K:U->Prop}(q:∀v∈l,K v):dB (u1 l i) K:=by
 have h:=(ah5 h0).mpr h1;rw[show u1 l i=l[i.toNat]? from if_neg<|ZC.mpr h0,xe h];exact q _<|List.getElem_mem h
theorem Io(h:l≠[]):0<l.length:=Nat.pos_of_ne_zero λz=>h<|wy z
theorem YR{ρ:UL}{Xs P:ce}(d:Qz G C)(h:l≠[])(hl:l.length<eC)(e1:ρ .o=dA (.d G.e))(e2:ρ .fV=dA (.A .F l))(q:∀v xs c,v∈l->R v (G.a {s with a:=xs,c:=c})):bZ ad C pt.a R Xs P ρ (G.a s):=
 ac e2 (ac e1<|ac e2 (d (decide_eq_true ⟨zt.mpr<|Io h,ZW (xV.mpr hl) (by decide)⟩) λv xs c a b=>abW a b λu hu=>q u xs c hu))
theorem YS(o:kH G):ahm G (aJ ad (n+2)):=λh hl q=>aC (fn:=pt) dq dq<|YR (Pv o) h hl dq dq λv xs c a=>.j<|q v xs c a
theorem tN(o:kH G):Gc G (aJ ad (n+2)):=⟨o,Pv o,YS o,Pa o⟩
theorem tY(g:Gc G C)(e:ρ .z=dA (.d G.z))(q:Q (.j (s.L+1)) (G.a {s with L:=s.L+1})):uE ad C (.y (.s .z) .fc .t) np Xm ρ Q (G.a s):=ac e<|bF g.o.u (g.f q)
theorem jU(g:Gc G C)(e:ρ .o=dA (.d G.e))(h:decide (0<m/\m<1000000)=hY)(q:∀v xs c,0<=v->v<m->Q (.j v) (G.a {s with a:=xs,c:=c})):uE ad C (.h .bh (.o (.s .o) (.o (.j m) .t))) np Xm ρ Q (G.a s):=ac e<|g.d h q
theorem PJ(n j:qc)(h:0<j):acD n (-(j:qd))=n-j:=by
 unfold clipAt;rw[qK (by exact ag0 h)]
 exact agZ
theorem uD{μ:Mu}{j:qc}(h:l≠[])(a:0<j)(q:∀m,m≠[]->(∀v∈m,v∈l)->m.length<=l.length->Q (.A .F m) μ):iA np (.A .F l) (.j (-(j:qd))) .u Q μ:=by
 unfold iA;show Q (.A .F<|(l.take l.length).drop (acD l.length (-(j:qd)))) μ;rw[PJ _ _ a,abz];have e:=abY (i:=l.length-j) (l:=l);refine q _ (λz=>?_) (λv b=>ZD b)<|qg (qL e) (ahy _ _);rw[z]at e;have e:0=l.length-(l.length-j):=e;have:=Io h;exact agY a e this
theorem Sq:∀(sc:qe Se) {acc:qe U} {Q:rj},Q (acc++bK (lA sc)) μ->dF (λvs K μ=>jL [.j,.d5] vs ρ λaI=>uE ad C (.g .Eq (.s .d5) (.t .jq)) np Xm aI (Jj (uE ad C (.s .j) np Xm aI (km K)) (K ft)) μ) (fF (sc.map pP)) acc Q μ:=λsc=>by
 induction sc with
 |nil=>intro acc Q q;rw[show fF (([]:qe Se).map pP)=[]from dq,eX];rwa [show acc++bK (lA [])=acc from qO _]at q
 |cons e sc ih=>
  intro acc Q q;rw[show fF ((e::sc).map pP)=[pP e]::fF (sc.map pP)from dq,dD];obtain⟨x,o⟩:=e;cases o with
  |none=>exact ih (by rw[qR];exact q)
  |some o=>exact⟨_,.d,ih q⟩
theorem D9(e:ρ .H=dA (LD sc))(q:Q (.A .F (bK (lA sc))) μ):uE ad C (.O (.s .j) [.j,.d5] (.F (.s .H)) (.g .Eq (.s .d5) (.t .jq))) np Xm ρ Q μ:=ac e<|Sq sc (acc:=[]) q
theorem UE:∀(sc:qe Se) {acc:qe U} {Q:rj},Q (acc++(t8 sc).map pP) μ->dF (λvs K μ=>jL [.j,.d5] vs ρ λaI=>uE ad C (.g .NotEq (.s .d5) (.t .jq)) np Xm aI (Jj (uE ad C (.H (.o (.s .j) (.o (.s .d5) .t))) np Xm aI (km K)) (K ft)) μ) (fF (sc.map pP)) acc Q μ:=λsc=>by
 induction sc with
 |nil=>intro acc Q q;rw[show fF (([]:qe Se).map pP)=[]from dq,eX];rwa [show acc++(t8 []).map pP=acc from qO _]at q
 |cons e sc ih=>
  intro acc Q q;rw[show fF ((e::sc).map pP)=[pP e]::fF (sc.map pP)from dq,dD];obtain⟨x,o⟩:=e;cases o with
  |none=>exact ih q
  |some o=>exact⟨_,.d,ih (by rw[qR];exact q)⟩
theorem G7(e:ρ .H=dA (LD sc))(q:Q (.A .F ((t8 sc).map pP)) μ):uE ad C (.O (.H (.o (.s .j) (.o (.s .d5) .t))) [.j,.d5] (.F (.s .H)) (.g .NotEq (.s .d5) (.t .jq))) np Xm ρ Q μ:=ac e<|UE sc (acc:=[]) q
theorem abI(h0:l=[]->Q (.q np) μ)(h1:l≠[]->Q (.q hY) μ):UC .NotEq (.A .F l) (.A .F []) Q μ:=by
 cases l with
 |nil=>exact⟨_,.F dq Cm,h0 dq⟩
 |cons a l=>exact⟨_,.f (λz=>nomatch z),h1 λz=>nomatch z⟩
theorem yk(h:x∈lA sc):(x,ft)∈sc:=by
 obtain⟨⟨y,o⟩,h,e⟩:=xf.mp h;obtain⟨h,k⟩:=acs.mp h;cases o with
 |none=>exact e▸h
 |some=>cases k
theorem yl:(bK (lA sc)).length<=sc.length:=by
 rw[dU];exact qg (qL<|qI ..)<|aia ..
end
structure Rg(lo hi:qd)(l:qe qd):Prop where
 I:lo<=hi
 A:l.Nodup
 b:∀x∈l,lo<x/\x<=hi
theorem Rg.t{lo:qd}(h:lo<=hi):Rg lo hi []:=⟨h,Zn,λa h=>qH h qX⟩
theorem Rg.E(lo:qd):Rg lo (lo+1) [lo+1]:=⟨Int.le_add_of_nonneg_right (by decide),xi.mpr ⟨qX,Zn⟩,λx h=>by rw[qD.mp h];exact⟨Int.lt_succ lo,xg _⟩⟩
theorem Rg.D{lo:qd}(a:Rg lo d l)(b:Rg d hi m):Rg lo hi (l++m):=
 ⟨xI a.I b.I,xp.mpr ⟨a.A,b.A,λx c y e z=>qH (ajE (b.b y e).1<|z▸(a.b x c).2)<|Int.lt_irrefl _⟩,λx c=>(qY.mp c).elim (λz=>⟨(a.b x z).1,xI (a.b x z).2 b.I⟩) λz=>⟨zl a.I (b.b x z).1,(b.b x z).2⟩⟩
theorem Rg.k{lo:qd}(a:Rg lo hi (l++m)):Rg lo hi (m++l):=⟨a.I,Zx.nodup_iff.mp a.A,λx h=>a.b x<|Zx.mem_iff.mp h⟩
theorem Rg.J{lo b hi:qd}{l:qe qd}(a:Rg lo b l)(h:b<=hi):Rg lo hi l:=qO l▸a.D (.t h)
structure Gn(G:Gd)(Γ Φ:qe qd)(lo hi:qd)(N:qc)(e:E):Prop where
 d:WS Γ Φ e
 b:Rg lo hi (bd e)
 l:Rg lo hi (gZ e)
 m:Dq N e
 J:Tx G.b e.t
structure Vk(G:Gd)(Γ Φ:qe qd)(lo hi:qd)(N:qc)(l:qe E):Prop where
 d:oJ Γ Φ l
 b:Rg lo hi (lM l)
 f:Rg lo hi (j9 l)
 m:Af N l
 J:QQ G.b (E.C l)
noncomputable def iD(k:qd):qc:=(k-1).toNat
structure lj(s:sB)(sc:qe Se)(Γ Φ:qe qd)(d:qc):Prop where
 f:iD s.k<=10
 o:sc.length+10*(s.k.toNat+1)+d<eC
 K:∀x,(x,ft)∈sc->x∈Γ
 i:∀x m b,(x,dA (m,b))∈sc->x∈Φ/\m<=2
 p:0<=s.L
theorem G9(h:k'<=k):iD k'<=iD k:=zD<|Int.sub_le_sub_right h 1
theorem lj.w(h:lj s sc Γ Φ d)(a:s'.k<=s.k)(b:s.L<=s'.L):lj s' sc Γ Φ d:=
 ⟨qg (G9 a) h.f,qi (qF (qn (x0 10<|qN (zD a)) _) _) h.o,h.K,h.i,xI h.p b⟩
theorem lj.j(h:lj s sc Γ Φ d)(hd:d'<=d):lj s sc Γ Φ d':=⟨h.f,qi (qn hd _) h.o,h.K,h.i,h.p⟩
theorem lj.u(h:lj s sc Γ Φ d):sc.length+d<eC:=qi (qF (qj _ _) _) h.o
structure WW(G:Gd):Prop where
 t:∀u∈G.J,∃a,u=.d a/\Ao G.b (.y a)
 n:G.J.length=2
def jW(G:Gd)(J:qc)(C:be):Prop:=∀{s:sB} {sc:qe Se} {Γ Φ:qe qd} {dL:qd} {Q:UQ} {X:Mu->Prop},s.k.toNat<=J->lj s sc Γ Φ 0->(∀s' e n,s'.k<s.k->n+iD s'.k<=iD s.k->Gn G Γ Φ s.L s'.L n e->Q e.t.u (G.a s'))->C (.r .bD) [.d G.e,.d G.z,LD sc,.j dL,.d G.d] Q X (G.a s)
abbrev Xn:Ex:=.h .bD<|.o (.s .o) (.o (.s .z)<|.o (.s .H) (.o (.C .s (.s .W)<|.j 1)<|.o (.s .E) .t))
structure Lo(G:Gd)(sc:qe Se)(dL:qd)(ρ:UL):Prop where
 d:ρ .o=dA (.d G.e)
 g:ρ .z=dA (.d G.z)
 p:ρ .H=dA (LD sc)
 r:ρ .W=dA (.j dL)
 i:ρ .E=dA (.d G.d)
section
variable{ad:qe U}{n N J:qc}{Q:UQ}{X:Mu->Prop}{C:be}{ρ:UL}{R:UQ}{G:Gd}{s:sB}{m x L k dL:qd}{l:qe U}{sc:qe Se}{Γ Φ:qe qd}
theorem CH{lo:qd}(h:(∃k,e=.u k)\/(∃x,e=.s x)\/∃g,e=.B g)(le:lo<=hi)(ws:WS Γ Φ e)(tx:Tx G.b e.t):Gn G Γ Φ lo hi 0 e:=by
 have m:=N5 h;rcases h with⟨k,rfl⟩|⟨k,rfl⟩|⟨k,rfl⟩<;>exact⟨ws,.t le,.t le,m,tx⟩
theorem Uy(t:WW G)(h:v∈[U.j 0,.j 1,.q np,.q hY,.K .d]++G.J):∃k:K,v=k.u/\Ao G.b k:=by
 rcases qY.mp h with h|h
 ·simp only[List.mem_cons,List.not_mem_nil,or_false]at h;rcases h with h|h|h|h|h
  ·exact⟨.j 0,h,oy⟩
  ·exact⟨.j 1,h,oy⟩
  ·exact⟨.q np,h,oy⟩
  ·exact⟨.q hY,h,oy⟩
  ·exact⟨.d,h,oy⟩
 ·obtain⟨a,e,k⟩:=t.t v h;exact⟨.y a,e,k⟩
theorem E4(g:Gc G C)(t:WW G)(e1:ρ .o=dA (.d G.e))(e5:ρ .E=dA (.d G.d))(q:∀xs c e,Gn G Γ Φ s.L s.L 0 e->R e.t.u (G.a {s with a:=xs,c:=c})):bZ ad C (bC (bC kZ.a)) R Xs P ρ (G.a s):=by
 refine ac e1<|ac e5 (bF g.o.t ⟨?_,g.n (xR _ _) ?_ λv xs c a=>?_⟩)
 ·show 5+G.J.length<aH;rw[t.n];decide
 ·show G.J.length+1+1+1+1+1<eC;rw[t.n];decide
 ·obtain⟨k,e,tx⟩:=Uy t a;rw[e];exact q xs c (.u k)<|CH (.inl ⟨k,dq⟩) (xg _) oy ⟨tx,oy⟩
theorem Tj(g:Gc G C)(t:WW G)(h:sc.length<eC)(p:∀x,(x,ft)∈sc->x∈Γ)(e1:ρ .o=dA (.d G.e))(e3:ρ .H=dA (LD sc))(e5:ρ .E=dA (.d G.d))(q:∀xs c e,Gn G Γ Φ s.L s.L 0 e->R e.t.u (G.a {s with a:=xs,c:=c})):bZ ad C kZ.a R Xs P ρ (G.a s):=by
 refine D9 e3<|abI (l:=bK<|lA sc) (λa=>E4 (ρ:=ρ.H _ _) (P:=P) g t e1 e5 q) λne=>?_;refine jU (ρ:=ρ.H .fi<|.A .F (bK<|lA sc)) g e1 dq λv xs c a a=>?_;refine b7 (b:=decide<|v>0) (λa=>?_) λa=>E4 (ρ:=ρ.H _ _) (P:=P) g t e1 e5 λxs c=>q xs c;refine ac (ρ:=ρ.H _ _) e1<|uD (j:=3) ne (by decide) λm i d f=>g.n i (qi (qg f yl) h) λv xs c o=>?_
 obtain⟨x,k,e⟩:=xf.mp<|d v o;rw[←e];exact q xs c (.s x)<|CH (.inr<|.inl ⟨x,dq⟩) (xg _) (p x<|yk k) ⟨oy,oy⟩
theorem TW{lo:qd}:Vk G Γ Φ lo lo 0 []:=⟨oy,.t<|xg _,.t<|xg _,Eh,oy⟩
theorem O0{lo c hi:qd}{x y:qc}{e:E}{l:qe E}(a:Gn G Γ Φ lo c x e)(b:Vk G Γ Φ c hi y l)(h:x+y<=11):Vk G Γ Φ lo hi (x+y) (e::l):=
 ⟨⟨a.d,b.d⟩,a.b.D b.b,a.l.D b.f,A5 a.m b.m h,⟨a.J,b.J⟩⟩
theorem I8(V:jW G J C)(o:Lo G sc dL ρ)(a:s.k.toNat<=J)(S:lj s sc Γ Φ 0)(q:∀s' e n,s'.k<s.k->n+iD s'.k<=iD s.k->Gn G Γ Φ s.L s'.L n e->Q e.t.u (G.a s')):uE ad C Xn np Xm ρ Q (G.a s):=ac o.d<|ac o.g (ac o.p<|ac o.r (ac o.i<|V a S q))
theorem Lo.H{x:Nm}{v:U}(o:Lo G sc dL ρ)(h:decide (x∉[Nm.o,.z,.H,.W,.E])=hY):Lo G sc dL (ρ.H x v):=by
 have h:=qC h;have k:∀y∈[Nm.o,.z,.H,.W,.E],(ρ.H x v) y=ρ y:=λy a=>if_neg λz:y=x=>h<|z▸a;exact⟨(k _ (by decide)).trans o.d,(k _ (by decide)).trans o.g,(k _ (by decide)).trans o.p,(k _ (by decide)).trans o.r,(k _ (by decide)).trans o.i⟩
theorem K8{b2:qc}(h:n+b1<=b)(k:n2+b2<=b1):n+n2+b2<=b:=qg (qL<|qT ..)<|qg (qn k n) h
theorem TT(V:jW G J C)(o:Lo G sc dL ρ):∀(its:qe (qe U)) {s:sB} {acc:qe U} {Q:rj},(∀i∈its,∃v,i=[v])->s.k.toNat<=J->lj s sc Γ Φ 0->(∀s' l n,s'.k<=s.k->n+iD s'.k<=iD s.k->Vk G Γ Φ s.L s'.L n l->l.length=its.length->Q (acc++us (E.C l)) (G.a s'))->
  dF (λvs K μ=>jL [.iU] vs ρ λaI=>uE ad C Xn np Xm aI (km K) μ) its acc Q (G.a s):=λits=>by
 induction its with
 |nil=>
  intro s acc Q _ _ _ q;rw[eX];have:=q s [] 0 (xg _) (qL<|vu _) TW dq;rwa [show us (E.C [])=[]from dq,qO]at this
 |cons i its ih=>
  intro s acc Q hi a S q;obtain⟨v,rfl⟩:=hi i<|.head _;rw[dD];refine I8 V (o.H (v:=v) dq) a S λs1 e n1 k1 b1 g1=>?_;refine ih (λi h=>hi i<|.tail _ h) (qg (zD<|xh k1) a) (S.w (xh k1) g1.b.I) λc l n2 k2 b2 g2 hl=>?_;rw[qR];exact q c (e::l) (n1+n2) (xI k2<|xh k1) (K8 b1 b2) (O0 g1 g2<|qg (qj _ _) (qg (K8 b1 b2)<|qg S.f (by decide)))<|qh xZ hl
theorem BR(V:jW G J C)(o:Lo G sc dL ρ)(d:s.k.toNat<=J)(S:lj s sc Γ Φ 0)(c:0<=m)(a:m<=4)(q:∀s' l n,s'.k<=s.k->n+iD s'.k<=iD s.k->Vk G Γ Φ s.L s'.L n l->l.length=m.toNat->Q (.A .F (us (E.C l))) (G.a s')):C4 (PP [.iU] ρ np (uE ad C Xn np Xm) Q) (.j m) (G.a s):=by
 refine⟨⟨c,zl a (by decide)⟩,TT V o (nB m) (acc:=[]) (λi h=>?_) d S λs' l n k b g hl=>q s' l n k b g<|hl.trans ?_⟩
 ·obtain⟨j,_,e⟩:=xf.mp h;exact⟨_,e.symm⟩
 ·unfold nB;rw[qI,Zp]
end
structure Qr(G:Gd)(Γ Φ:qe qd)(lo hi:qd)(N:qc)(lb:qd)(ps:qe qd)(rest:qd)(e:E):Prop where
 d:WS (ps++rs rest++Γ) Φ e
 b:Rg lo hi (ps++rs rest++bd e)
 l:Rg lo hi (gZ e++[lb])
 m:Dq N e
 J:Tx G.b e.t
 u:ps.length<=2
noncomputable def nD(xs:qe qd):qe Se:=xs.map λx=>(x,ft)
def Lu(G:Gd)(J:qc)(C:be):Prop:=∀{s:sB} {sc:qe Se} {Γ Φ:qe qd} {dL:qd} {Q:UQ} {X:Mu->Prop},s.k.toNat<=J->lj s sc Γ Φ 3->(∀s' lb ps rest e n,s'.k<s.k->n+iD s'.k<=iD s.k->Qr G Γ Φ s.L s'.L n lb ps rest e->Q (T.A (.a lb ps rest) [e.t]).u (G.a s'))->C (.r ⟨261⟩) [.d G.e,.d G.z,LD sc,.j dL,.d G.d] Q X (G.a s)
section
variable{ad:qe U}{n N J:qc}{Q:UQ}{X:Mu->Prop}{C:be}{R:UQ}{G:Gd}{s:sB}{m x L k dL lo:qd}{xs ps:qe qd}{l:qe U}{sc:qe Se}{Γ Φ:qe qd}
theorem T5(g:Gc G C)(e2:ρ .z=dA (.d G.z)):∀(its:qe (qe U)) {s:sB} {acc:qe U} {Q:rj},(∀i∈its,∃v,i=[v])->(∀ps L,ps.length=its.length->Rg s.L L ps->Q (acc++bK ps) (G.a {s with L:=L}))->
  dF (λvs K μ=>jL [.iU] vs ρ λaI=>uE ad C (.y (.s .z) .fc .t) np Xm aI (km K) μ) its acc Q (G.a s):=λits=>by
 induction its with
 |nil=>
  intro s acc Q _ q;rw[eX];have:=q [] s.L dq<|.t (xg _);rwa [show bK []=[]from dq,qO]at this
 |cons i its ih=>
  intro s acc Q hi q;obtain⟨v,rfl⟩:=hi i<|.head _;rw[dD];refine tY (ρ:=ρ.H .iU v) g e2<|ih (λi h=>hi i<|.tail _ h) λps L hl r=>?_;rw[qR];exact q ((s.L+1)::ps) L (qh xZ hl)<|(Rg.E s.L).D r
theorem KE(g:Gc G C)(e2:ρ .z=dA (.d G.z))(b:0<=m)(a:m<=4)(q:∀ps L,ps.length=m.toNat->Rg s.L L ps->Q (.A .F (bK ps)) (G.a {s with L:=L})):C4 (PP [.iU] ρ np (uE ad C (.y (.s .z) .fc .t) np Xm) Q) (.j m) (G.a s):=by
 refine⟨⟨b,zl a (by decide)⟩,T5 g e2 (nB m) (acc:=[]) (λi h=>?_) λps L hl r=>q ps L (hl.trans ?_) r⟩
 ·obtain⟨j,_,e⟩:=xf.mp h;exact⟨_,e.symm⟩
 ·unfold nB;rw[qI,Zp]
theorem Re:∀(xs:qe qd) {acc:qe U} {Q:rj},Q (acc++(nD xs).map pP) μ->dF (λvs K μ=>jL [.j] vs ρ λaI=>uE ad C (.H (.o (.s .j) (.o (.t .jq) .t))) np Xm aI (km K) μ) (fF (bK xs)) acc Q μ:=λxs=>by
 induction xs with
 |nil=>intro acc Q q;rw[show fF (bK [])=[]from dq,eX];rwa [show acc++(nD []).map pP=acc from qO _]at q
 |cons x xs ih=>
  intro acc Q q;rw[show fF (bK<|x::xs)=[U.j x]::fF (bK xs)from dq,dD];exact ih (by rw[qR];exact q)
theorem lj.g(S:lj s sc Γ Φ d)(h:xs.length+d'<=d):lj s (sc++nD xs) (xs++Γ) Φ d':=by
 refine⟨S.f,qi ?_ S.o,λx a=>(qY.mp a).elim (λz=>qJ _<|S.K x z) λz=>?_,λx m b a=>(qY.mp a).elim (S.i x m b) λz=>?_,S.p⟩
 ·rw[qs,show(nD xs).length=xs.length from qI ..,xQ sc.length,qT<|sc.length+_];exact qn h _
 ·obtain⟨y,c,e⟩:=xf.mp z;cases e;exact qx _ c
 ·obtain⟨y,c,e⟩:=xf.mp z;cases e
theorem Ot(g:Gc G C)(V:jW G J C)(o:Lo G sc dL ρ)(f:s.k.toNat<=J)(S:lj s sc Γ Φ 3)(hr:Rg lo s.L (ps++rs rest))(d:ps.length<=2)(e6:ρ .J=dA (.A .F (bK ps)))(i:ρ .R=dA (.j rest))(h:ρ .S=dA (.A .F (bK (ps++rs rest))))
  (q:∀s' lb ps rest e n,s'.k<s.k->n+iD s'.k<=iD s.k->Qr G Γ Φ lo s'.L n lb ps rest e->R (T.A (.a lb ps rest) [e.t]).u (G.a s')):bZ ad C (bC<|bC (bC g5.a)) R Xs P ρ (G.a s):=by
 have c:(ps++rs rest).length+0<=3:=by
  have:(rs rest).length<=1:=by
   unfold rs;split
   ·exact qm _
   ·exact qP _
  rw[qs];exact qM d this
 refine ac o.d<|ac o.g (ac o.p<|ac h (Re (ps++rs rest) (acc:=[]) ⟨?_,ac o.r<|ac o.i ?_⟩))
 ·rw[qI,show([]:qe U)++(nD<|ps++rs rest).map pP=(nD<|ps++rs rest).map pP from dq,qI,show(nD<|ps++rs rest).length=_ from qI ..];exact gY<|qi (qn c _) S.u
 ·rw[show sc.map pP++([]++(nD<|ps++rs rest).map pP)=(sc++nD (ps++rs rest)).map pP from(xj ..).symm];refine V f (S.g c) λs1 e n k1 b1 a=>tY (ρ:=ρ.H .I e.t.u) g o.g ?_;refine ac (ρ:=ρ.H .I e.t.u) e6<|ac (ρ:=ρ.H .I e.t.u) i ?_;exact q {s1 with L:=s1.L+1} (s1.L+1) ps rest e n k1 b1 ⟨a.d,(hr.D a.b).J (acI<|xg _),((Rg.t hr.I).D a.l).D (.E _),a.m,a.J,d⟩
theorem Ov(g:Gc G C)(V:jW G J C)(o:Lo G sc dL ρ)(d:s.k.toNat<=J)(S:lj s sc Γ Φ 3)(hr:Rg lo s.L (ps++rs rest))(c:ps.length<=2)(e6:ρ .J=dA (.A .F (bK ps)))(a:ρ .R=dA (.j rest))
  (q:∀s' lb ps rest e n,s'.k<s.k->n+iD s'.k<=iD s.k->Qr G Γ Φ lo s'.L n lb ps rest e->R (T.A (.a lb ps rest) [e.t]).u (G.a s')):bZ ad C (bC<|bC g5.a) R Xs P ρ (G.a s):=by
 have hl:∀{j:qc},j<=1->(bK ps).length+j<aH:=λh=>by rw[dU];exact qi (qM c h) (by decide)
 have z:∀{b:qe U},b=bK (rs rest)->U.A .F (bK ps++b)=.A .F (bK<|ps++rs rest):=λe=>by rw[e,mf]
 refine ac e6<|ac a (b7 (b:=decide<|rest>=0) (λh=>ac a ⟨hl<|qm _,?_⟩) λh=>⟨hl<|qP _,?_⟩)
 ·exact Ot g V (o.H dq) d S hr c e6 a (qh dA<|z (by rw[show rs rest=[rest]from qK<|qC h];rfl)) q
 ·exact Ot g V (o.H dq) d S hr c e6 a (qh dA<|z (by rw[show rs rest=[]from if_neg<|xG h];rfl)) q
theorem aak(g:Gc G C)(V:jW G J C)(o:Lo G sc dL ρ)(j:s.k.toNat<=J)(S:lj s sc Γ Φ 3)(q:∀s' lb ps rest e n,s'.k<s.k->n+iD s'.k<=iD s.k->Qr G Γ Φ s.L s'.L n lb ps rest e->R (T.A (.a lb ps rest) [e.t]).u (G.a s')):bZ ad C g5.a R Xs P ρ (G.a s):=by
 refine jU g o.d dq λv xs c a b=>KE g o.g a (xI (xh b) (by decide)) λps L hl r=>?_
 have i:ps.length<=2:=by exact agX b hl
 have d:Lo G sc dL (ρ.H .J<|.A .F (bK ps)):=o.H dq;have m:∀{xs c t},s.L<=t->lj ⟨xs,c,t,s.k⟩ sc Γ Φ 3:=λh=>S.w (xg _) h;refine jU g d.d dq λv2 p l f f=>b7 (b:=v2==0) (λf=>tY g d.g ?_) λf=>?_
 ·refine Ov (s:=⟨p,l,L+1,s.k⟩) (rest:=L+1) g V (d.H dq) j (m<|xI r.I (acI<|xg _)) ?_ i dq dq q;rw[show rs (L+1)=[L+1]from qK<|xI S.p (xI r.I<|acI (xg _))];exact r.D<|.E L
 ·refine Ov (ρ:=(ρ.H .J<|.A .F (bK ps)).H .R (.j (-1))) (s:=⟨p,l,L,s.k⟩) (rest:=-1) g V (d.H dq) j (m r.I) ?_ i dq dq q;rw[show rs (-1)=[]from dq,qO];exact r
end
def Vh(G:Gd)(J:qc)(C:be):Prop:=∀{s:sB} {sc:qe Se} {Γ Φ:qe qd} {dL:qd} {eG:qc} {hr:qw} {Q:UQ} {X:Mu->Prop},s.k.toNat<=J->lj s sc Γ Φ 3->eG<=2->(∀s' l n,s'.k<=s.k->n+iD s'.k<=iD s.k->Vk G Γ Φ s.L s'.L n l->l.length<=4->Q (.A .F<|us (E.C l)) (G.a s'))->C (.r ⟨271⟩) [.d G.e,.d G.z,LD sc,.j dL,.d G.d,.j (eG:qc),.q hr] Q X (G.a s)
def vM(f:Nm)(G:Gd)(J:qc)(C:be):Prop:=∀{s:sB} {sc:qe Se} {Γ Φ:qe qd} {dL:qd} {Q:UQ} {X:Mu->Prop},s.k.toNat<=J->lj s sc Γ Φ 3->(∀s' e n,s'.k<=s.k->n+iD s'.k<=iD s.k+1->Gn G Γ Φ s.L s'.L n e->Q e.t.u (G.a s'))->C (.r f) [.d G.e,.d G.z,LD sc,.j dL,.d G.d] Q X (G.a s)
theorem Rg.f{b lo hi:qd}{l:qe qd}(h:b<=lo)(a:Rg lo hi l):Rg b hi l:=(Rg.t h).D a
theorem Iu(L:qd):L<=L+1:=acI<|xg _
section
variable{ad:qe U}{n N J:qc}{Q:UQ}{X Xm:Mu->Prop}{μ:Mu}{C:be}{ρ:UL}{R:UQ}{Xs P:ce}{G:Gd}{s:sB}{m x c L k dL lo:qd}{xs ps:qe qd}{l acc:qe U}{sc:qe Se}{Γ Φ:qe qd}{se:Se}
theorem H7(V:jW G J C)(o:Lo G sc dL ρ){eG:qc}(e:s.k.toNat<=J)(S:lj s sc Γ Φ 0)(c:eG<=2)(e6:ρ .fj=dA (.j (eG:qc)))(f:ρ ⟨78⟩=dA (.j m))(d:0<=m)(a:m<=2)(q:∀s' l n,s'.k<=s.k->n+iD s'.k<=iD s.k->Vk G Γ Φ s.L s'.L n l->l.length<=4->R (.A .F (us (E.C l))) (G.a s')):bZ ad C (bC ix.a) R Xs P ρ (G.a s):=
 ac e6 (ac f<|BR V o e S (by exact agW d) (by exact agV c a) λs' l n k b g hl=>q s' l n k b g (by rw[hl];exact agU c a))
theorem YM(g:Gc G C)(V:jW G J C)(o:Lo G sc dL ρ){eG:qc}{hr:qw}(e:s.k.toNat<=J)(S:lj s sc Γ Φ 3)(d:eG<=2)(e6:ρ .fj=dA (.j (eG:qc)))(h:ρ ⟨216⟩=dA (.q hr))(q:∀s' l n,s'.k<=s.k->n+iD s'.k<=iD s.k->Vk G Γ Φ s.L s'.L n l->l.length<=4->R (.A .F (us (E.C l))) (G.a s')):bZ ad C ix.a R Xs P ρ (G.a s):=by
 have f:∀{xs c},lj ⟨xs,c,s.L,s.k⟩ sc Γ Φ 0:=(S.j<|qP _).w (xg _) (xg _);refine ac h ?_;cases hr with
 |true=>exact jU g o.d dq λv xs c a b=>H7 (ρ:=ρ.H ⟨78⟩<|.j v) (s:=⟨xs,c,s.L,s.k⟩) (P:=P) V (o.H dq) e f d e6 dq a (acK b) q
 |false=>exact jU g o.d dq λv xs c a b=>H7 (ρ:=ρ.H ⟨78⟩<|.j (UX<|v==0)) (s:=⟨xs,c,s.L,s.k⟩) (P:=P) V (o.H dq) e f d e6 dq (by cases v==0<;>decide) (by cases v==0<;>decide) q
theorem Vx(V:jW G J C)(a:s.k.toNat<=J)(S:lj s (sc++[se]) Γ Φ 0)(q:∀s' e n,s'.k<s.k->n+iD s'.k<=iD s.k->Gn G Γ Φ s.L s'.L n e->Q e.t.u (G.a s')):C (.r .bD) [.d G.e,.d G.z,.A .F (sc.map pP++[pP se]),.j dL,.d G.d] Q X (G.a s):=by
 rw[show U.A .F (sc.map pP++[pP se])=LD (sc++[se])from qh _ (xj (f:=pP) (l₁:=sc) (l₂:=[se])).symm];exact V a S q
theorem lj.r{d:qc}{b:qw}{m:qc}(S:lj s sc Γ Φ (d+1))(h:m<=2):lj s (sc++[(x,dA (m,b))]) Γ (x::Φ) d:=by
 refine⟨S.f,qi (qL ?_) S.o,λx a=>(qY.mp a).elim (S.K x) λz=>(nomatch qD.mp z),λy m' b' a=>(qY.mp a).elim (λz=>⟨.tail _ (S.i y m' b' z).1,(S.i y m' b' z).2⟩) λz=>?_,S.p⟩
 ·rw[qs,show[(x,dA (m,b))].length=1 from dq,xQ sc.length 1,qT<|sc.length+_,xa 1 d]
 ·cases qD.mp z;exact⟨.head _,h⟩
theorem Iq(h:sc.length+3<eC):(sc.map pP).length+1<aH:=by rw[qI];exact gY<|qi (qn (by decide) _) h
theorem aeo(V:jW G J C)(o:Lo G sc dL ρ)(f:s.k.toNat<=J)(S:lj s sc Γ Φ 3){lb:qd}(e6:ρ .j=dA (.j x))(g:ρ .x=dA (.j lb))(r1:Rg lo s.L [x])(r2:Rg lo s.L [lb])(q:∀s' e n,s'.k<=s.k->n+iD s'.k<=iD s.k+1->Gn G Γ Φ lo s'.L n e->R e.t.u (G.a s')):bZ ad C (Ks (kg (bC jf.a))) R Xs P ρ (G.a s):=by
 refine I8 V o f (S.j<|qP _) λs1 v n1 k1 b1 g1=>?_;have h:=S.w (xh k1) g1.b.I;have c:=qg (zD<|xh k1) f;refine ac (ρ:=ρ.H .m v.t.u) o.d<|ac (ρ:=ρ.H .m v.t.u) o.g (ac (ρ:=ρ.H .m v.t.u) o.p<|ac (ρ:=ρ.H .m v.t.u) e6 ⟨Iq S.u,ac (ρ:=ρ.H .m v.t.u) o.r<|ac (ρ:=ρ.H .m v.t.u) o.i (Vx (se:=(x,ft)) V c (h.g (xs:=[x]) (by show 1<=3;decide)) λa b n2 k2 b2 g2=>?_)⟩)
 have le:=K8 b1 b2;refine ac (ρ:=(ρ.H .m v.t.u).H .I b.t.u) g<|ac (ρ:=(ρ.H .m v.t.u).H .I b.t.u) e6 ?_;have d:n2+n1<=10:=qg (qg (qL<|xa ..)<|qg (qj _ _) le) S.f;refine q a (.D lb [x] (-1) b [v]) (n2+n1+1) (xI (xh k2)<|xh k1) (by exact WQ le) ⟨⟨g2.d,g1.d,oy⟩,?_,?_,Ic g2.m (A5 g1.m Eh (by exact agT d)) (by exact WP d) (by show 1<=4;decide) (by show 1<=2;decide),oy,⟨⟨oy,g2.J,oy⟩,g1.J,oy⟩⟩
 ·show Rg lo a.L ([x]++(bd b++(bd v++[])));rw[qO];exact r1.D (g1.b.D g2.b).k
 ·show Rg lo a.L ([lb]++(gZ b++(gZ v++[])));rw[qO];exact r2.D (g1.l.D g2.l).k
theorem aem(V:jW G J C)(o:Lo G sc dL ρ){s0:sB}{l2 rest lb:qd}{d:E}{n1:qc}(g:s.k.toNat<=J)(S:lj s sc Γ Φ 3)(e6:ρ .j=dA (.j x))(j:ρ .x=dA (.j lb))(h:ρ .d5=dA (soU (dA ((bK ps).length,decide (rest>=0)))))(i:ρ .M=dA (T.A (.a l2 ps rest) [d.t]).u)(r1:Rg lo s0.L [x])(r2:Rg lo s0.L [lb])
  (hb:iD s0.k<=10)(k1:s.k<s0.k)(b1:n1+iD s.k<=iD s0.k)(g1:Qr G Γ Φ s0.L s.L n1 l2 ps rest d)(q:∀s' e n,s'.k<=s0.k->n+iD s'.k<=iD s0.k+1->Gn G Γ Φ lo s'.L n e->R e.t.u (G.a s')):bZ ad C (bC<|bC (bC<|bC jf.a)) R Xs P ρ (G.a s):=by
 have c:(bK ps).length<=2:=by rw[dU];exact g1.u
 refine ac j<|ac e6 (ac o.d<|ac o.g (ac o.p<|ac e6 (ac h ⟨Iq S.u,ac o.r<|ac o.i (Vx (se:=(x,dA ((bK ps).length,decide<|rest>=0))) V g ((S.j (by decide:1<=3)).r c) λa b n2 k2 b2 g2=>?_)⟩)))
 have le:=K8 b1 b2;have f:n2+n1<=10:=qg (qg (qL<|xa ..)<|qg (qj _ _) le) hb;refine ac i<|q a (.H lb x l2 ps rest d b) (n2+n1+1) (xI (xh k2)<|xh k1) (by exact WQ le) ⟨⟨g2.d,g1.d⟩,?_,?_,N4 g2.m g1.m (by exact WP f) g1.u,oy,⟨oy,g2.J,oy⟩,⟨oy,g1.J,oy⟩,oy⟩
 ·show Rg lo a.L ([x]++(bd b++(ps++rs rest++bd d)));exact r1.D (g1.b.D g2.b).k
 ·show Rg lo a.L ([lb]++(gZ b++([l2]++gZ d)));exact r2.D (g1.l.k.D g2.l).k
theorem aen(V:jW G J C)(f:Lu G J C)(o:Lo G sc dL ρ)(a:s.k.toNat<=J)(S:lj s sc Γ Φ 3){lb:qd}(e6:ρ .j=dA (.j x))(c:ρ .x=dA (.j lb))(r1:Rg lo s.L [x])(r2:Rg lo s.L [lb])(q:∀s' e n,s'.k<=s.k->n+iD s'.k<=iD s.k+1->Gn G Γ Φ lo s'.L n e->R e.t.u (G.a s')):bZ ad C (bC (bC jf.a)) R Xs P ρ (G.a s):=
 ac o.d (ac o.g (ac o.p (ac o.r (ac o.i (f a S λs1 l2 ps rest d n1 k1 b1 g1=>
  aem (ρ:=(ρ.H .M (T.A (.a l2 ps rest) [d.t]).u).H .d5 (soU (dA ((bK ps).length,decide (rest>=0))))) (P:=P) V ((o.H dq).H dq) (qg (zD (xh k1)) a) (S.w (xh k1) g1.b.I) e6 c dq dq r1 r2 S.f k1 b1 g1 q)))))
theorem aae(g:Gc G C)(V:jW G J C)(l:Lu G J C)(o:Lo G sc dL ρ)(f:s.k.toNat<=J)(S:lj s sc Γ Φ 3)(q:∀s' e n,s'.k<=s.k->n+iD s'.k<=iD s.k+1->Gn G Γ Φ s.L s'.L n e->R e.t.u (G.a s')):bZ ad C jf.a R Xs P ρ (G.a s):=by
 refine tY g o.g<|tY g o.g ?_;have d:Lo G sc dL ((ρ.H .j<|.j (s.L+1)).H .x (.j<|s.L+1+1)):=(o.H dq).H dq;have i:=(Rg.E s.L).J (Iu _);have h:=(Rg.E<|s.L+1).f (Iu _);have j:∀{xs c},lj ⟨xs,c,s.L+1+1,s.k⟩ sc Γ Φ 3:=S.w (xg _)<|xI (Iu _) (Iu _);refine jU g d.d dq λv xs c a a=>b7 (b:=v==0) (λa=>?_) λa=>?_
 ·exact aeo (s:=⟨xs,c,s.L+1+1,s.k⟩) V d f j dq dq i h q
 ·exact aen (s:=⟨xs,c,s.L+1+1,s.k⟩) (P:=P) V l d f j dq dq i h q
end
section
variable{ad:qe U}{n J:qc}{C:be}{ρ:UL}{R:UQ}{Xs P:ce}{G:Gd}{s:sB}{m x c L k dL lo:qd}{xs:qe qd}{l:qe U}{sc:qe Se}{Γ Φ:qe qd}
theorem uZ(h:n+b'<=b):n+1+b'<=b+1:=by rw[xQ];exact qN h
theorem bud_11(h:n+b'<=b)(hb:b<=10):n<11:=z8<|qg (qj _ _) (qg h hb)
theorem Q8(h:Lu G J C)(g:Vh G J C)(o:Lo G sc dL ρ)(c:s.k.toNat<=J)(S:lj s sc Γ Φ 3)(q:∀s' e n,s'.k<=s.k->n+iD s'.k<=iD s.k+1->Gn G Γ Φ s.L s'.L n e->R e.t.u (G.a s')):bZ ad C (bC (bC (bC kh.a))) R Xs P ρ (G.a s):=by
 refine ac o.d<|ac o.g (ac o.p<|ac o.r (ac o.i<|h c S λs1 lb ps rest d n1 k1 b1 g1=>?_));have a:Lo G sc dL (ρ.H .M (T.A (.a lb ps rest) [d.t]).u):=o.H dq;refine ac a.d<|ac a.g (ac a.p<|ac a.r (ac a.i<|g (eG:=(bK ps).length) (hr:=decide<|rest>=0) (qg (zD<|xh k1) c) (S.w (xh k1) g1.b.I) (by rw[dU];exact g1.u) λf l n2 k2 b2 g2 hl=>?_))
 have le:=K8 b1 b2;exact q f (.D lb ps rest d l) (n1+n2+1) (xI k2<|xh k1) (uZ le) ⟨⟨g1.d,g2.d⟩,g1.b.D g2.b,g1.l.k.D g2.f,Ic g1.m g2.m (bud_11 le S.f) hl g1.u,oy,⟨oy,g1.J,oy⟩,g2.J⟩
theorem Dv(g:Gc G C)(V:jW G J C)(t:Lu G J C)(r:Vh G J C)(o:Lo G sc dL ρ)(f:s.k.toNat<=J)(S:lj s sc Γ Φ 3)(q:∀s' e n,s'.k<=s.k->n+iD s'.k<=iD s.k+1->Gn G Γ Φ s.L s'.L n e->R e.t.u (G.a s')):bZ ad C (bC (bC kh.a)) R Xs P ρ (G.a s):=by
 have h:∀{xs c},lj ⟨xs,c,s.L,s.k⟩ sc Γ Φ 3:=S.w (xg _)<|xg _;refine jU g o.d dq λv xs c d d=>b7 (b:=v==0) (λd=>?_) λd=>Q8 (s:=⟨xs,c,s.L,s.k⟩) (P:=P) t r o f h q;refine jU (s:=⟨xs,c,s.L,s.k⟩) g o.d dq λv2 p j a b=>BR (s:=⟨p,j,s.L,s.k⟩) V o f (h.j<|qP _) a (xI (xh b) (by decide)) λi l n2 k2 b2 g2 hl=>?_
 exact q i (.I l) (n2+1) k2 (uZ b2) ⟨g2.d,g2.b,g2.f,NZ g2.m (bud_11 b2 S.f) (by rw[hl];exact agS b),oy,⟨oy,oy⟩,g2.J⟩
theorem K7(h:u∈(t8 sc).map pP):∃x m b,u=pP (x,dA (m,b))/\(x,dA (m,b))∈sc:=by
 obtain⟨⟨x,o⟩,h,e⟩:=xf.mp h;obtain⟨h,k⟩:=acs.mp h;cases o with
 |none=>cases k
 |some p=>exact⟨x,p.1,p.2,e.symm,h⟩
theorem Xu(g:Gc G C)(V:jW G J C)(w:Lu G J C)(i:Vh G J C)(o:Lo G sc dL ρ)(h:s.k.toNat<=J)(S:lj s sc Γ Φ 3)(q:∀s' e n,s'.k<=s.k->n+iD s'.k<=iD s.k+1->Gn G Γ Φ s.L s'.L n e->R e.t.u (G.a s')):bZ ad C kh.a R Xs P ρ (G.a s):=by
 have t:∀{xs c},lj ⟨xs,c,s.L,s.k⟩ sc Γ Φ 3:=S.w (xg _)<|xg _;have d:Lo G sc dL (ρ.H ⟨189⟩<|.A .F ((t8 sc).map pP)):=o.H dq;refine G7 o.p<|abI (l:=(t8 sc).map pP) (λf=>Dv (ρ:=ρ.H ⟨189⟩<|.A .F ((t8 sc).map pP)) (P:=P) g V w i d h S q) λne=>?_;refine jU g d.d dq λv xs c f f=>b7 (b:=decide<|v>0) (λf=>?_) λf=>Dv (ρ:=ρ.H ⟨189⟩<|.A .F ((t8 sc).map pP)) (s:=⟨xs,c,s.L,s.k⟩) (P:=P) g V w i d h t q;refine ac d.d<|uD (j:=2) ne (by decide) λm A z p=>g.n (s:=⟨xs,c,s.L,s.k⟩) A ?_ λv xs c B=>?_
 ·rw[qI]at p;exact qi (qg p<|aia ..)<|qi (qj _ _) S.u
 ·obtain⟨x,m,b,e,r⟩:=K7<|z v B;rw[e];have a:Lo G sc dL (((ρ.H ⟨189⟩<|.A .F ((t8 sc).map pP)).H .j (.j x)).H .d5 (soU<|dA (m,b))):=(d.H dq).H dq;refine ac a.d<|ac a.g (ac a.p<|ac a.r (ac a.i<|i (s:=⟨xs,c,s.L,s.k⟩) (eG:=m) (hr:=b) h t (S.i x m b r).2 λy l n2 k2 b2 g2 hl=>?_));exact q y (.L x l) (n2+1) k2 (uZ b2) ⟨⟨(S.i x m b r).1,g2.d⟩,g2.b,g2.f,J6 g2.m (bud_11 b2 S.f) hl,oy,⟨oy,oy⟩,g2.J⟩
inductive Fst(Γ:qe qd)(v:E):E->Prop
 |m:Fst Γ v v
 |s{y:qd}(h:y∈Γ):Fst Γ v (.F y v)
 |B{y:qd}(h:y=1\/y=2\/y=3):Fst Γ v (.G y v)
theorem PA(V:jW G J C)(o:Lo G sc dL ρ){s0:sB}{v f:E}{n1:qc}(d:s.k.toNat<=J)(S:lj s sc Γ Φ 3)(hb:iD s0.k<=10)(e6:ρ .jY=dA f.t.u)(k1:s.k<=s0.k)(b1:n1+iD s.k<=iD s0.k)(g1:Gn G Γ Φ s0.L s.L n1 v)(F:Fst Γ v f)(q:∀s' e n,s'.k<=s0.k->n+iD s'.k<=iD s0.k+1->Gn G Γ Φ s0.L s'.L n e->R e.t.u (G.a s')):bZ ad C (bC (bC (bC jB.a))) R Xs P ρ (G.a s):=by
 refine ac e6<|I8 V o d (S.j<|qP _) λc e n2 k2 b2 g2=>?_;have le:=K8 b1 b2
 have a:bd f=bd v/\gZ f=gZ v/\WS Γ Φ f/\Tx G.b f.t/\(f=v\/(∃x,f=.F x v)\/∃g,f=.G g v):=by
  cases F with
  |m=>exact⟨dq,dq,g1.d,g1.J,.inl dq⟩
  |s h=>exact⟨dq,dq,⟨h,g1.d⟩,⟨oy,g1.J,oy⟩,.inr<|.inl ⟨_,dq⟩⟩
  |B h=>exact⟨dq,dq,⟨h,g1.d⟩,⟨oy,g1.J,oy⟩,.inr<|.inr ⟨_,dq⟩⟩
 refine q c (.y [f] e) (n1+n2+1) (xI (xh k2) k1) (uZ le) ⟨⟨⟨a.2.2.1,oy⟩,g2.d⟩,?_,?_,N7 a.2.2.2.2 g1.m g2.m<|bud_11 le hb,oy,a.2.2.2.1,g2.J,oy⟩
 ·show Rg s0.L c.L ((bd f++[])++bd e);rw[qO,a.1];exact g1.b.D g2.b
 ·show Rg s0.L c.L ((gZ f++[])++gZ e);rw[qO,a.2.1];exact g1.l.D g2.l
theorem E0(g:Gc G C)(e1:ρ .o=dA (.d G.e))(e2:ρ .m=dA v.t.u)(q:∀xs c f,Fst Γ v f->Q f.t.u (G.a {s with a:=xs,c:=c})):uE ad C (.h .dQ (.o (.s .o) (.o (.F (.o (.G .bO (.o (.j 1) (.o (.s .m) .t))) (.o (.G .bO (.o (.j 2) (.o (.s .m) .t))) (.o (.s .m) (.o (.G .bO (.o (.j 3) (.o (.s .m) .t))) .t))))) .t))) np Xm ρ Q (G.a s):=by
 refine ac e1<|ac e2 (ac e2<|ac e2 (ac e2<|g.n (xR _ _) (by show 4<eC;decide) λu xs c hu=>?_))
 simp only[List.mem_cons,List.not_mem_nil,or_false]at hu;rcases hu with h|h|h|h<;>rw[h]
 ·exact q xs c (.G 1 v)<|.B (.inl dq)
 ·exact q xs c (.G 2 v)<|.B (.inr<|.inl dq)
 ·exact q xs c v .m
 ·exact q xs c (.G 3 v)<|.B (.inr<|.inr dq)
theorem abg(e2:ρ .m=dA v.t.u)(q:Q (E.F x v).t.u μ):(cE1 (FQ ad C (.o (.s .m) .t) Xm ρ) (afV C .cE np Q Xm)) (.j x) μ:=ac e2 q
theorem Uo(g:Gc G C)(V:jW G J C)(o:Lo G sc dL ρ)(p:s.k.toNat<=J)(S:lj s sc Γ Φ 3)(q:∀s' e n,s'.k<=s.k->n+iD s'.k<=iD s.k+1->Gn G Γ Φ s.L s'.L n e->R e.t.u (G.a s')):bZ ad C jB.a R Xs P ρ (G.a s):=by
 have i:Lo G sc dL (ρ.H .fi<|.A .F (bK<|lA sc)):=o.H dq;refine D9 o.p<|I8 V i p (S.j<|qP _) λs1 v n1 k1 b1 g1=>?_;have a:Lo G sc dL ((ρ.H .fi<|.A .F (bK<|lA sc)).H .m v.t.u):=i.H dq;have A:=S.w (xh k1) g1.b.I;have h:=qg (zD<|xh k1) p;have fin:∀{xs c f},Fst Γ v f->bZ ad C (bC<|bC (bC jB.a)) R Xs P (((ρ.H .fi<|.A .F (bK<|lA sc)).H .m v.t.u).H .jY f.t.u) (G.a ⟨xs,c,s1.L,s1.k⟩):=λF=>PA (s:=⟨_,_,s1.L,s1.k⟩) V (a.H dq) h (A.w (xg _)<|xg _) S.f dq (xh k1) b1 g1 F q;refine abI (l:=bK<|lA sc) (λd=>E0 (s:=s1) g a.d dq λxs c f F=>fin F) λne=>?_;refine jU (s:=s1) g a.d dq λw xs c d d=>b7 (b:=w==0) (λd=>?_) λd=>E0 (s:=⟨xs,c,s1.L,s1.k⟩) g a.d dq λxs c f F=>fin F;refine ac a.d<|uD (j:=3) ne (by decide) λm y r t=>g.n (s:=⟨xs,c,s1.L,s1.k⟩) y (qi (qg t yl)<|qi (qj _ _) S.u) λu xs c hu=>?_
 obtain⟨x,z,e⟩:=xf.mp<|r u hu;rw[←e];exact abg dq<|fin (xs:=xs) (c:=c) (f:=.F x v) (.s<|S.K x (yk z))
end
def YQ(s:Str)(l:qe (qe AV)):qc->qk qd:=@List.rec (qe AV) (λb=>qc->qk qd) (λb=>ft) (λrow b ih i=>@List.casesOn AV (λb=>qk qd) row ft λa b=>@AV.casesOn (λb=>qk qd) a ft (λb=>ft) (λb=>ft) (λs'=>xU (s'==s) (dA (i:qd))<|ih (i+1)) λb=>ft) l
theorem adY(w:Pw):YQ w.z.t j6 0=dA w.f:=by cases w<;>kernel_rfl
def Vi(C:be):Prop:=∀{w:Pw} {Q:UQ} {X:Mu->Prop} {μ:Mu},Q (.j w.f) μ->C (.r ⟨129⟩) [.z w.z] Q X μ
def Fv(G:Gd)(C:be):Prop:=∀{s:sB} {sc:qe Se} {Γ Φ:qe qd} {Q:UQ} {X:Mu->Prop},sc.length<eC->(∀x,(x,ft)∈sc->x∈Γ)->(∀xs c e,Gn G Γ Φ s.L s.L 0 e->Q e.t.u (G.a {s with a:=xs,c:=c}))->C (.r ⟨232⟩) [.d G.e,LD sc,.d G.d] Q X (G.a s)
structure Vc(G:Gd)(J:qc)(C:be):Prop where
 g:Gc G C
 v:jW G J C
 l:vM .fP G J C
 u:vM ⟨211⟩ G J C
 d:vM ⟨229⟩ G J C
 f:Fv G C
 o:Vi C
section
variable{ad:qe U}{n J:qc}{Q:UQ}{X:Mu->Prop}{μ:Mu}{C:be}{ρ:UL}{R:UQ}{Xs P:ce}{G:Gd}{s:sB}{m x c L k dL lo v:qd}{xs:qe qd}{l:qe U}{sc:qe Se}{Γ Φ:qe qd}{w:Pw}
theorem YO:∀(l:qe (qe AV)) {i:qc} {ρ:UL},YQ nm.t l i=dA k->ρ ⟨79⟩=dA (.z nm)->R (.j k) μ->kX (λvs K ρ μ=>jL [⟨133⟩,⟨37⟩] vs ρ λρ=>bZ ad C (LZ (kg CO.a)) R Xs K ρ μ) (((l.map λr=>U.A .H (r.map Vz)).zipIdx i).map λp=>[.j p.2,p.1]) P ρ μ:=λl=>by
 induction l with
 |nil=>exactλh=>nomatch h
 |cons r l ih=>
  intro i ρ h e q;induction r with
  |nil=>exact nomatch h
  |cons a r _=>
   induction a with
   |t s=>
    have h:xU (s==nm.t) (dA (i:qd)) (YQ nm.t l<|i+1)=dA k:=h;refine gi<|ac (ρ:=(ρ.H ⟨133⟩ _).H ⟨37⟩ _) e ⟨_,.z,?_⟩;cases z:(s==nm.t)with
    |true=>rw[z]at h;exact(qA h)▸q
    |false=>rw[z]at h;exact ih h e q
   |_=>exact nomatch h
theorem Ed:Vi (d3 (n+1)):=λq=>aC (fn:=CO) dq dq<|YO j6 (adY _) dq (.j q)
theorem k_3{A B C Y:qc}(h:max A (max B (max C 0))<=Y):max (max A B) C<=Y:=have h1:=zj.mp h;have h2:=zj.mp h1.2;zj.mpr ⟨zj.mpr ⟨h1.1,h2.1⟩,(zj.mp h2.2).1⟩
theorem N6{a b c:E}{x:qc}(L:Af x [a,b,c])(h:x<11):Dq (x+1) (.v a b c):=
 ⟨λM m e=>qg (qL (qh (1+·) (qT _ _ _))) (NI (k:=1) L h (by decide:3<=4) (by decide) M m e),λM m e=>qg (qL (qh (0+·) (qT _ _ _))) (NH (k:=0) L h (by decide) M m e),
  λM m e=>OE (k:=3) (k_3 (L.d M m e)) (by decide),aey L.z (by decide:3<=4)⟩
theorem ah9(V:jW G J C)(o:Lo G sc dL ρ)(d:s.k.toNat<=J)(S:lj s sc Γ Φ 3)(q:∀s' e n,s'.k<=s.k->n+iD s'.k<=iD s.k+1->Gn G Γ Φ s.L s'.L n e->R e.t.u (G.a s')):bZ ad C (Ks (kg (bC (bC (bC (bC (bC (bC cW.a)))))))) R Xs P ρ (G.a s):=by
 refine BR V o d (S.j<|qP _) (by decide) (by decide) λs1 l n k1 b1 g1 hl=>?_
 revert g1;refine wV (P:=λl=>Vk G Γ Φ s.L s1.L n l->bZ ad C (bC<|Ks (kg<|bC (bC<|bC (bC<|bC (bC cW.a))))) R Xs P (ρ.H .u<|.A .F (us<|E.C l)) (G.a s1)) (λa b c g1=>?_) hl;refine q s1 (.v a b c) (n+1) k1 (uZ b1) ⟨⟨g1.d.1,g1.d.2.1,g1.d.2.2.1⟩,?_,?_,N6 g1.m<|bud_11 b1 S.f,oy,g1.J⟩
 ·have h:Rg s.L s1.L (bd a++(bd b++(bd c++[]))):=g1.b;rw[qO,←qR]at h;exact h
 ·have h:Rg s.L s1.L (gZ a++(gZ b++(gZ c++[]))):=g1.f;rw[qO,←qR]at h;exact h
theorem Xq(g:Vc G J C)(o:Lo G sc dL ρ)(c:s.k.toNat<=J)(S:lj s sc Γ Φ 3)(e6:ρ .V=dA (.z w.z))(d:ρ .fj=dA (.j (w.I:qc)))(q:∀s' e n,s'.k<=s.k->n+iD s'.k<=iD s.k+1->Gn G Γ Φ s.L s'.L n e->R e.t.u (G.a s')):bZ ad C (bC (bC (bC (bC (bC (bC (bC (bC (bC (bC cW.a)))))))))) R Xs P ρ (G.a s):=by
 have a:w.I<=2:=by cases w<;>decide
 refine ac e6<|g.o (ac d<|BR g.v o c (S.j<|qP _) (xE _) (by exact agR a) λs1 l n k1 b1 g1 hl=>?_)
 have hl:l.length=w.I:=hl;exact q s1 (.A w l) (n+1) k1 (uZ b1) ⟨⟨hl,g1.d⟩,g1.b,g1.f,NY g1.m (bud_11 b1 S.f)<|hl▸a,oy,g1.J⟩
theorem Xo(g:Vc G J C)(o:Lo G sc dL ρ)(b:s.k.toNat<=J)(S:lj s sc Γ Φ 3)(q:∀s' e n,s'.k<=s.k->n+iD s'.k<=iD s.k+1->Gn G Γ Φ s.L s'.L n e->R e.t.u (G.a s')):bZ ad C (bC (bC (bC (bC (bC (bC (bC (bC cW.a)))))))) R Xs P ρ (G.a s):=by
 refine ac o.d<|g.g.n (xR _ _) (by show 6<eC;decide) λu xs c hu=>?_
 have a:∃w:Pw,u=.z w.z:=by
  simp only[List.mem_cons,List.not_mem_nil,or_false]at hu;rcases hu with h|h|h|h|h|h
  ·exact⟨.o,h⟩
  ·exact⟨.c,h⟩
  ·exact⟨.d,h⟩
  ·exact⟨.v,h⟩
  ·exact⟨.g,h⟩
  ·exact⟨.e,h⟩
 obtain⟨w,e⟩:=a;rw[e];have k:=Xq (s:=⟨xs,c,s.L,s.k⟩) (ρ:=(ρ.H .V<|.z w.z).H .fj (.j (w.I:qc))) (R:=R) (Xs:=Xs) (P:=P) (ad:=ad) g ((o.H dq).H dq) b (S.w (xg _)<|xg _) dq dq q;cases w<;>exact k
theorem Vw(g:Gc G C)(f:Fv G C)(V:0<s.k->Vc G J C)(o:Lo G sc dL ρ)(e6:ρ .rF=dA (.j v))(r:v=13\/(0<s.k/\0<=v/\v<14))(m:0<s.k->s.k.toNat<=J)(S:0<s.k->lj s sc Γ Φ 3)(hl:sc.length<eC)(t:∀x,(x,ft)∈sc->x∈Γ)(q:∀xs c e,Gn G Γ Φ s.L s.L 0 e->R e.t.u (G.a {s with a:=xs,c:=c}))(j:0<s.k->∀s' e n,s'.k<=s.k->n+iD s'.k<=iD s.k+1->Gn G Γ Φ s.L s'.L n e->R e.t.u (G.a s')):bZ ad C (bC (bC cW.a)) R Xs P ρ (G.a s):=by
 have k:v<=12->0<s.k:=λh=>r.elim (λz=>qH h (by rw[z];decide)) λz=>z.1
 have arg:∀{f},(Vc G J C->vM f G J C)->v<=12->C (.r f) [.d G.e,.d G.z,LD sc,.j dL,.d G.d] R (Xs ρ) (G.a s):=λp h=>p (V<|k h) (m<|k h) (S<|k h)<|j (k h);refine ac e6<|b7 (b:=decide<|v<4) (λh=>ac o.d<|ac o.g (ac o.p<|ac o.r (ac o.i<|arg Vc.l (by have:=qC h;exact agQ this)))) λi=>?_
 refine ac e6<|b7 (b:=decide<|v<6) (λh=>ac o.d<|ac o.g (ac o.p<|ac o.r (ac o.i<|arg Vc.u (by have:=qC h;exact agP this)))) λi=>?_
 refine ac e6<|b7 (b:=decide<|v<8) (λh=>ac o.d<|ac o.g (ac o.p<|ac o.r (ac o.i<|arg Vc.d (by have:=qC h;exact agO this)))) λi=>?_
 refine ac e6<|b7 (b:=v==8) (λi=>jU g o.d dq λu xs c a b=>?_) λi=>?_
 ·exact q xs c (.B<|1+u)<|CH (.inr<|.inr ⟨_,dq⟩) (xg _) (by show 1+u=1\/1+u=2\/1+u=3;exact agN a b) ⟨oy,oy⟩
 refine ac e6<|b7 (b:=v==9) (λh=>?_) λi=>?_
 ·have h:=k (by rw[eq_of_beq h];decide)
  exact ah9 (V h).v o (m h) (S h)<|j h
 refine ac e6<|b7 (b:=decide<|v>11) (λi=>ac o.d<|ac o.p (ac o.i<|f hl t q)) λh=>?_;have h:=k (by have:=xG h;exact agM this)
 exact Xo (V h) o (m h) (S h)<|j h
end
section
variable{ad:qe U}{R:UQ}{lo:qd}
theorem Xr(g:Gc G C)(f:Fv G C)(V:0<s.k->Vc G J C)(o:Lo G sc dL ρ)(em:μ=G.a s)(m:0<s.k->s.k.toNat<=J)(S:0<s.k->lj s sc Γ Φ 3)(hl:sc.length<eC)(p:∀x,(x,ft)∈sc->x∈Γ)(l:∀xs c e,Gn G Γ Φ s.L s.L 0 e->R e.t.u (G.a {s with a:=xs,c:=c}))(j:0<s.k->∀s' e n,s'.k<=s.k->n+iD s'.k<=iD s.k+1->Gn G Γ Φ s.L s'.L n e->R e.t.u (G.a s')):bZ ad C (bC cW.a) R Xs P ρ μ:=by
 rw[em];have no:bZ ad C (bC<|bC cW.a) R Xs P (ρ.H .rF<|.j 13) (G.a s):=Vw g f V (o.H dq) dq (.inl dq) m S hl p l j;refine ac o.r<|b7 (b:=decide<|dL>0) (λi=>ac o.i<|bF g.o.t (b7 (b:=decide<|s.k>0) (λh=>jU g o.d dq λv xs c a b=>?_) λi=>no)) λi=>no;have d:=qC h;exact Vw (s:=⟨xs,c,s.L,s.k⟩) (ρ:=ρ.H .rF<|.j v) g f V (o.H dq) dq (.inr ⟨d,a,b⟩) m (λh=>(S h).w (xg _) (xg _)) hl p (λxs c=>l xs c) j
theorem ah8(g:Gc G C)(f:Fv G C)(V:0<s.k-1->Vc G J C)(o:Lo G sc dL ρ)(d:0<s.k-1->(s.k-1).toNat<=J)(S:lj s sc Γ Φ 0)(q:∀s' e n,s'.k<s.k->n+iD s'.k<=iD s.k->Gn G Γ Φ s.L s'.L n e->R e.t.u (G.a s')):bZ ad C cW.a R Xs P ρ (G.a s):=by
 have lt:s.k-1<s.k:=agg _ (by decide)
 refine ac o.i<|bF g.o.t (ac o.i ⟨g.o.t,⟨⟨by decide,by show(0:qd)<(2:qc);decide⟩,Xr (s:=⟨s.a,s.c,s.L,s.k-1⟩) g f V o g.o.D d (λh=>?_) (qi (qj _ _) S.u) S.K (λxs c e a=>q ⟨xs,c,s.L,s.k-1⟩ e 0 lt (by rw[vu];exact G9<|xh lt) a) λh s' e n k b a=>q s' e n (zl k lt) (qg b ?_) a⟩⟩)
 ·have h:0<s.k-1:=h;refine⟨qg (G9<|xh lt) S.f,?_,S.K,S.i,S.p⟩;have:=S.o;show sc.length+10*((s.k-1).toNat+1)+3<eC;exact agL h this
 ·have h:0<s.k-1:=h;show(s.k-1-1).toNat+1<=(s.k-1).toNat;exact agK h
theorem Os(o:kH G)(V:jW G J (d3 (n+2))):Lu G J (d3 (n+3)):=λa S q=>aC (fn:=g5) dq dq<|aak (tN o) V ⟨dq,dq,dq,dq,dq⟩ a S λs' lb ps rest e n k b g=>.j<|q s' lb ps rest e n k b g
theorem YN(o:kH G)(V:jW G J (d3 (n+2))):Vh G J (d3 (n+3)):=λc S a q=>aC (fn:=ix) dq dq<|YM (tN o) V ⟨dq,dq,dq,dq,dq⟩ c S a dq dq λs' l n k b g hl=>.j<|q s' l n k b g hl
theorem Ir(o:kH G)(t:WW G):Fv G (d3 (n+3)):=λh a q=>aC (fn:=kZ) dq dq<|Tj (tN o) t h a dq dq dq λxs c e g=>.j<|q xs c e g
theorem Od(o:kH G)(V:jW G J (d3 (n+3)))(c:jW G J (d3 (n+2))):vM .fP G J (d3 (n+4)):=λa S q=>aC (fn:=jf) dq dq<|aae (tN o) V (Os o c) ⟨dq,dq,dq,dq,dq⟩ a S λs' e n k b g=>.j<|q s' e n k b g
theorem Xv(o:kH G)(V:jW G J (d3 (n+3)))(a:jW G J (d3 (n+2))):vM ⟨211⟩ G J (d3 (n+4)):=λc S q=>aC (fn:=kh) dq dq<|Xu (tN o) V (Os o a) (YN o a) ⟨dq,dq,dq,dq,dq⟩ c S λs' e n k b g=>.j<|q s' e n k b g
theorem Up(o:kH G)(V:jW G J (d3 (n+3))):vM ⟨229⟩ G J (d3 (n+4)):=λa S q=>aC (fn:=jB) dq dq<|Uo (tN o) V ⟨dq,dq,dq,dq,dq⟩ a S λs' e n k b g=>.j<|q s' e n k b g
theorem Du(o:kH G)(t:WW G)(V:0<s.k-1->Vc G J (d3 (n+3)))(a:0<s.k-1->(s.k-1).toNat<=J)(S:lj s sc Γ Φ 0)(q:∀s' e n,s'.k<s.k->n+iD s'.k<=iD s.k->Gn G Γ Φ s.L s'.L n e->Q e.t.u (G.a s')):d3 (n+4) (.r .bD) [.d G.e,.d G.z,LD sc,.j dL,.d G.d] Q X (G.a s):=
 aC (fn:=cW) dq dq (ah8 (tN o) (Ir o t) V ⟨dq,dq,dq,dq,dq⟩ a S λs' e n k b g=>.j<|q s' e n k b g)
theorem L8(o:kH G)(t:WW G)(J:qc):∀n,jW G J (d3 (5*J+n+4)):=by
 induction J with
 |zero=>exactλn s sc Γ Φ dL Q X a S q=>Du (J:=0) o t (λh=>qH h (by exact WO a)) (λh=>qH h (by exact WO a)) S q
 |succ J ih=>
  intro n s sc Γ Φ dL Q X a S q;have e:5*(J+1)+n+4=5*J+n+5+4:=by exact agJ
  rw[e];exact Du (n:=5*J+n+5) (J:=J) o t (λb=>⟨tN o,ih<|n+4,Od o (ih<|n+3)<|ih (n+2),Xv o (ih<|n+3)<|ih (n+2),Up o<|ih (n+3),Ir o t,Ed⟩) (λh=>by exact agI a) S q
end
noncomputable def liA:Mi->qk qd:=λx=>@Sum.casesOn qd qd (λa=>qk qd) x dA λa=>ft
noncomputable def riA:Mi->qk qd:=λx=>@Sum.casesOn qd qd (λa=>qk qd) x (λa=>ft) dA
theorem Y6(l:qe Mi):(l.filterMap liA).Nodup->(l.filterMap riA).Nodup->l.Nodup:=by
 induction l with
 |nil=>exactλa a=>Zn
 |cons x l ih=>
  cases x with
  |inl x=>exactλh k=>xi.mpr ⟨λz=>(xi.mp h).1 (xD.mpr ⟨_,z,dq⟩),ih (xi.mp h).2 k⟩
  |inr x=>exactλh k=>xi.mpr ⟨λz=>(xi.mp k).1 (xD.mpr ⟨_,z,dq⟩),ih h (xi.mp k).2⟩
theorem Ik(xs:qe qd):(iB xs).filterMap liA=xs/\(iB xs).filterMap riA=[]:=by
 induction xs with
 |nil=>exact⟨dq,dq⟩
 |cons x xs ih=>exact⟨qh (x::·) ih.1,ih.2⟩
theorem Wa(h:Hd):(hI h).filterMap liA=Am h/\(hI h).filterMap riA=Wb h:=by
 cases h with
 |a lb ps rest=>exact⟨(Ik<|ps++rs rest).1,qh (lb::·) (Ik<|ps++rs rest).2⟩
 |_=>exact⟨dq,dq⟩
theorem Dt(t:T):(wI t).filterMap liA=LO t/\(wI t).filterMap riA=Tn t:=
 T.rec (motive_1:=λt=>(wI t).filterMap liA=LO t/\(wI t).filterMap riA=Tn t) (motive_2:=λl=>(FL l).filterMap liA=n7 l/\(FL l).filterMap riA=rp l) (λh l ih=>⟨(Zy ..).trans (Dn (Wa h).1 ih.1),(Zy ..).trans (Dn (Wa h).2 ih.2)⟩) ⟨dq,dq⟩ (λt l a b=>⟨(Zy ..).trans (Dn a.1 b.1),(Zy ..).trans (Dn a.2 b.2)⟩) t
theorem ada(nb:(LO t).Nodup)(a:(Tn t).Nodup):(wI t).Nodup:=Y6 _ ((Dt t).1▸nb)<|(Dt t).2▸a
def Mh:Mc:=⟨np,.f .N [⟨113⟩],[.A .F [.j 115]]⟩
def Rn:Mc:=⟨np,.f .dJ [⟨89⟩,⟨188⟩],[.A .F [],.A (.d []) []]⟩
section
variable{ad:qe U}{R:UQ}{a:qc}
theorem CN(q:Q acc μ):dF cy [] acc Q μ:=by rw[eX];exact q
theorem kY(q:cy vs (λv μ=>dF cy its (@Option.casesOn U (λa=>qe U) v acc λw=>acc++[w]) Q μ) μ):dF cy (vs::its) acc Q μ:=by rw[dD];exact q
theorem adH:(Nm.LH.t).cps.toList=[115]:=by kernel_rfl
theorem OK{K:qe (qe U)->Prop}(q:K [[.t ⟨#[115]⟩]]):itU (.z .LH) K:=by
 have e:rD Nm.LH.t=[[.t ⟨#[115]⟩]]:=by unfold rD;rw[adH];rfl
 show xU (zR (rD Nm.LH.t).length 1000) (K<|rD Nm.LH.t) qp;rw[e];exact q
theorem Rl(e1:ρ .gz=dA (.z .LH))(q:∀a,μ a=ft->R (.d a) (μ.H a Mh)):bZ ad C pw.a R Xs P ρ μ:=ac e1<|OK (kY ⟨115,dq,CN q⟩)
theorem Rm(q:∀a,μ a=ft->Q (.d a) (μ.H a Mh)):aJ ad (n+1) (.r ⟨244⟩) [.z .LH] Q X μ:=aC (fn:=pw) dq dq<|Rl dq λa h=>.j<|q a h
theorem slice_20(e:μ a=dA ⟨f,.i,bK l⟩)(q:∀m:qe qd,m.length<=l.length->Q (.A .F (bK m)) μ):iA np (.d a) .u (.j 20) Q μ:=by
 unfold iA;refine bF e ?_;show Q (.A .F<|((l.map U.j).take (acD (bK l).length 20)).drop 0) μ;rw[←List.map_take];exact q _<|List.length_take_le' ..
theorem U9:∀(xs:qe qd) {acc:qe qd} {Q:rj},(∀ys:qe qd,ys.length=acc.length+xs.length->Q (bK ys) μ)->dF (λvs K μ=>jL [.mB] vs ρ λaI=>uE ad C (.E .vp (.o (.s .mB) .t)) np Xm aI (km K) μ) (fF (bK xs)) (bK acc) Q μ:=λxs=>by
 induction xs with
 |nil=>exactλq=>CN<|q _ dq
 |cons x xs ih=>
  intro acc Q q;refine kY ?_;have k:=ih (acc:=acc++[(x.natAbs:qd)]) (Q:=Q) λys h=>q ys<|h.trans (by rw[qs];show acc.length+1+xs.length=acc.length+(xs.length+1);exact agH)
  rw[mf]at k;exact k
theorem TY:∀(xs:qe qd) {acc:qe qd} {Q:rj},(∀ys:qe qd,Q (bK ys) μ)->dF (λvs K μ=>jL [.mB] vs ρ λaI=>uE ad C (.g .GtE (.s .mB) (.C .f (.j 10) (.j 18))) np Xm aI (Jj (uE ad C (.s .mB) np Xm aI (km K)) (K ft)) μ) (fF (bK xs)) (bK acc) Q μ:=λxs=>by
 induction xs with
 |nil=>exactλq=>CN<|q _
 |cons x xs ih=>
  intro acc Q q;refine kY ⟨⟨dq,dq⟩,b7 (b:=decide<|x>=1000000000000000000) (λa=>?_) λa=>ih q⟩;have k:=ih (acc:=acc++[x]) (Q:=Q) q;rw[mf]at k;exact k
theorem Ur(e:μ a=dA ⟨f,.i,bK l⟩)(hl:l.length<=63)(q:∀d0 dk xs ys,μ d0=ft->(μ.H d0 (FD xs)) dk=ft->0<ys.length->Q (.d dk) ((μ.H d0 (FD xs)).H dk (KN d0 ys 0))):aJ ad (n+1) (.r ⟨228⟩) [.d a] Q X μ:=by
 refine aC (fn:=tV) dq dq<|slice_20 e λm c=>U9 m (acc:=[]) λys b=>TY ys (acc:=[]) λxs d0 h0=>⟨?_,λdk h1=>?_⟩
 ·rw[dU];refine gY<|qi (qN<|qg (qL b) (qg (qL<|vu _)<|qg c hl)) (by decide)
 ·have k:=q d0 dk xs (ys++[417+((bK ys).length:qd)]) h0 h1 (by rw[qs];exact zT _)
  unfold KN at k;rw[mf]at k;exact .j k
theorem Rs(b:c=.dJ)(e1:ρ .g=dA (.d a))(e:μ a=dA ⟨np,.f c [],[]⟩)(q:∀bS,bS=μ.H a Rn->P ρ bS):bZ ad C fH.a R Xs P ρ μ:=by
 rw[b]at e;exact ac e1 ⟨e,ac e1 ⟨aE _ _ _,q _<|eP _ _ _ _⟩⟩
theorem SJ(e1:ρ .g=dA (.d a))(e:μ a=dA ⟨np,.f .ik [⟨138⟩],[tb]⟩)(q:∀bS,bS=μ.H a (SM tb 0)->P ρ bS):bZ ad C (bC gK.a) R Xs P ρ μ:=by
 exact ac e1 ⟨e,ac e1 ⟨aE _ _ _,ac e1 ⟨aE _ _ _,ac e1 ⟨aE _ _ _,q _<|(eP _ _ _ _).trans ((eP _ _ _ _).trans (eP _ _ _ _))⟩⟩⟩⟩
end
noncomputable abbrev lsM(l:qe U):Mc:=⟨np,.F,l⟩
noncomputable def Gd.q(G:Gd)(b:Mu):Gd:={G with b:=b}
structure Nb(G:Gd)(b:Mu):Prop where
 e:b G.e=ft
 f:b G.f=ft
 q:b G.z=ft
 c:b G.d=ft
section
variable{ad:qe U}{μ bS b:Mu}{R:UQ}{a:qc}{l xs:qe qd}{G:Gd}
theorem kH.q(o:kH G)(b:Mu):kH (G.q b):=⟨o.d,o.g,o.p,o.r,o.i,o.A,o.y⟩
theorem Nb.I(N:Nb G b)(o:kH G):jj b ((G.q b).a s):=((((jj.j b).B _ N.q).B _ N.c).B _ N.f).B _ N.e
theorem kH.v(o:kH G)(e:(G.q b).a s a=c):a≠G.e->a≠G.f->a≠G.d->a≠G.z->b a=c:=λh1 h2 h3 h4=>((ap _ _ h1).trans ((ap _ _ h2).trans ((ap _ _ h3).trans (ap _ _ h4)))).symm.trans e
theorem kH.j(o:kH G)(h:G.a s a=ft):G.e≠a/\G.f≠a/\G.d≠a/\G.z≠a:=⟨bz Gd.g h,bz o.w h,bz o.t h,bz o.u h⟩
theorem kH.H(o:kH G)(h:(G.q b).a s a=ft):((G.q b).a s).H a m=(G.q (b.H a m)).a s:=by
 obtain⟨h1,h2,h3,h4⟩:=(o.q b).j h;exact(cw _ _ _ h1).trans (qh (Mu.H · G.e _) ((cw _ _ _ h2).trans (qh (Mu.H · G.f _) ((cw _ _ _ h3).trans (qh (Mu.H · G.d _)<|cw _ _ _ h4)))))
theorem Nb.H(N:Nb G b)(o:kH G)(h:(G.q b).a s a=ft):Nb G (b.H a m):=by
 obtain⟨h1,h2,h3,h4⟩:=(o.q b).j h;exact⟨(ap _ _ h1).trans N.e,(ap _ _ h2).trans N.f,(ap _ _ h4).trans N.q,(ap _ _ h3).trans N.c⟩
def Ql(μ bS:Mu):Prop:=∀a f xs l,μ a=dA ⟨f,.f .N xs,l⟩->bS a=dA ⟨f,.f .N xs,l⟩
theorem LS.J(h:Ql μ bS):LS μ t->LS bS t:=by
 induction t with
 |c a=>exactλ⟨f,xs,l,e⟩=>⟨f,xs,l,h a f xs l e⟩
 |e a b i j=>exactλk=>⟨i k.1,j k.2⟩
 |_=>exact id
theorem Da.J(k:Da μ n v)(h:Ql μ bS):Da bS n v:=by
 induction k with
 |z=>exact .z
 |j=>exact .j
 |q=>exact .q
 |y e=>exact .y<|h _ _ _ _ e
 |H _ ih=>exact .H ih
 |F _ ih=>exact .F ih
theorem pG.J(k:pG μ o)(h:Ql μ bS):pG bS o:=⟨k.c.J h,λp a=>⟨(k.C p a).1.J h,(k.C p a).2⟩,⟨k.y.1.J h,k.y.2⟩,⟨k.z.1.J h,k.z.2⟩⟩
theorem jj.J(h:jj μ bS):Ql μ bS:=λa b b b e=>h a _ e
def afN(h:Uh):Nm:=@Uh.casesOn (λa=>Nm) h .B .B .B (λa=>.B) (λa=>.B) (λc a=>c) λc a=>c
theorem Hx{a b:qc}{f g:qw}{xs:qe Nm}{k:Uh}{l m:qe U}(e:μ a=dA ⟨f,.f .N xs,l⟩)(c:μ b=dA ⟨g,k,m⟩)(n:decide (Nm.N=afN k)=np):a≠b:=iz e c λz=>xG n<|qh afN z
theorem kH.J{s:sB}(o:kH G):Ql ((G.q b).a s) b:=λa f xs l e=>o.v e (Hx e (Gd.g (G:=G.q b)) dq) (Hx e (o.q b).w dq) (Hx e (o.q b).t dq)<|Hx e (o.q b).u dq
theorem SX(k:pG μ o):NeU μ (Eb o) (Eb o) hY:=by
 have h:=YJ k;cases h with
 |F h=>exact .F dq<|yT λu hu=>(h u hu).o 198 (by decide)
end
structure Lc(C:be):Prop where
 g:∀{G},kH G->Gc G C
 y:∀{G},kH G->WW G->vM .fP G 11 C
 b:∀{e:E} {W:U} {Q:UQ} {X:Mu->Prop} {μ:Mu},Ai μ e->u7 e->LP W->(pG μ (rS e)->Q (Eb<|rS e) μ)->C (.r .c7) [e.t.u,W] Q X μ
 i:∀{e:E} {Q:UQ} {X:Mu->Prop} {μ:Mu},Ai μ e->Q (cp (cY e) e).t.u μ->C (.r ⟨160⟩) [e.t.u] Q X μ
 k:∀{e:E} {Q:UQ} {X:Mu->Prop} {μ:Mu},Ai μ e->Q (dr (cY e) e).t.u μ->C (.r ⟨191⟩) [e.t.u] Q X μ
 c:∀{e:E} {Q:UQ} {X:Mu->Prop} {μ:Mu} {mt:qc},Ai μ e->μ mt=dA (lsM [])->Q (.q hY) (μ.H mt<|lsM ((wI e.t).map mU))->C (.r .c8) [e.t.u,.A .F [],.d mt] Q X μ
 J:∀{Q:UQ} {X:Mu->Prop} {μ:Mu},(∀a,μ a=ft->Q (.d a) (μ.H a Mh))->C (.r ⟨244⟩) [.z .LH] Q X μ
theorem u7.i{e:E}(h:u7 e):u7 (cp (cY e) e):=⟨qg (GW L6 _ e _) h.c,qg (GW Vv _ e _) h.q,qg (qF (GW L5 _ e _) _) h.d⟩
theorem u7.k{e:E}(h:u7 e):u7 (dr (cY e) e):=⟨qg (GV L6 _ e _<|tF e) h.c,qg (GV Vv _ e _<|tF e) h.q,qg (qF (GV L5 _ e _<|tF e) _) h.d⟩
abbrev Gj:iH:=LZ<|kg (bC<|bC IV.a)
abbrev ON:iH:=LZ<|kg (bC<|bC Gj)
structure InF(G:Gd)(o:oL)(W:U)(ρ:UL):Prop where
 d:ρ ⟨18⟩=dA (Eb o)
 k:ρ .o=dA (.d G.e)
 n:ρ .z=dA (.d G.z)
 w:ρ .fB=dA W
inductive InI(G:Gd)(o:oL)(W:U)(L:qd)(ρ:UL)(μ:Mu):Prop
 |mk{b:Mu}{s:sB}{e:E}(em:μ=(G.q b).a s)(eL:s.L=L)(N:Nb G b)(F:Ai b e)(c:u7 e)(eo:rS e=o)(O:pG b o)(en:ρ .f=dA e.t.u)(f:InF G o W ρ)
section
variable{ad:qe U}{n:qc}{Q:UQ}{X Xm:Mu->Prop}{μ bS b:Mu}{C:be}{ρ:UL}{R:UQ}{Xs P:ce}{a:qc}{l xs:qe qd}{G:Gd}{s:sB}{m:Mc}{W:U}{o:oL}{e:E}{L:qd}
theorem InF.H{x:Nm}{v:U}(f:InF G o W ρ)(h:decide (x∉[(⟨18⟩:Nm),.o,.z,.fB])=hY):InF G o W (ρ.H x v):=by
 have h:=qC h;have k:∀y∈[(⟨18⟩:Nm),.o,.z,.fB],(ρ.H x v) y=ρ y:=λy a=>if_neg λz:y=x=>h<|z▸a;exact⟨(k _ (by decide)).trans f.d,(k _ (by decide)).trans f.k,(k _ (by decide)).trans f.n,(k _ (by decide)).trans f.w⟩
theorem aau(H:Lc C)(g:kH G)(a:LP W)(N:Nb G b)(F:Ai b e)(c:u7 e)(h:rS e=o)(O:pG b o)(i:ρ .f=dA e.t.u)(f:InF G o W ρ)(q:P ρ ((G.q b).a s)):uE ad C (.g .NotEq (.h .c7 (.o (.s .f) (.o (.s .fB) .t))) (.s ⟨18⟩)) np Xm ρ (cOr (λμ=>Jj (λμ=>R (.q np) μ) (λμ=>P ρ μ) (.q np) μ) (Jj (λμ=>R (.q np) μ) λμ=>P ρ μ)) ((G.q b).a s):=by
 refine ac i<|ac f.w (H.b (F.G<|N.I g) c a λj=>?_);rw[h];exact ac f.d ⟨hY,SX<|O.J (N.I g).J,q⟩
theorem Ix(H:Lc C)(g:kH G)(i:LP W)(N:Nb G b)(F:Ai b e)(c:u7 e)(h:rS e=o)(O:pG b o)(d:ρ .f=dA e.t.u)(f:InF G o W ρ)(q:∀ρ μ,InI G o W s.L ρ μ->P ρ μ):bZ ad C (bC ON) R Xs P ρ ((G.q b).a s):=by
 refine ac d λmt a=>H.c (F.G<|(N.I g).i (.H _ a)) (aE _ _ _) ?_;rw[eP,g.H a];have le:jj b (b.H mt<|lsM ((wI e.t).map mU)):=.H _<|(N.I g).u a;exact aau (s:=s) (Xm:=Xs ρ) H g i (N.H g a) (F.G le) c h (O.J le.J) d f<|q _ _ (.mk dq dq (N.H g a) (F.G le) c h (O.J le.J) d f)
theorem EB{v:U}(H:Lc C)(g:kH G)(h:LP W)(I:InI G o W L ρ μ)(q:∀ρ μ,InI G o W L ρ μ->P ρ μ):bZ ad C ON R Xs P (ρ.H ⟨108⟩ v) μ:=by
 cases I with
 |@mk b s e em j N F c i O a f=>
  rw[em];have a:(ρ.H ⟨108⟩ v) .f=dA e.t.u:=a;have f:InF G o W (ρ.H ⟨108⟩ v):=f.H dq;generalize ρ.H ⟨108⟩ v=ρ at*;refine jU (s:=s) (H.g<|g.q b) f.k dq λu xs c' d d=>b7 (b:=u==0) (λd=>ac a<|H.i (F.G<|N.I g) ?_) λd=>ac a<|H.k (F.G<|N.I g) ?_
  ·exact Ix (s:={s with a:=xs,c:=c'}) H g h N F.i c.i ((Ux F.p).trans i) O dq (f.H dq)<|j▸q
  ·exact Ix (s:={s with a:=xs,c:=c'}) H g h N F.k c.k ((Uk F.p).trans i) O dq (f.H dq)<|j▸q
end
structure Dk where
 e:qc
 f:qc
 z:qc
 h:qe qd
 i:U
def Ly(b:Mu)(D:Dk)(xs:qe qd)(c L:qd):Mu:=((b.H D.z<|SM D.i L).H D.f (FD xs)).H D.e (KN D.f D.h c)
structure FF(b:Mu)(D:Dk):Prop where
 d:D.e≠D.f
 p:D.e≠D.z
 i:D.f≠D.z
 y:0<D.h.length
 e:b D.e=ft
 f:b D.f=ft
 q:b D.z=ft
noncomputable def Dk.g(D:Dk)(b:Mu)(lf:qc)(tx:qe U):Gd:=⟨b,D.e,D.f,D.z,lf,D.h,tx,D.i⟩
inductive OuI(D:Dk)(W:U)(ρ:UL)(μ:Mu):Prop
 |mk{b:Mu}{xs:qe qd}{c L:qd}(em:μ=Ly b D xs c L)(Z:FF b D)(hL:0<=L)(k:ρ .o=dA (.d D.e))(n:ρ .z=dA (.d D.z))(w:ρ .fB=dA W)
section
variable{ad:qe U}{n lf:qc}{μ b:Mu}{ρ:UL}{R:UQ}{xs:qe qd}{W:U}{c L k:qd}{D:Dk}{tx:qe U}
theorem FF.j(Z:FF b D)(h:Ly b D xs c L a=ft):D.e≠a/\D.f≠a/\D.z≠a:=
 have d0:=(ap ((b.H D.z<|SM D.i L).H D.f (FD xs)) (KN D.f D.h c) λz=>Z.d z.symm).trans (aE _ _ _)
 ⟨bz (aE _ _ _) h,bz d0 h,bz ((ap _ _ λz=>Z.p z.symm).trans ((ap _ _ λz=>Z.i z.symm).trans (aE _ _ _))) h⟩
theorem FF.I(Z:FF b D):jj b (Ly b D xs c L):=(((jj.j b).B _ Z.q).B _ Z.f).B _ Z.e
theorem FF.o(Z:FF b D)(h:Ly b D xs c L a=ft):(Ly b D xs c L).H a m=Ly (b.H a m) D xs c L:=by
 obtain⟨h1,h2,h3⟩:=Z.j h;exact(cw _ _ _ h1).trans (qh (Mu.H · D.e _) ((cw _ _ _ h2).trans (qh (Mu.H · D.f _)<|cw _ _ _ h3)))
theorem FF.H(Z:FF b D)(h:Ly b D xs c L a=ft):FF (b.H a m) D:=by
 obtain⟨h1,h2,h3⟩:=Z.j h;exact⟨Z.d,Z.p,Z.i,Z.y,(ap _ _ h1).trans Z.e,(ap _ _ h2).trans Z.f,(ap _ _ h3).trans Z.q⟩
theorem FF.g(Z:FF b D)(h:Ly b D xs c L lf=ft):(Ly b D xs c L).H lf (lfM tx k)=(D.g b lf tx).a ⟨xs,c,L,k⟩/\kH (D.g b lf tx)/\Nb (D.g b lf tx) b:=by
 obtain⟨h1,h2,h3⟩:=Z.j h;exact⟨(cw _ _ _ h1).trans (qh (Mu.H · D.e _)<|cw _ _ _ h2),⟨Z.d,h1,Z.p,h2,Z.i,λz=>h3 z.symm,Z.y⟩,⟨Z.e,Z.f,Z.q,Z.I.u h⟩⟩
theorem afo(o:kH (D.g b lf tx))(N:Nb (D.g b lf tx) μ):((D.g b lf tx).q μ).a s=Ly (μ.H lf (lfM tx s.k)) D s.a s.c s.L/\FF (μ.H lf (lfM tx s.k)) D:=
 ⟨qh (Mu.H · D.e _) (qh (Mu.H · D.f _)<|cw _ _ _ λz=>o.A z.symm),⟨o.d,o.p,o.i,o.y,(ap _ _ o.g).trans N.e,(ap _ _ o.r).trans N.f,(ap _ _ λz=>o.A z.symm).trans N.q⟩⟩
theorem No(q:kX cy [[.j 0],[.j 1]] Q ρ μ):kX cy (nB 2) Q ρ μ:=q
theorem abh(H:Lc C)(g:kH (D.g b lf tx))(N:Nb (D.g b lf tx) b)(a:LP W)(F:Ai b e)(c:u7 e)(em:μ=(D.g b lf tx).a s)(l:0<=s.L)(d:ρ .f=dA e.t.u)(k:ρ .o=dA (.d D.e))(n:ρ .z=dA (.d D.z))(w:ρ .fB=dA W)(q:∀ρ μ,OuI D W ρ μ->P ρ μ):bZ ad C (bC Gj) R Xs P ρ μ:=by
 rw[em];refine ac d<|ac w (H.b (F.G<|N.I g) c a λO=>⟨by decide,No<|gi ?_⟩)
 have I:InI (D.g b lf tx) (rS e) W s.L (ρ.H ⟨18⟩<|Eb (rS e)) ((D.g b lf tx).a s):=.mk (b:=b) dq dq N F c dq (O.J<|g.J (b:=b)) d ⟨dq,k,n,w⟩
 have fin:∀ρ μ,InI (D.g b lf tx) (rS e) W s.L ρ μ->P ρ μ:=λρ μ I=>by
  cases I with
  |@mk b2 j e2 em m o _ _ _ _ _ f=>
   obtain⟨i,h⟩:=afo (s:=j) g o;exact q _ _<|.mk (em.trans i) h (m▸l) f.k f.n f.w
 exact EB H g a I λρ μ I=>gi<|EB H g a I λρ μ I=>j3<|fin ρ μ I
theorem XA{c a:qc}(h:c≠a):WW (D.g ((b.H c Mh).H a Mh) lf [.d c,.d a]):=
 ⟨λu hu=>(qG.mp hu).elim (λz=>⟨c,z,_,_,_,(ap _ _ h).trans (aE _ _ _)⟩) λz=>⟨a,qD.mp z,_,_,_,aE _ _ _⟩,dq⟩
theorem Ea(H:Lc C)(x:LP W)(I:OuI D W ρ μ)(q:∀ρ μ,OuI D W ρ μ->P ρ μ):bZ ad C Gj R Xs P (ρ.H .iU v) μ:=by
 cases I with
 |@mk b xs c L em Z r k n w=>
  rw[em];refine ac (ρ:=ρ.H .iU v) k<|ac (ρ:=ρ.H .iU v) n (H.J λd h1=>H.J λg h2 lf h3=>?_);rw[Z.o h1]at h2 h3⊢;have i:FF (b.H d Mh) D:=Z.H h1;rw[i.o h2]at h3⊢;have y:FF ((b.H d Mh).H g Mh) D:=i.H h2;have ne:=bz (aE b d Mh)<|i.I.u h2;obtain⟨o,j,t⟩:=y.g (tx:=[.d d,.d g]) (k:=11) h3;unfold lfM at o;rw[o];refine H.y (s:=⟨xs,c,L,11⟩) (sc:=[]) (Γ:=[]) (Φ:=[]) j (XA ne) (qm 11) ⟨qm 10,by show 10*12+3<eC;decide,λf h=>qH h qX,λf f f h=>qH h qX,r⟩ λs' e n1 k1 b1 a=>?_
  have p:n1<=11:=qg (qj _ _) b1;have F:Ai ((b.H d Mh).H g Mh) e:=⟨⟨a.d,a.b.A,a.l.A⟩,⟨RI.1 e a.b.A,qg a.m.z (by exact agG p),a.J⟩⟩
  exact abh (ρ:=(ρ.H .iU v).H .f e.t.u) H j t x F (a.m.f p) dq (xI r a.b.I) dq k n w q
end
section
variable{ad:qe U}{Q:UQ}{X:Mu->Prop}{μ:Mu}{C:be}{R:UQ}{a d0 dk nm tb:qc}{l xs ys:qe qd}
def ahs(C:be):Prop:=∀{a:qc} {f:qw} {l:qe qd} {Q:UQ} {X:Mu->Prop} {μ:Mu},μ a=dA ⟨f,.i,bK l⟩->l.length<=63->(∀d0 dk xs ys,μ d0=ft->(μ.H d0<|FD xs) dk=ft->0<ys.length->Q (.d dk) ((μ.H d0<|FD xs).H dk (KN d0 ys 0)))->C (.r ⟨228⟩) [.d a] Q X μ
def ahj(C:be):Prop:=∀{Q:UQ} {X:Mu->Prop} {μ:Mu} {a:qc},μ a=dA ⟨np,.f .dJ [],[]⟩->Q .u (μ.H a Rn)->C (.y .dJ .r) [.d a] Q X μ
def aho(C:be):Prop:=∀{Q:UQ} {X:Mu->Prop} {μ:Mu} {a:qc},μ a=dA ⟨np,.f .ik [],[]⟩->(∀tb,μ tb=ft->Q .u ((μ.H tb Rn).H a (SM (.d tb) 0)))->C (.y .ik .r) [.d a] Q X μ
theorem ad5(S:ahj C)(e1:ρ .g=dA (.d a))(e:μ a=dA ⟨np,.f .ik [],[]⟩)(q:∀tb,μ tb=ft->P ρ ((μ.H tb Rn).H a (SM (.d tb) 0))):bZ ad C gK.a R Xs P ρ μ:=by
 refine⟨dq,λtb b=>S (aE _ _ _) ⟨dq,?_⟩⟩;rw[eP];have c:=(ap μ Rn<|bz e b).trans e;refine ac e1 ⟨c,SJ (tb:=.d tb) e1 (aE _ _ _) λbS em=>?_⟩;rw[em,eP];exact q tb b
theorem XJ:ahj (aJ ad (n+1)):=λe q=>aC (fn:=fH) dq dq<|Rs dq dq e λbS em=>.j<|em▸q
theorem Y1:aho (aJ ad (n+2)):=λe q=>aC (fn:=gK) dq dq<|ad5 XJ dq e λtb h=>.j<|q tb h
abbrev ac2:Ex:=.E .kC<|.o (.z (.H<|.o (.h ⟨129⟩<|.o (.s .V) .t) (.o (.s .V) .t)) [.V]<|.F (.F<|.o (.t .nI) (.o (.t .s8)<|.o (.t .vo) (.o (.t .rG)<|.o (.t ⟨131⟩) (.o (.t .kB) .t))))) .t
def Ht:U:=.A (.d [9,11,12,8,15,4]) [.z .nI,.z .s8,.z .vo,.z .rG,.z ⟨131⟩,.z .kB]
theorem Hs:LP Ht:=⟨λw=>by cases w<;>rfl⟩
theorem Ue(op:Vi C)(q:Q Ht μ):uE ad C ac2 np Xm ρ Q μ:=kY<|op (w:=.o) (kY<|op (w:=.c) (kY<|op (w:=.d) (kY<|op (w:=.v) (kY<|op (w:=.g) (kY<|op (w:=.e) (CN q))))))
theorem Ej(h1:d0≠a)(h2:dk≠a):((μ.H d0 x).H dk y).H a m=((μ.H a m).H d0 x).H dk y:=(cw _ _ _ h2).trans (qh (Mu.H · dk _)<|cw _ _ _ h1)
theorem adr(h0:μ d0=ft)(h1:(μ.H d0 (FD xs)) dk=ft)(d:((μ.H d0 (FD xs)).H dk (KN d0 ys 0)) nm=ft)(y0:0<ys.length)(c:(((μ.H d0 (FD xs)).H dk (KN d0 ys 0)).H nm c0) tb=ft):((((μ.H d0 (FD xs)).H dk (KN d0 ys 0)).H nm c0).H tb Rn).H nm (SM (.d tb) 0)=Ly (μ.H tb Rn) ⟨dk,d0,nm,ys,.d tb⟩ xs 0 0/\FF (μ.H tb Rn) ⟨dk,d0,nm,ys,.d tb⟩:=by
 have e:d0≠dk:=bz (aE _ _ _) h1;have f:((μ.H d0<|FD xs).H dk (KN d0 ys 0)) d0=dA (FD xs):=(ap _ _ e).trans (aE _ _ _);have k1:=aE (μ.H d0<|FD xs) dk<|KN d0 ys 0;have b:=bz f d;have a:=bz k1 d;have i:=bz ((ap _ c0 b).trans f) c;have h:=bz ((ap _ c0 a).trans k1) c;have g:nm≠tb:=bz (aE _ _ _) c;have n1:μ dk=ft:=(ap _ _ λz=>e z.symm).symm.trans h1;have n3:μ nm=ft:=(ap _ _ λz=>b z.symm).symm.trans ((ap _ _ λz=>a z.symm).symm.trans d);refine⟨?_,⟨λz=>e z.symm,a,b,y0,(ap _ _ h).trans n1,(ap _ _ i).trans h0,(ap _ _ g).trans n3⟩⟩;rw[cw _ _ _ g,eP,Ej i h];exact Ej b a
theorem aai(H:Lc C)(hd:ahs C)(g:aho C)(op:Vi C)(e:μ a=dA ⟨f,.i,bK l⟩)(hl:l.length<=63)(e1:ρ ⟨172⟩=dA (.d a))(q:∀μ,R (.q hY) μ):bZ ad C IV.a R Xs P ρ μ:=by
 refine ac e1<|hd e hl λd0 dk xs ys h0 h1 y0=>⟨dq,λnm h=>g (aE _ _ _) λtb d=>⟨dq,?_⟩⟩;obtain⟨c,b⟩:=adr h0 h1 h y0 d;rw[c];refine Ue op ⟨by decide,No<|gi ?_⟩
 have I:OuI ⟨dk,d0,nm,ys,.d tb⟩ Ht (((ρ.H .o<|.d dk).H .z (.d nm)).H .fB Ht) (Ly (μ.H tb Rn) ⟨dk,d0,nm,ys,.d tb⟩ xs 0 0):=.mk dq b (xg _) dq dq dq;exact Ea H Hs I λρ μ I=>gi<|Ea H Hs I λρ μ I=>j3<|q μ
theorem Xi(t:T):(wI t).length<=3*sz t:=
 T.rec (motive_1:=λt=>(wI t).length<=3*sz t) (motive_2:=λl=>(FL l).length<=3*ku l) (λh l ih=>by
  have k:(hI h).length<=3*(AB h+1):=by
   cases h with
   |a lb ps rest=>
    show(iB<|ps++rs rest).length+1<=3*(ps.length+1);rw[qI,qs]
    have:(rs rest).length<=1:=by
     unfold rs;split
     ·exact qm _
     ·exact qP _
    exact agF this
   |_=>exact qP _
  show(hI h++FL l).length<=3*(AB h+ku l+1);rw[qs];exact agE ih k) (qm _) (λt l a b=>by
  show(wI t++FL l).length<=3*(sz t+ku l);rw[qs];exact agD a b) t
theorem Q3{mt:qc}(F:Ai μ e)(b:μ mt=dA (lsM []))(q:Q (.q hY) (μ.H mt (lsM ((wI e.t).map mU)))):aJ ad 338 (.r .c8) [e.t.u,.A .F [],.d mt] Q X μ:=
 Q4 337 (by decide) e.t (qg F.o.z (by decide)) (known:=[]) (m:=[]) (R:=[]) (W:=wI e.t) (env:=[]) F.o.s (M1.1 e [] [] [] F.p.d λa h=>h.elim (λz=>qH z qX) λz=>qH z qX) (λa h=>qH h qX) (qm _) (ada (Hc.1 e▸F.p.b)<|Om.1 e▸F.p.f) (qi (Xi _)<|qi (x0 3 F.o.z) (by decide)) (qO _) b q
theorem aev:Lc (d3 338):=
 ⟨λo=>tN (n:=336) o,λo t=>Od (n:=334) o (L8 o t 11 278)<|L8 o t 11 277,λF c b q=>Gk (m:=18) F.p c F.o.x F.o.z b q,λF q=>KV (n:=332) F q,λF q=>GR (n:=332) F q,λF a q=>Q3 F a q,λq=>Rm (n:=337) q⟩
theorem aaj(e:μ a=dA ⟨f,.i,bK l⟩)(hl:l.length<=63):d3 339 (.r .rH) [.d a] (λv b=>v=.q hY) (λb=>qp) μ:=
 aC (n:=338) (fn:=IV) dq dq (aai aev (λe hl q=>Ur (n:=337) e hl q) (Y1 (n:=336)) (Ed (n:=337)) e hl dq λb=>.j dq)
end
end
section
open PySem PySem.W PySem.Calls PyProof.Rows
theorem FV(h:ahT n ft t=hY):ahT n ann t=hY:=by
 unfold stepOk at h⊢;rw[qz]at h⊢;refine⟨h.1,?_⟩;have h:=h.2;cases e:t.cur<;>rw[e]at h<;>first|rfl|cases h|skip;rw[Zi]at h;rcases h with h|h
 ·exact acN.mpr<|.inl h
 ·exact absurd h (by simp)
theorem wT:∀{N:qc} {s:qy} {t:zd} {r:qy},topRun zS p w a ft N s t=dA r->topRun zS p w a ann N s t=dA r
 |0,_,_,_,h=>by cases h
 |N+1,s,t,r,h=>by
  unfold topRun at h⊢;cases c:aiS t with
  |true=>rw[c]at h;exact h
  |false=>
   rw[c]at h;cases b:ahT a ft t with
   |false=>rw[b]at h;cases h
   |true=>
    rw[b]at h;rw[FV b];dsimp only at h⊢;cases d:step (denote zS) p w s t with
    |go s' t'=>rw[d]at h;exact wT h
    |halt o s'=>rw[d]at h;cases h
def YP(h:Heap):Prop:=∃h₀:Heap,(Vr h₀.get?&&RA h₀.get?&&ye h₀.get?)=hY/\E1 h₀.get?=ky.map (·.2)/\∀b o,h₀.get? b=dA o->h.get? b=dA o
def myL(s:qy):qw×qe m8:=(Vr s.heap.get?&&RA s.heap.get?&&ye s.heap.get?,E1 s.heap.get?)
theorem y9(w:Zu):((ZL w.params).isNs zh,(ZL w.params).objs.size)=(hY,11):=by kernel_rfl
theorem Ph:fenceModules? vQ=λs=>dA s:=by kernel_rfl
theorem Ax:opening vQ=plainProg vQ.main.scope.names:=by kernel_rfl
theorem Oh{p q:ZO}{loose:qe Str}{α:Type}{Yf:qy->α}{Ya:Zu->α}{N f:qc}{h₀:Params->Heap}{d:Drawn}{k:qc}{c:Zu->ahO->xw}
  (b:∀w:Zu,(fencedOpening zS p w N).map (λs=>(s.heap,s.gens,s.drawn,s.toks))=dA (h₀ w.params,afQ [],d,k))
  (b1:∀w:Zu,(h₀ w.params).isNs zh=hY)(b2:∀w:Zu,(h₀ w.params).objs.size=f)(j:∀w os,(c w os).abs=⟨h₀ w.params,afQ [],d,k,os⟩)
  (a:∀w os,∃r:xw,JS p w f N (c w os) (topStub p)=dA r/\(staticsOk (Zm p.main.body) (h₀ w.params) r.abs.heap&&amc p r.abs.heap&&gensDone r.abs&&laidKept (h₀ w.params) r.abs.heap)=hY/\
   openSeen q loose (Zm p.main.body) (λg=>hY) hY r.abs=openGood q loose/\Yf r.abs=Ya w):LeftO p q loose (λg=>hY) Yf Ya N:=λw=>by
 obtain⟨⟨h,gs,d',k',os⟩,e,l⟩:=qS.mp<|b w;obtain⟨rfl,rfl,rfl,rfl⟩:h=h₀ w.params/\gs=Array.mk []/\d'=d/\k'=k:=by simpa using l
 obtain⟨r,hr,l1,l2,i⟩:=a w os;have a:=wT (ann:=(h₀ w.params).nsMap zh "__annotations__") (JR _ hr);rw[j]at a;unfold openEnds;rw[e];show q0 _ (topFrom _ _ _ _ _)=_;unfold topFrom;dsimp only;rw[b1,b2,a];show q0 _ (Option.bind (dA r.abs) _)=_;rw[Option.bind_some,l1];show dA (openSeen _ _ _ _ _ _,Yf _)=_;rw[l2,i]
theorem YB(w:Zu)(os:ahO):∃r:xw,JS vQ w 11 11400 (Jl w os) (topStub vQ)=dA r/\(staticsOk (Zm vQ.main.body) (ZL w.params) r.abs.heap&&amc vQ r.abs.heap&&gensDone r.abs&&laidKept (ZL w.params) r.abs.heap)=hY/\
   openSeen qv loose (Zm vQ.main.body) (λc=>hY) hY r.abs=openGood qv loose/\myL r.abs=(hY,ky.map (·.2)):=by
 obtain⟨r,hr,hl⟩:=qS.mp<|M7 w os;obtain⟨d,a,b⟩:=qS.mp<|Nc w os;cases qA (hr.symm.trans a);rw[afA]at hl;rw[←TX]at b;have h2:=qh Prod.snd hl;rw[←Cj]at h2;exact⟨r,hr,qh akg hl,h2,b⟩
theorem Ti:LeftO vQ qv loose (λa=>hY) myL (λa=>(hY,ky.map (·.2))) 11400:=
 Oh (h₀:=λP=>ZL P) (boot_open (p:=vQ) (N:=11400) Ax dq λs=>ahW Ph s) (λw=>qh (λx=>x.1)<|y9 w) (λw=>qh (λx=>x.2)<|y9 w) K9 YB
theorem ahg(e:myL s=(hY,ky.map (·.2))):YP s.heap:=⟨s.heap,qh akg e,qh Prod.snd e,λa a q=>q⟩
structure Tp(T:cV)(st:St):Prop where
 e:∃dx,st T.d=dA (.f .bM dx [(.cX,.t (⟨115⟩:Nm).t)])
 b:∃dx,st T.a=dA (.f .bM dx [(.cX,.t (⟨266⟩:Nm).t)])
 c:∃dx,st T.b=dA (.f .bM dx [(.cX,.t (⟨256⟩:Nm).t)])
 n:st T.n=dA (.H Hh)
 J:∃lP:qe AV,st T.J=dA (.H lP)/\lP.length=j6.length/\∀(i:qc) (l:qe AV),j6[i]?=dA l->∃a:qc,lP[i]?=dA (AV.d a)/\st a=dA (.H l)
def alZ:Prop:=∀(T:cV) (st:St) (a:qc) (l:qe qd),Tp T st->st a=dA (.i<|l.map .j)->l.length<=63->callW T jo 340 (.r .rH) [.d a] (λv b=>v=.q hY) (λb=>qp) st
def bW(h₀:Heap)(a:qc)(l:qe qd):St:=(mL h₀.get?).H a (.i<|l.map .j)
theorem sL(h:Al g a=some s):mL g a=some (.f .bM (Bu g a) [(.cX,.t s)]):=by unfold mL;rw[h]
theorem i9(h:Al g a=none):mL g a=(BU (g a)).map .H:=by unfold mL;rw[h]
theorem AJ:∀{vs:qe AV} {ls:qe (qe AV)},QV g vs ls=hY->vs.length=ls.length/\∀(i:qc) (l:qe AV),ls[i]?=dA l->∃a:qc,vs[i]?=dA (AV.d a)/\mL g a=dA (.H l)
 |[],[],_=>⟨dq,λi l e=>by cases e⟩
 |[],_::_,h=>by cases h
 |_::_,[],h=>by cases h
 |v::vs,l::ls,h=>by
  have h:(adJ g l v&&QV g vs ls)=hY:=h;rw[qz]at h;obtain⟨h1,h2⟩:=AJ h.2;refine⟨qh xZ h1,λi m e=>?_⟩;cases i with
  |succ i=>exact h2 i m e
  |zero=>
   cases e;cases v with
   |d a=>
    have k:((Al g a).isNone&&Mn (g a) l)=hY:=h.1;rw[qz]at k;exact⟨a,dq,by rw[i9 (xm.mp k.1),Hz k.2];rfl⟩
   |_=>cases h.1
section
variable{h₀:Heap}(hB:(Vr h₀.get?&&RA h₀.get?&&ye h₀.get?)=hY)
include hB
theorem wf:∀a∈B4 h₀.get?,∃s,Al h₀.get? a=dA s/\MM h₀.get? a s=hY:=λa ha=>by
 rw[qz,qz]at hB;have x:=hB.1.2;unfold RA at x;rw[qz,qz]at x;have y:=qV.mp x.1.1 a ha;cases e:Al h₀.get? a with
 |none=>rw[e]at y;cases y
 |some s=>rw[e]at y;exact⟨s,dq,y⟩
end
section
variable{h₀:Heap}(hB:(Vr h₀.get?&&RA h₀.get?&&ye h₀.get?)=hY){a:qc}(ha:∀o,h₀.get? a=dA o->o.cls=.type "list" /\∃vs n,o.data=.seq vs n)
include hB
theorem mK:Vr h₀.get?=hY/\((B4 h₀.get?).map (Bu h₀.get?)).Nodup/\(∀b∈B4 h₀.get?,Bu h₀.get? b∉B4 h₀.get?)/\ye h₀.get?=hY:=by
 rw[qz,qz]at hB;have x:=hB.1.2;unfold RA at x;rw[qz,qz]at x;exact⟨hB.1.1,o5 x.1.2,λb hb z=>qH (qV.mp x.2 b hb) (by rw[xd.mpr z];exact Zz),hB.2⟩
omit hB in
theorem v9(e:Al g b=dA s):b∈B4 g:=by
 unfold Al at e;unfold B4;split at e
 ·rename_i q;rw[q];exact .head _
 ·split at e
  ·rename_i q;rw[q];exact .tail _<|.head _
  ·split at e
   ·rename_i q;rw[q];exact .tail _<|.tail _ (.head _)
   ·cases e
theorem I9(hb:b∈B4 h₀.get?):(∃o es a,h₀.get? (Bu h₀.get? b)=dA o/\o.data=.dict es a)/\mL h₀.get? (Bu h₀.get? b)=ft:=by
 obtain⟨s,h1,h2⟩:=wf hB b hb;obtain⟨e,m,⟨o,es,a,g1,g2,_⟩,_⟩:=rO h2;refine⟨⟨o,es,a,g1,g2⟩,?_⟩
 have c:Al h₀.get? (Bu h₀.get? b)=ft:=by
  cases q:Al h₀.get? (Bu h₀.get? b)with
  |none=>rfl
  |some s'=>exact qH (v9 q)<|(mK hB).2.2.1 b hb
 rw[i9 c];cases q:BU (h₀.get?<|Bu h₀.get? b)with
 |none=>rfl
 |some l=>
  obtain⟨vs,n,k,_⟩:=uw q;rw[k]at g1;cases g1;cases g2
theorem inst_top(e:mL h₀.get? b=dA (.f c dx l)):b∈B4 h₀.get?/\c=.bM/\dx=Bu h₀.get? b:=by
 cases q:Al h₀.get? b with
 |none=>rw[i9 q]at e;obtain⟨_,_,e⟩:=qS.mp e;cases e
 |some s=>rw[sL q]at e;cases e;exact⟨v9 q,dq,dq⟩
include ha
theorem w4(l:qe qd):bW h₀ a l a=dA (.i (l.map .j)):=sN _ _ _
theorem wc(l:qe qd)(e:mL h₀.get? b=dA c):bW h₀ a l b=dA c:=by
 refine(kJ _ _ λq=>?_).trans e;subst q;cases q:Al h₀.get? b with
 |none=>
  rw[i9 q]at e;obtain⟨m,d,_⟩:=qS.mp e;obtain⟨vs,n,g,_⟩:=uw d;have:=(ha _ g).1;simp at this
 |some t=>
  obtain⟨t',_,x⟩:=wf hB b<|v9 q;have:=(ha _ (rO x).1).1;cases this
theorem w5(e:bW h₀ a l b=dA (.f c dx m)):mL h₀.get? b=dA (.f c dx m):=by
 by_cases q:b=a
 ·rw[q,w4 hB ha]at e;cases e
 ·exact(kJ _ _ q).symm.trans e
theorem Ko(k:∀b o,h₀.get? b=dA o->s.heap.get? b=dA o)(hl:s.heap.IsList a vs)(v:abs vs.toList (l.map .j)):fu (Lq vQ w h₀ s) (bW h₀ a l) s:=by
 have Wy:∀{x y:qc} {d e:dZ},bW h₀ a l x=dA d->bW h₀ a l y=dA e->y∉v4 d:=λ{x y d e} u p h=>by
  cases d with
  |f c dx m=>
   obtain⟨hb,_,B⟩:=inst_top hB<|w5 hB ha u;have i:y=dx:=qD.mp h;rw[i,B]at p;by_cases q:Bu h₀.get? x=a
   ·obtain⟨⟨o,es,E,A,hd⟩,_⟩:=I9 hB hb;obtain⟨_,vs,n,e⟩:=ha o<|q▸A;rw[hd]at e;cases e
   ·have e2:mL h₀.get? (Bu h₀.get? x)=dA e:=(kJ _ _ q).symm.trans p;rw[(I9 hB hb).2]at e2;cases e2
  |_=>cases h
 refine⟨⟨λb o e=>e,λb c e=>?_,λb c e=>?_,λx d e y d' j b hb D=>?_,λb c e=>Wy e e⟩,dq,dq,dq⟩
 ·by_cases q:b=a
  ·subst q;rw[w4 hB ha]at e;cases e;exact⟨vs,hl,v⟩
  ·have e:mL h₀.get? b=dA c:=(kJ _ _ q).symm.trans e;cases q:Al h₀.get? b with
   |none=>
    rw[i9 q]at e;obtain⟨m,h,rfl⟩:=qS.mp e;obtain⟨vs,n,g,x⟩:=uw h;exact⟨vs,n,k _ _ g,x⟩
   |some t=>
    have hb:=v9 q;obtain⟨t',q',x⟩:=wf hB b hb;rw[q]at q';cases q';rw[sL q]at e;cases e;obtain⟨g,m,n,r⟩:=rO x;exact⟨k _ _ g,by decide+kernel,m,n.at (λo=>k _ o),r⟩
 ·by_cases q:b=a
  ·subst q;rw[w4 hB ha]at e;cases e;trivial
  ·have e:mL h₀.get? b=dA c:=(kJ _ _ q).symm.trans e;cases c with
   |f c dx m=>exact .inl (inst_top hB e).2.1
   |H m=>trivial
   |i m=>trivial
   |_=>
    exfalso;cases q:Al h₀.get? b with
    |none=>rw[i9 q]at e;obtain⟨_,_,e⟩:=qS.mp e;cases e
    |some s=>rw[sL q]at e;cases e
 ·rcases qG.mp hb with z|z<;>rcases qG.mp D with f|f
  ·exact z.symm.trans f
  ·exact qH f<|z▸Wy j e
  ·exact qH z<|f▸Wy e j
  ·cases d with
   |f c dx m=>
    cases d' with
    |f c' C m'=>
     obtain⟨h1,_,e1⟩:=inst_top hB<|w5 hB ha e;obtain⟨h2,_,e2⟩:=inst_top hB<|w5 hB ha j;exact kW (mK hB).2.1 h1 h2<|e1.symm.trans ((qD.mp z).symm.trans ((qD.mp f).trans e2))
    |_=>cases f
   |_=>cases z
theorem Mr:Tp (gR h₀.get?) (bW h₀ a l):=by
 have r:=(mK hB).2.2.2;unfold ye at r;rw[qz,qz,qz]at r;obtain⟨⟨⟨r1,r2⟩,g⟩,c⟩:=r
 have sp:∀b∈B4 h₀.get?,∃t,Al h₀.get? b=dA t/\∃dx,bW h₀ a l b=dA (.f .bM dx [(.cX,.t t)]):=λb hb=>by
  obtain⟨t,q,_⟩:=wf hB b hb;exact⟨t,q,_,wc hB ha l<|sL q⟩
 have nd:∀b∈B4 h₀.get?,∀b'∈B4 h₀.get?,Bu h₀.get? b=Bu h₀.get? b'->b=b':=λb hb b' j e=>kW (mK hB).2.1 hb j e
 have ne:(gR h₀.get?).a≠(gR h₀.get?).d/\(gR h₀.get?).b≠(gR h₀.get?).d/\(gR h₀.get?).b≠(gR h₀.get?).a:=by
  have:=(mK hB).2.1;unfold B4 at this;simp only[List.map_cons,List.map_nil,List.nodup_cons,List.mem_cons,List.not_mem_nil,or_false,not_or]at this;exact⟨λe=>this.1.1<|qh _ e.symm,λe=>this.1.2<|qh _ e.symm,λe=>this.2.1<|qh _ e.symm⟩
 refine⟨?_,?_,?_,?_,?_⟩
 ·obtain⟨t,q,dx,e⟩:=sp _<|.head _;unfold Al at q;rw[if_pos rfl]at q;cases q;exact⟨dx,e⟩
 ·obtain⟨t,q,dx,e⟩:=sp (gR h₀.get?).a<|.tail _ (.head _);unfold Al at q;rw[if_neg ne.1,if_pos rfl]at q;cases q;exact⟨dx,e⟩
 ·obtain⟨t,q,dx,e⟩:=sp (gR h₀.get?).b<|.tail _ (.tail _<|.head _);unfold Al at q;rw[if_neg ne.2.1,if_neg ne.2.2,if_pos rfl]at q;cases q;exact⟨dx,e⟩
 ·exact wc hB ha l (by rw[i9 (xm.mp r1),Hz r2];rfl)
 ·cases e:BU (h₀.get? (gR h₀.get?).J)with
  |none=>rw[e]at c;cases c
  |some vs=>
   rw[e]at c;obtain⟨f,d⟩:=AJ c;refine⟨vs,wc hB ha l (by rw[i9 (xm.mp g),e];rfl),f,λi m h=>?_⟩
   obtain⟨b,g1,g2⟩:=d i m h;exact⟨b,g1,wc hB ha l g2⟩
end
section
variable{T:cV}{st:St}
theorem Fh:dE T g (l.map Vz) l:=by
 induction l with
 |nil=>exact .t
 |cons v l ih=>exact .o (by cases v<;>constructor) ih
theorem D3:(j6.all λl=>l.length==4)=hY:=by decide+kernel
theorem JT:(zO 6 j6.length&&zO j6.length aH)=hY:=by decide+kernel
theorem Qa(n:b.length=j6.length)(h:∀(i:qc) (l:qe AV),j6[i]?=dA l->∃a:qc,b[i]?=dA (AV.d a)/\g a=dA ⟨hY,.H,l.map Vz⟩):dE T g rE b:=by
 have key:∀(ls:qe (qe AV)) (b:qe AV),b.length=ls.length->(∀(i:qc) (l:qe AV),ls[i]?=dA l->∃a:qc,b[i]?=dA (AV.d a)/\g a=dA ⟨hY,.H,l.map Vz⟩)->dE T g (ls.map λl=>.A .H (l.map Vz)) b:=λls=>by
  induction ls with
  |nil=>exactλb n c=>wy n▸.t
  |cons l ls ih=>
   intro b n h;obtain⟨a,e1,e2⟩:=h 0 l rfl;cases b with
   |nil=>cases n
   |cons v b=>
    cases qA e1;exact .o (.A e2)<|ih b (zH n) λi l e=>h (i+1) l e
 exact key j6 b n h
theorem Ll(j:Tp T st)(r:st a=dA (.i (l.map .j)))(hl:l.length<=63):∃g,dh T rE g (λb=>if b=a then dA ⟨np,.i,bK l⟩else ft) st:=by
 obtain⟨s,r1,r2,D⟩:=j.J;obtain⟨A,G⟩:=q8.mp JT;have p:Hh.length=6:=dq
 have B4:∀k:Sx,∃dx,st (LC T k)=dA (.f .bM dx [(.cX,.t (@Sx.casesOn (λB=>Nm) k ⟨115⟩ ⟨266⟩ ⟨256⟩).t)]):=λk=>by
  cases k with
  |d=>exact j.e
  |e=>exact j.b
  |a=>exact j.c
 have ne:∀{x y:qc} {c d:dZ},st x=dA c->st y=dA d->c≠d->x≠y:=λn E h z=>h<|qA (n.symm.trans<|z▸E)
 have C:T.J≠T.n:=ne r1 j.n λz=>by
  have z:=qh aad<|dZ.H.inj z;rw[r2,p]at z;exact qH (xo A) (by rw[z];decide)
 have H:a≠T.J:=ne r r1 λz=>nomatch z
 have I:a≠T.n:=ne r j.n λz=>nomatch z
 have row:∀{i:qc} {m:qe AV} {x:qc},j6[i]?=dA m->s[i]?=dA (AV.d x)->st x=dA (.H m)->x≠T.J/\x≠T.n/\x≠a:=λ{i m x} h B n=>by
  have t:=eq_of_beq<|qV.mp D3 m (xX h);refine⟨ne n r1 λz=>?_,ne n j.n λz=>?_,ne n r λz=>nomatch z⟩
  ·have z:=qh aad<|dZ.H.inj z;rw[r2,t]at z;exact qH (xo A) (by rw[←z];decide)
  ·have z:=qh aad<|dZ.H.inj z;rw[t,p]at z;cases z
 let g:Mu:=λb=>if b=T.J then dA ⟨hY,.H,rE⟩else if b=T.n then dA ⟨hY,.H,Hg⟩else if b=a then dA ⟨np,.i,bK l⟩else @ite _ (∃(i:qc) (m:qe AV),j6[i]?=dA m/\s[i]?=dA (AV.d b)/\st b=dA (.H m)) (Zd _) ((st b).bind λc=>match c with|.H m=>dA ⟨hY,.H,m.map Vz⟩|_=>ft) ft
 have F:∀{i:qc} {m:qe AV} {x:qc},j6[i]?=dA m->s[i]?=dA (AV.d x)->st x=dA (.H m)->g x=dA ⟨hY,.H,m.map Vz⟩:=λ{i m x} h k n=>by
  obtain⟨n1,n2,n3⟩:=row h k n;refine(if_neg n1).trans ((if_neg n2).trans ((if_neg n3).trans ((qK ⟨i,m,h,k,n⟩).trans ?_)));rw[n];rfl
 refine⟨g,⟨λb f h k e=>?_,λb c e=>?_,λk=>?_,λk=>?_,(if_neg λz=>C z.symm).trans (qK dq),qK dq⟩⟩
 ·by_cases w:b=T.J
  ·have e:=(qK w).symm.trans e;cases e;exact⟨_,w▸r1,.H (Qa r2 λi m h=>(D i m h).imp λx k=>⟨k.1,F h k.1 k.2⟩) (by show(j6.map _).length<aH;rw[qI];exact xo G)⟩
  ·have e:=(if_neg w).symm.trans e;by_cases v:b=T.n
   ·have e:=(qK v).symm.trans e;cases e;exact⟨_,v▸j.n,.H (.o .z<|.o .z (.o .z<|.o .z (.o .z<|.o .z .t))) (by show 6<aH;decide)⟩
   ·have e:=(if_neg v).symm.trans e;by_cases o:b=a
    ·have e:=(qK o).symm.trans e;cases e;refine⟨_,o▸r,.i ?_ (by rw[dU];exact qi hl (by decide))⟩
     have q:=Fh (T:=T) (g:=g) (l:=l.map .j);rwa [xP]at q
    ·have e:=(if_neg o).symm.trans e;by_cases u:∃(i:qc) (m:qe AV),j6[i]?=dA m/\s[i]?=dA (AV.d b)/\st b=dA (.H m)
     ·have e:=(@if_pos _ (Zd _) u _ _ _).symm.trans e;obtain⟨i,m,h1,h2,h3⟩:=u;rw[h3]at e;cases e;have t:=eq_of_beq<|qV.mp D3 m (xX h1);exact⟨_,h3,.H Fh (by rw[qI,t];decide)⟩
     ·have e:=(@if_neg _ (Zd _) u _ _ _).symm.trans e;cases e
 ·by_cases o:b=a
  ·have e:=(qK o).symm.trans e;rw[o];exact(if_neg H).trans ((if_neg I).trans ((qK dq).trans e))
  ·have e:=(if_neg o).symm.trans e;cases e
 ·obtain⟨dx,e⟩:=B4 k;exact⟨dx,_,e,by cases k<;>exact .z⟩
 ·obtain⟨dx,e⟩:=B4 k;refine(if_neg (ne e r1 λz=>nomatch z)).trans ((if_neg (ne e j.n λz=>nomatch z)).trans ((if_neg (ne e r λz=>nomatch z)).trans (@if_neg _ (Zd _) (λ⟨i,m,_,_,h⟩=>?_) _ _ _)))
  rw[e]at h;cases h
end
theorem aiV:alZ:=λT st a l c d hl=>by
 obtain⟨g,R⟩:=Ll c d hl;exact K6 339 (aaj (a:=a) (f:=np) (qK dq) hl) R (.E .d) (λb b b b b b b r q=>by rw[q]at r;cases r;rfl) λb b b b b x=>x
theorem TS{R:aj2}{d:WData}(h:ZQ R d .int=hY):∃i,d=.int i:=by
 cases d with
 |int i=>exact⟨i,dq⟩
 |_=>exact Zz (show np=hY from h)
theorem tI{R:aj2}{sh:WShape}:∀{xs:qe WData},aju R xs sh=hY->∀x∈xs,ZQ R x sh=hY
 |y::ys,h,x,a=>by
  have h:(ZQ R y sh&&aju R ys sh)=hY:=h;rw[qz]at h;rcases qG.mp a with e|a
  ·rw[e];exact h.1
  ·exact tI h.2 x a
theorem OR{R:aj2}{d:WData}{sh:WShape}(h:ZQ R d (.list sh)=hY):∃xs,d=.list xs/\∀x∈xs,ZQ R x sh=hY:=by
 cases d with
 |list xs=>
  exact⟨xs,dq,tI<|(acO _).symm.trans h⟩
 |_=>exact Zz (show np=hY from h)
theorem yg{R:aj2}{cl:Str->qk zM}{h:Heap}:∀{vs:qe qo} {xs:qe WData} {as:qe zM},ReadsAllW R cl h vs xs as->(∀x∈xs,ZQ R x .int=hY)->∃l:qe qd,abs vs (l.map .j)/\l.length=xs.length
 |_,_,_,.nil,_=>⟨[],mw,dq⟩
 |_,_,_,.cons (d:=d) b c,k=>by
  obtain⟨i,rfl⟩:=TS<|k _ (.head _);cases b;obtain⟨l,hl,e⟩:=yg c λx a=>k x<|.tail _ a;exact⟨i::l,gm dq hl,qh xZ e⟩
theorem NB{args:qe WData}(h:xk.row.toRowW.claim.pre args=hY):∃xs,args=[.list xs]/\(∀x∈xs,ZQ [] x .int=hY)/\xs.length<=63:=by
 obtain⟨h1,h2⟩:=pre_splitW h;obtain⟨d,r,rfl,hd,hr⟩:=hasAllW_cons (es:=[]) h1;obtain rfl:=hasAllW_nil hr;obtain⟨xs,rfl,a⟩:=OR hd;refine⟨xs,dq,a,FB λb=>?_⟩;have h2:WTm.holds [] (.and (.not<|.lit (.bool<|decide ((63:qd)<xs.length)))<|.lit (.bool hY)) {args:=[.list xs]}=hY:=h2;rw[decide_eq_true (show(63:qd)<xs.length from xV.mpr b)]at h2;exact Zz (show np=hY from h2)
theorem adA{W:Wd}(O:W.g)(hd:∀f fn,jo f=dA fn->W.i f=mP f):lK W (callW W.T jo 340) 301 4:=G8 O (λf fn h=>(hd f fn h).symm▸YD f fn h) 340 301 4 (by decide) (by decide)
theorem Nz:(yj.all λp=>(ky.find? λq=>decide (q.1=p.1)).isSome)=hY:=by decide+kernel
theorem Ge{f:lS}{fn:Fn}(h:jo f=dA fn):(ky.find? λp=>decide (p.1=f))=dA (f,mP f):=by
 obtain⟨p,b,rfl⟩:=qS.mp h;have e:p.1=f:=by simpa using List.find?_some b
 obtain⟨q,a⟩:=xq.mp<|qV.mp Nz p (zI b);rw[e]at a;have e2:q.1=f:=by simpa using List.find?_some a
 unfold mP;rw[a];exact qh dA<|akh e2 dq
theorem abt{h₀:Heap}(h:E1 h₀.get?=ky.map (·.2)){f:lS}{D:m8}(b:(ky.find? λp=>decide (p.1=f))=dA (f,D)):yW (h₀.get? (Ua h₀.get? f))=D:=by
 have a:=zI b;obtain⟨i,hi,e⟩:=List.getElem_of_mem a;have h1:=qh (λl=>l[i]?) h;unfold E1 at h1;simp only[List.getElem?_map,List.getElem?_eq_getElem hi,e,Option.map_some]at h1;exact qA h1
theorem So(args a:qe WData):xk.row.toRowW.claim.post args (.bool hY) a=hY:=by kernel_rfl
theorem On{kwd:qe (Str×qu)}{d:DefRec}(L:d.name=Nm.rH.t):WalkO qv loose (λb b=>xT) (λb h=>YP h) xk.row.toRowW d kwd λf vs=>PySem.call f vs:=by
 intro w W p mg mb G ⟨h₀,hB,Q,k⟩ fa o Y cd doc dV kV ho hd FA P c B args g9 as y V r H M;obtain⟨xs,rfl,F,X⟩:=NB y;cases r with
 |cons m J=>
  cases J;cases m with
  |@list a o vs n xs as ha hc i hr=>
   obtain⟨l,E,t⟩:=yg hr F;obtain⟨x,_,_,_⟩:=mK hB;have O:=ac4 (prog:=vQ) (w:=w) k x B
   have A:∀j,h₀.get? a=dA j->j.cls=.type "list" /\∃vs n,j.data=.seq vs n:=λj e=>by
    have:=k _ _ e;rw[ha]at this;cases this;exact⟨hc,vs,n,i⟩
   have I:=Ko (w:=w) (s:=p) hB A k ⟨_,ha,hc,n,i⟩ E;have T:=Mr hB A (l:=l);have K:=aiV _ _ _ _ T (sN _ _ _) (by exact aa1 X t)
   have C:=@adA (Lq vQ w h₀ p) O λf fn N=>abt Q<|Ge N
   have u:fa=(Lq vQ w h₀ p).d (.r .rH):=by
    obtain⟨e1,Z,D,R,U,e2,_⟩:=O.r .rH (by decide+kernel)
    rw[L,G.T.g.eq_nsMap.trans O.b.eq_nsMap.symm,e1]at c;exact(acv<|qA c).symm
   subst u;refine acF (C K dq dq (by decide+kernel) (by decide) (λb h=>nomatch h) I (sF:=[.ref a]) dq (O.r .rH (by decide+kernel)).2 (λv s' q=>?_) λe s' q=>?_)
   ·obtain⟨av,ba,m,z,S,q⟩:=q;rw[q]at m;obtain rfl:=ue m;exact⟨.inl ⟨.bool hY,.bool hY,[],dq,λb=>dq,.bool hY,So _ _,λb=>⟨Zn,λb h=>nomatch h⟩⟩,.of_keep z.h.i,z.a.2.2,.of_eq<|z.a.1.trans B⟩
   ·obtain⟨_,_,_,_,_,_,_,_,_,h⟩:=q;exact h.elim
def yaV:Zu->qw×qe m8:=λa=>(hY,ky.map (·.2))
theorem finish:xk.Holds:=by
 refine holds_law Oo λg=>?_;obtain⟨d,kwd,h1,h2,h3,h4⟩:=To
 exact PySem.W.holds_open (α:=qw×qe m8) (r:=xk.row) (q:=qv) (loose:=loose) (Xt:=λf=>hY) (XP:=λf f=>xT) (Yf:=myL) (Ya:=yaV) (YP:=λf h=>YP h) (N:=11400) (d:=d) (kwd:=kwd)
  Ti (λw s e=>ahg e) (λw h h' ⟨h₀,a,b,c⟩ k=>⟨h₀,a,b,λx o e=>k _ _<|c x o e⟩) (λf f=>oy) (λf f f f f=>oy) h1 h2 h3
  (λs e=>recFacts_nil dq) dq g NL ⟨dq,dq,dq,dq,dq,by decide+kernel⟩ (by w_witness2) (On h4)
end
end Mine.Internal
end
theorem PySem.Challenge.cw_nt0225_01_holds : PySem.Challenge.rw_nt0225_01.Holds :=
  Mine.Internal.finish
