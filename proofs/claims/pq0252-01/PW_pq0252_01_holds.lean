import PyProof.Rows.All
import Wide.All
import OpenK.AllK
import Wide.FinOn
import Lean
import PySem.Challenge.RW_pq0252_01
set_option Elab.async false
set_option tactic.hygienic false
set_option bootstrap.genMatcherCode false
set_option maxRecDepth 100000
set_option maxHeartbeats 8000000
set_option genSizeOf false
set_option genInjectivity false
set_option linter.all false
namespace Mine
open Array renaming getElem?_setIfInBounds→DQ,eraseIdxIfInBounds→YV,getElem?_eq_some_iff→YW,any_toList→Rw,getD→Rx,getElem?_toList→Ry,size_pop→Rz,toArray_toList→Sb,toList_append→Sd
open Array.Perm renaming mem_iff→aB1
open Bool renaming and_eq_true_iff→eY,false_ne_true→lG,and_eq_true→mW,false_eq_true→xZ,not_eq_true'→yA,and_false→NZ,or_eq_true_iff→OA,or_eq_true→YX,decide_and→Sh,eq_false_iff→Si,noConfusion→Sj,not_true→Sl,or_eq_false_iff→Sn
open Classical renaming byContradiction→OG
open Decidable renaming not_not→aCJ
open Eq renaming trans→ZK
open Exists renaming intro→qM
open False renaming elim→jE
open ForInStep renaming yield→OL
open Function renaming comp→Tp
open Int renaming le_refl→rZ,fdiv→tM,fmod→tN,le_antisymm→tO,add→yF,toNat_lt→yG,eq_ofNat_of_zero_le→AJ,not_lt→AK,add_comm→DW,natCast_nonneg→JB,ofNat→JC,ofNat_lt→JD,add_assoc→OO,add_zero→OQ,not_le→OS,add_le_add→ZR,add_sub_cancel→ZS,le_of_eq→ZT,le_of_lt_add_one→ZU,mul_one→ZV,ofNat_le→ZW,toNat_natCast→ZX,add_left_inj→Tq,le_trans→Tr,mul_add→Ts,ofNat_inj→Tt,toNat→Tv,toNat_sub→Tw,zero_mul→Tz
open Int.Internal.Linear renaming Expr→aCM
open Lean.Macro renaming throwUnsupported→OT
open List renaming append_assoc→cM,length_map→cR,replicate→cU,mem_cons→dJ,length_set→dS,map_cons→dU,mem_map→dY,getElem?_eq_some_iff→eF,append_nil→eL,length_append→eO,mem_singleton→eZ,mem_of_getElem?→fD,size_toArray→fN,range→fP,getElem?_map→fW,getElem?_eq_getElem→fZ,lookup_cons→gG,lookup→gZ,nodup_cons→hA,getElem?_eq_none→jN,all_eq_true→jT,find?_cons→jU,map_append→kJ,set_append_left→lI,mem_map_of_mem→lN,nodup_nil→mD,mem_append→oG,length_singleton→pD,getElem?_set_ne→qN,nodup_append→qO,set→qP,count→tQ,map_map→tR,mem_append_right→tS,mem_cons_of_mem→tT,mem_cons_self→tU,getElem?_set_self→vP,set_set→vQ,getElem?_append_right→yI,getElem?_inj→yJ,not_mem_nil→yK,toArray→yL,any_eq_false→AP,drop_eq_getElem_cons→AQ,filter_cons_of_neg→AR,filter_cons_of_pos→AU,getElem?_append_left→AV,getElem?_of_mem→AW,length_cons→AX,length_replicate→AY,replicate_succ→AZ,cons_append→DY,count_pos_iff→DZ,filterMap_cons→EA,filter_sublist→EB,getElem?_eq_none_iff→EC,length_filter_le→ED,length_nil→EE,length_range→EF,mem_filter→EG,perm_append_comm_assoc→EH,reverse_cons→EI,contains_iff_mem→JF,ext_getElem?→JG,getElem?_set→JH,getElem_mem→JI,isEmpty_iff→JK,length→JL,length_eq_zero_iff→JM,mem_append_left→JN,perm_middle→JO,drop_eq_nil_of_le→OV,drop_zero→OW,filter_map→OX,find?_eq_none→OY,find?_some→OZ,forIn_cons→PB,getD→PC,getElem?_range→PD,map_nil→PE,map_set→PF,mem_iff_getElem→PG,mem_of_find?_eq_some→PJ,mem_or_eq_of_mem_set→PN,all_map→ZZ,any_cons→Aa,count_cons→Ab,count_cons_of_ne→Ac,count_cons_self→Ae,filter_congr→Af,find?_append→Ag,find?_isSome→Ah,flatMap_append→Ai,flatMap_cons→Aj,foldl→Ak,forIn_nil→Al,getElem?_toArray→Am,map_inj_left→An,mem_filterMap→Ao,mem_range→Ap,set_comm→Aq,take_append_drop→Ar,zip_cons_cons→As,any_eq_true→Ub,countP_cons→Uc,drop→Ud,dropLast_eq_take→Ue,filterMap_map→Ug,filter_cons→Uh,filter_eq_self→Ui,findIdx?→Uj,forall_mem_cons→Uk,getElem?_concat_length→Ul,getLast?_eq_getElem?→Um,getLast?_map→Un,length_pos_iff→Uo,length_reverse→Up,length_take→Uq,map_congr_left→Ur,map_dropLast→Us,mem_flatMap→Ut,nil_append→Uu,replicate_zero→Uv,set_append_right→Uw,set_eq_take_append_cons_drop→Ux,take_of_length_le→Uy
open List.Nodup renaming sublist→yH
open List.Pairwise renaming map→aCN,of_map→aCO
open List.Perm renaming append_left→Ua,append→aCP,cons→aCQ,length_eq→aCR,trans→aCS
open List.Sublist renaming refl→OU,cons_cons→aCT,map→aCU
open List.cons renaming injEq→aCV
open Nat renaming le_trans→bW,le_antisymm→fE,le_refl→fQ,add_le_add_right→jP,ne_of_lt→lJ,zero_le→lK,le_of_lt→sA,lt_of_le_of_lt→tW,succ_le_succ→tX,add_le_add_left→vR,blt→yN,le_succ_of_le→yO,not_lt→yP,sub_self→yQ,le_add_right→EJ,lt_irrefl→EK,lt_of_lt_of_le→JQ,add_assoc→Au,beq→Av,le_succ→Aw,lt_of_le_of_ne→Ax,lt_succ_self→Ay,min_le_left→Az,min_le_right→Ba,mul_le_mul_left→Bb,pos_of_ne_zero→Bc,pow_le_pow_right→Bd,sub_le→Be,sub_pos_of_lt→Bf,sub_zero→Bg,add_lt_add→Vb,add_sub_cancel_left→Vd,le_of_ble_eq_true→Ve,le_of_not_lt→Vf,le_of_sub_eq_zero→Vg,le_of_succ_le→Vh,min_eq_left→Vi,min_eq_right→Vj,ne_of_gt→Vk,not_lt_of_le→Vl,sub_add_cancel→Vm,zero_add→Vn
open Nat.succ renaming inj→aCX
open Ne renaming symm→gH
open Option renaming map→fF,map_eq_some_iff→lO,map_some→pE,isSome_iff_exists→vU,bind_eq_some_iff→JR,isNone_iff_eq_none→PT,bind_some→Vq,getD_some→Vr,isSome→Vt,isSome_map→Vu,map_eq_none_iff→Vv,not_isSome_iff_eq_none→Vw,or_none→Vx
open Option.some renaming inj→gQ
open Prod renaming fst→Vy,snd→Vz
open PyProof.Rows renaming assign_Name→PX,step_dedup→PY,callWith_type→Bl,getItem_tuple→Wd,lt_int→Wf,neg_int→Wg,Assign_Tuple→aC0,Assign_Tuple_swapped→aC1,add_int→aC2,add_str→aC3,and_int→aC4,eq_int→aC5,floordiv_int→aC6,ge_int→aC7,gt_int→aC8,le_int→aC9,mod_int→aDA,mul_int→aDB,ne_int→aDC,or_int→aDD,pow_int→aDE,sub_int→aDF,unpackItems_tuple→aDG
open PyProof.Rows.News renaming nil→Vo
open PySem renaming Value→aF,Shared→aL,model→aM,wpAny_bind→aO,wpAny→aP,wpAny_pure→bA,Around→cH,NameKind→dK,DictEntry→fM,wpAny_holding→mV,wpAny_call_entry→rR,wpAny_mono→rS,wpAny_field→vG,wpAny_newObj_type→vH,wpAny_dictEntries→xW,wpAny_standAt→xX,wpAny_setField→AG,wpAny_call→DP,wpAny_callSpecial?_slot→IU,wpAny_Constant_none→NX,wpAny_dictEpoch→NY,wpAny_Name→YN,wpAny_notOrdered_dict→YQ,wpAny_truthy_bool→YR,evalArgs_none→Bu,wpAny_Call_method_lateS→Qv,wpAny_Compare1→Qw,wpAny_Expr_any→Qx,wpAny_Return_some→Qy,wpAny_alloc→Qz,wpAny_attempt→Ra,wpAny_getItem_list_slice→Rb,wpAny_isInstance→Rc,wpAny_isOneOf_valiter→Rd,wpAny_letGo→Rf,wpAny_loadPart→Rg,wpAny_newFunctionEnv→Rh,wpAny_newList→Ri,wpAny_sequenceKey→Rj,wpAny_typeNameOfWhole_keyiter→Rk,wpAny_typeNameOfWhole_valiter→Rl,Fin→Xb,call→Xc,nsSet→Xd,seqSlot_of→Xe,wpAt_bind→Xf,wpAt_of_wpAny→Xg,wpAny_Assign_Name→aBG,wpAny_Constant_int→aBH,wpAny_Tuple_spliced→aBI,wpAny_UnaryOp→aBJ,wpAny_binaryOp_repeat_ref→aBK,wpAny_bindName→aBL,wpAny_eqBool_int→aBM,wpAny_eqBool_str→aBN,wpAny_fieldsOf→aBO,wpAny_isOneOf_keyiter→aBP,wpAny_loadName_cell→aBQ,wpAny_loadName_local→aBR,wpAny_lookBehind→aBS,wpAny_mkText→aBT,wpAny_pyIter_slot→aBU,wpAny_raiseNew_none→aBV,wpAny_seqItemAt→aBW,wpAny_storeName_local→aBX,wpAny_typeOf→aBY
open PySem.Around renaming frames_deeper→YT
open PySem.AutoListH renaming list_append_list_val_0→Se,list___mul___list_int_3→aB2
open PySem.AutoSeq1 renaming list_extend_list_list_0→aB3,list_extend_list_tuple_0→aB4
open PySem.Bind renaming madeBy→Sf,staticBase→Sg
open PySem.Builtin renaming divisionGoesByPylong→Sx
open PySem.Builtin.Dict renaming showsAll→IW,dictSlotArgs→Sp,samePairs→Sq,takeOut→Sr,dictSlotNone→aB5,keyAndDefault→aB6,noArgs→aB7,pendingCount→aB8
open PySem.Builtin.Dict_items renaming ownsTuple→YY,dictOf→aB9,newIterator→aCA
open PySem.Builtin.Frozenset renaming updateFrom→aCB
open PySem.Builtin.Int renaming intBits→YZ,intTooBig→aCC
open PySem.Builtin.List renaming listSubscript?→OB,listTooLong→ZA,listFitsIndex→Ss
open PySem.Builtin.ObjectAttr renaming storeInOwnDict→aDH
open PySem.Builtin.Range renaming rangeSize→aCD
open PySem.Builtin.Slice renaming sliceAdjust→jS,slicePlaces→yB,sliceApplied→Sv,sliceFields→aCE,slicePartIndex→aCF
open PySem.Builtin.Str renaming glued→ZC,tooLong→aCG
open PySem.Builtin.Tuple renaming tupleExact→OC,tupleTooMany→Sw,tupleIsExact→aCH,tupleItemsOf→aCI
open PySem.Calls renaming callWith_builtin→IX,call_function_entry→ZF,spliced_nil→ZG,Name_function_global→Sy,evalArgs_plain→Sz,loadGlobal_builtin→Ta,spliced_cons→Tb
open PySem.CmpOp renaming Eq→bO,NotEq→kI,Lt→rU,In→vK,LtE→DU,NotIn→IZ,Gt→OH,GtE→ZH
open PySem.Code renaming quiet_builtin→ZI
open PySem.Const renaming str→Tc
open PySem.DictEntry renaming refKey→Td,key→aCK,val→aCL
open PySem.EntryCells renaming newEntry→Te
open PySem.ExcName renaming means→OI
open PySem.Expr renaming Name→iL,Call→vL,Constant→ZL,List→Tf
open PySem.F renaming called_set→yT,slot_int_rmul→OJ,slot_tuple_mul→ZM,plainAttrs_dict→Bm,slot_dict_keyiterator_next→Bn,slot_dict_pop→Bo,slot_dict_valueiterator_next→Bp,slot_dict_values→Bq,slot_list_append→Br,slot_list_extend→Bt,args_int_rmul_2→Ti,entry_int_rmul→Tj,fills_int_mul→Tn,slot_int_index→To,args_dict_pop_2→Wh,args_list_append_2→Wi,args_list_extend_2→Wj,entry_dict_pop→Wk,entry_list_append→Wm,entry_list_extend→Wn,excAttr_ValueError→Wo,excBase_Exception→Wq,slot_dict_get→Wr,slot_dict_iter→Ws,slot_dict_len→Wt,slot_dict_ne→Wu,slot_dict_setdefault→Wv,slot_dict_values_iter→Ww,slot_list_count→Wx,slot_list_pop→Wy,slot_str_join→Wz,type_dict_values→Xa
open PySem.Heap renaming get?_push_of_some→eJ,lt_size→fI,get?_push_size→jM,get?_update_other→oF,ExtBut→rX,get?_update_self→rY,SameBut→tK,get?→OM,get?_none_of_le→ZP,size_push→ZQ
open PySem.Heap.IsSliceOf renaming new→JA
open PySem.Heap.SameBut renaming update→tL
open PySem.Manifest renaming canonical→Va
open PySem.MeetsSeq renaming list_pop_last→aCW
open PySem.NameKind renaming «local»→aU,globalImplicit→aY,free→gS,cell→jO
open PySem.Obj renaming mapSeq→mE,mapFields→nP,data_mapFields→PQ,mapDictKeys→PS,isFreed_of_fields→Bi,cls_mapFields→Vp
open PySem.Operator renaming Add→gP,Sub→jV,Mult→vT,Mod→yR,Pow→yS,FloorDiv→BA,BitAnd→aCY,BitOr→aCZ
open PySem.PyData renaming eqvAll→PU,int→PW,eqv→Bk,canLayAll0→Wa,depthAll→Wc
open PySem.Scope renaming names→JS
open PySem.ScopeKind renaming function→sE
open PySem.SeqAt renaming EqAt→Xh
open PySem.SeqAt.EqAt renaming int_str→Xi,str_int→Xj,int_int→aDO,str_str→aDP
open PySem.Str renaming ofString→aA
open PySem.Value renaming ref→aR,none→fR,type→oK,builtin→JU,ctorIdx→Xk
open PySem.Value.ref renaming inj→aDQ
open PySem.W.Fast renaming te10156331382660048174→aDI,te11892475500146522536→aDJ,te14364793385576792824→aDK,te4187177175401517315→aDL,te6613529449190102663→aDM,te9446332074065402090→aDN
open PySem.W.Looks renaming of_peek→tV,ld→JP,of_pure→Uz
open PySem.callAny renaming viaDunder→C3
abbrev aN.{u}:= @if_neg.{u}
abbrev aV.{u}:= @if_pos.{u}
abbrev bN.{u,v}:= @congrArg.{u,v}
abbrev cC:= @decide_eq_true
abbrev cK:= @of_decide_eq_true
abbrev dC.{u}:= @beq_eq_false_iff_ne.{u}
abbrev fG.{u}:= @beq_self_eq_true.{u}
abbrev iW:= @decide_eq_false
noncomputable section
section
namespace Fz
abbrev L:=Nat→Nat
abbrev E:=aCM
noncomputable def dot(c:List Int):L→Int:= @List.rec Int (fun _=>L→Int) (fun _=>0) (fun x _ g l=>JC (l 0)*x+g fun j=>l (j+1)) c
noncomputable def zr:L:=fun _=>0
noncomputable def nu(k:Nat):L:= @Nat.rec (fun _=>Nat) k fun _ _=>0
noncomputable def vr(i:Nat):L:= @Nat.rec (fun _=>L) (nu 1) (fun _ g=> @Nat.rec (fun _=>Nat) 0 fun j _=>g j) i
noncomputable def ad(s t:L):L:=fun j=>s j+t j
noncomputable def mu(k:Nat)(s:L):L:=fun j=>k*s j
theorem a4(a b c d:Int):a+b+(c+d)=a+c+(b+d):=by rw[OO,Int.add_left_comm b,←OO]
theorem wF: ∀c,dot c zr=0:= @List.rec Int (fun c=>dot c zr=0) rfl fun x r h=>congr (bN yF (Tz x)) h
theorem sI: ∀c s t,dot c (ad s t)=dot c s+dot c t:= @List.rec Int (fun c=> ∀s t,dot c (ad s t)=dot c s+dot c t) (fun _ _=>rfl) fun x r h s t=>
 (congr (bN yF (Int.add_mul (s 0) (t 0) x)) (h _ _)).trans (a4 _ _ _ _)
theorem FR: ∀c k s,dot c (mu k s)=k*dot c s:= @List.rec Int (fun c=> ∀k s,dot c (mu k s)=k*dot c s) (fun k _=>(Int.mul_zero k).symm) fun x r h k s=>
 (congr (bN yF (Int.mul_assoc k (s 0) x)) (h k _)).trans (Ts _ _ _).symm
theorem RY{c:List Int}(k:Nat):dot (1::c) (nu k)=k:=(congr (bN yF (ZV k)) (wF c)).trans (OQ _)
theorem El: ∀c i,dot c (vr i)=c.getD i 0:= @List.rec Int (fun c=> ∀i,dot c (vr i)=c.getD i 0) (fun _=>rfl) fun x r h i=>Nat.casesOn i ((congr (bN yF (Int.one_mul x)) (wF r)).trans (OQ _)) fun i=>(congr (bN yF (Tz x)) (h i)).trans (Int.zero_add _)
noncomputable def ct(n:List Nat)(z:List Int):List Int:= @List.rec Nat (fun _=>List Int) z (fun x _ g=>JC x::g) n
noncomputable def xH(n:List Nat):E→Nat:= @aCM.rec (fun _=>Nat) Tv (n.getD · 0) (fun _ _ a b=>a+b) (fun _ _ _ _=>0) (fun _ _=>0) (fun k _ a=>k.toNat*a) (fun _ _ _=>0)
noncomputable def lf(m:Nat):E→L:= @aCM.rec (fun _=>L) (fun k=>nu k.toNat) (fun i=>cond (yN i m) (vr (i+1)) zr) (fun _ _ a b=>ad a b) (fun _ _ _ _=>zr) (fun _ _=>zr) (fun k _ a=>mu k.toNat a) (fun _ _ _=>zr)
noncomputable def zev(c:List Int):E→Int:= @aCM.rec (fun _=>Int) (fun k=>JC k.toNat) (c.getD · 0) (fun _ _ a b=>a+b) (fun _ _ a b=>a-b) (fun _ a=> -a) (fun k _ a=>JC k.toNat*a) (fun _ _ _=>0)
noncomputable def lp(e:E):L×L:= @aCM.rec (fun _=>L×L) (fun k=>(nu k.toNat,zr)) (fun i=>(vr (i+1),zr)) (fun _ _ a b=>(ad a.1 b.1,ad a.2 b.2)) (fun _ _ a b=>(ad a.1 b.2,ad a.2 b.1)) (fun _ a=>(a.2,a.1)) (fun k _ a=>(mu k.toNat a.1,mu k.toNat a.2)) (fun _ _ _=>(zr,zr)) e
theorem I3{z:List Int}: ∀n i,(n.getD i 0:Int)=dot (1::ct n z) (cond (yN i n.length) (vr (i+1)) zr):=by
 have k: ∀n i,(n.getD i 0:Int)=cond (yN i n.length) ((ct n z).getD i 0) 0:= @List.rec Nat (fun n=> ∀i,(n.getD i 0:Int)=cond (yN i n.length) ((ct n z).getD i 0) 0) (fun i=>rfl) fun x _ h i=>Nat.casesOn i rfl h;intro n i;rw[k];cases yN i n.length
 ·exact(wF _).symm
 ·exact(El (1::ct n z) (i+1)).symm
theorem Ml{n:List Nat}{z:List Int}: ∀e,(xH n e:Int)=dot (1::ct n z) (lf n.length e):= @aCM.rec (fun e=>(xH n e:Int)=dot (1::ct n z) (lf n.length e)) (fun k=>(RY _).symm) (I3 n)
 (fun _ _ h k=>(congr (bN yF h) k).trans (sI _ _ _).symm) (fun _ _ _ _=>(wF _).symm) (fun _ _=>(wF _).symm) (fun k _ h=>(bN (Int.mul k.toNat) h).trans (FR _ _ _).symm) (fun _ _ _=>(wF _).symm)
theorem aa{a b x y u v:Int}(h:a+x=u)(k:b+y=v):a+b+(x+y)=u+v:=(a4 a b x y).trans (congr (bN yF h) k)
theorem ag{a x u:Int}(h:a+x=u): -a+u=x:=h▸Int.neg_add_cancel_left a x
theorem up{c:List Int}{a:Int}{l:L}(h:dot c l=a):a+dot c zr=dot c l:=(bN (a+ ·) (wF c)).trans ((OQ a).trans h.symm)
theorem Rr{c:List Int}: ∀e,zev c e+dot (1::c) (lp e).2=dot (1::c) (lp e).1:= @aCM.rec (fun e=>zev c e+dot (1::c) (lp e).2=dot (1::c) (lp e).1) (fun k=>up (RY _)) (fun i=>up (El (1::c) (i+1)))
 (fun _ _ h k=>(bN _ (sI _ _ _)).trans ((aa h k).trans (sI _ _ _).symm)) (fun _ _ h k=>(bN _ (sI _ _ _)).trans ((aa h (ag k)).trans (sI _ _ _).symm)) (fun _ h=>ag h)
 (fun k _ h=>(bN _ (FR _ _ _)).trans ((Ts _ _ _).symm.trans ((bN (Int.mul k.toNat) h).trans (FR _ _ _).symm))) (fun _ _ _=>up (wF _))
noncomputable def lr(m k:Nat)(s t:E):L×L:=cond (yN k 8) (lf m s,lf m t) (ad (lp s).1 (lp t).2,ad (lp t).1 (lp s).2)
abbrev PR(c:List Int)(l:L×L):={p:Prop×Prop×Prop//(p.1=(dot c l.1≤dot c l.2)∧p.2.1=(dot c l.1<dot c l.2))∧p.2.2=(dot c l.1=dot c l.2)}
theorem sl{a b c x y:Int}(h:x=a+c)(k:y=b+c):((a≤b)=(x≤y)∧(a<b)=(x<y))∧(a=b)=(x=y):=by
 subst h k;exact⟨⟨propext (Int.add_le_add_iff_right c).symm,propext (Int.add_lt_add_iff_right c).symm⟩,propext (Tq c).symm⟩
theorem nl{c:List Int}{a b:Nat}{A B:L}(h:(a:Int)=dot c A)(k:(b:Int)=dot c B):((a≤b)=(dot c A≤dot c B)∧(a<b)=(dot c A<dot c B))∧(a=b)=(dot c A=dot c B):=
 h▸k▸⟨⟨propext ZW.symm,propext JD.symm⟩,propext Tt.symm⟩
noncomputable def pr(n:List Nat)(z:List Int)(k:Nat)(s t:E):PR (1::ct n z) (lr n.length k s t):= @Bool.rec (fun b=>PR (1::ct n z) (cond b (lf n.length s,lf n.length t) (ad (lp s).1 (lp t).2,ad (lp t).1 (lp s).2)))
 ⟨(zev (ct n z) s≤zev (ct n z) t,zev (ct n z) s<zev (ct n z) t,zev (ct n z) s=zev (ct n z) t),sl ((sI _ _ _).trans ((bN (· +_) (Rr s).symm).trans (OO _ _ _))) ((sI _ _ _).trans ((bN (· +_) (Rr t).symm).trans ((OO _ _ _).trans (bN (_+ ·) (DW _ _)))))⟩ ⟨(xH n s≤xH n t,xH n s<xH n t,xH n s=xH n t),nl (Ml s) (Ml t)⟩ (yN k 8)
theorem st{c:List Int}{A B:L}(h:dot (1::c) A<dot (1::c) B):dot (1::c) (ad A (nu 1))≤dot (1::c) B:=by rw[sI,RY];exact h
theorem ts{c:List Int}{A B:L}(h:dot (1::c) (ad A (nu 1))≤dot (1::c) B→False):dot (1::c) B≤dot (1::c) A:=AK.mp fun g=>h (st g)
noncomputable def kp(p:Prop×Prop×Prop)(k:Nat):Prop:=[p.1,p.2.1,p.2.2,p.2.2,¬p.2.1,¬p.1].getD k False
noncomputable def kf(l:L×L)(k:Nat):L×L:=[l,(ad l.1 (nu 1),l.2),l,(l.2,l.1),(l.2,l.1),(ad l.2 (nu 1),l.1)].getD k l
noncomputable def kg(l:L×L)(k:Nat):L×L:=[(ad l.2 (nu 1),l.1),(l.2,l.1),(zr,zr),(zr,zr),(ad l.1 (nu 1),l.2),l].getD k (zr,zr)
noncomputable def le(c:List Int)(l:L×L):Prop:=dot c l.1≤dot c l.2
theorem gh{c:List Int}{l:L×L}(p:PR (1::c) l)(k:Nat):kp p.1 k→le (1::c) (kf l k):=match k with
 |0=>p.2.1.1.mp|1=>fun h=>st (p.2.1.2.mp h)
 |2=>fun h=>ZT (p.2.2.mp h)
 |3=>fun h=>ZT (p.2.2.mp h).symm
 |4=>fun h=>AK.mp fun g=>h (p.2.1.2.mpr g)
 |5=>fun h=>st (OS.mp fun g=>h (p.2.1.1.mpr g))
 |_+6=>jE
theorem gi{c:List Int}{l:L×L}(p:PR (1::c) l)(k:Nat)(h:le (1::c) (kg l k)→False):kp p.1 k:=match k,h with
 |0,h=>p.2.1.1.mpr (ts h)|1,h=>p.2.1.2.mpr (OS.mp h)|2,h=>(h (rZ _)).elim|3,h=>(h (rZ _)).elim|4,h=>fun g=>h (st (p.2.1.2.mp g))
 |5,h=>fun g=>h (p.2.1.1.mp g)
 |_+6,h=>h (rZ _)
noncomputable def dT{α:Type}(u:Nat):Nat→(E→Nat→α)→α:= @Nat.rec (fun _=>Nat→(E→Nat→α)→α) (fun d k=>k (.num 0) d)
 (fun _ g d k=> @PC (Unit→α) [fun _=>k (.num (.ofNat (d/8%64))) (d/512),fun _=>k (.var (d/8%16)) (d/128),fun _=>g (d/8) fun s e=>g e fun t=>k (.add s t),fun _=>g (d/512) fun t=>k (.mulL (.ofNat (d/8%64)) t),fun _=>k (.num (.ofNat (d/8%16384))) (d/131072),fun _=>k (.num (.ofNat (d/8%18446744073709551616))) (d/147573952589676412928),fun _=>g (d/8) fun s e=>g e fun t=>k (.sub s t),fun _=>g (d/8) fun t=>k (.neg t)] (d%8) (fun _=>k (.num 0) d) ()) u
abbrev R:=Nat×Nat×E×E
noncomputable def dR(d:Nat):R×Nat:=dT 9 (d/128) fun s e=>dT 9 e fun t e=>((d%16,d/16%8,s,t),e)
noncomputable def dL(u:Nat):Nat→List R:= @Nat.rec (fun _=>Nat→List R) (fun _=>[]) (fun _ g d=>cond (Av (d%16) 15) [] ((dR d).1::g (dR d).2)) u
noncomputable def rl(m:Nat)(r:R)(f:L×L→Nat→L×L):L×L:=f (lr m r.1 r.2.2.1 r.2.2.2) (r.1%8)
noncomputable def rp(n:List Nat)(z:List Int)(r:R):Prop:=kp (pr n z r.1 r.2.2.1 r.2.2.2).1 (r.1%8)
noncomputable def XV(m:Nat)(l:List R):L→L→L×L:= @List.rec _ (fun _=>L→L→L×L) (fun a b=>(a,b)) (fun x _ g a b=>g (ad a (mu x.2.1 (rl m x kf).1)) (ad b (mu x.2.1 (rl m x kf).2))) l
noncomputable def chain(n:List Nat)(z:List Int)(G:Prop)(l:List R):Prop:= @List.rec _ (fun _=>Prop) G (fun x _ g=>rp n z x→g) l
theorem Qt{c:List Int}{a b:L}(k:Nat)(h:dot c a≤dot c b):dot c (mu k a)≤dot c (mu k b):=by rw[FR,FR];exact Int.mul_le_mul_of_nonneg_left h (JB k)
theorem D5{n:List Nat}{z:List Int}{G:Prop}: ∀(l:List R) (a b:L),(le (1::ct n z) (XV n.length l a b)→False)→((le (1::ct n z) (a,b)→False)→G)→chain n z G l:=
 @List.rec _ (fun l=> ∀a b:L,(le (1::ct n z) (XV n.length l a b)→False)→((le (1::ct n z) (a,b)→False)→G)→chain n z G l) (fun _ _ h k=>k h)
  (fun x _ ih a b h k p=>ih _ _ h fun q=>k fun e=>q (by unfold le;rw[sI,sI];exact ZR e (Qt _ (gh (pr n z x.1 _ _) _ p))))
noncomputable def RO(k:Nat):L→L→Bool:= @Nat.rec (fun _=>L→L→Bool) (fun _ _=>true) (fun _ g a b=>and (Av (a 0) (b 0)) (g (fun j=>a (j+1)) fun j=>b (j+1))) k
noncomputable def RN(k m:Nat):L→L→Bool:= @Nat.rec (fun _=>L→L→Bool) (RO k) (fun _ g a b=>and (Nat.ble (b 0) (a 0)) (g (fun j=>a (j+1)) fun j=>b (j+1))) m
theorem E1: ∀(z:List Int) a b,RO z.length a b=true→dot z b≤dot z a:= @List.rec Int (fun z=> ∀a b,RO z.length a b=true→dot z b≤dot z a) (fun _ _ _=>rZ _) fun x _ h a b e=>
 ZR (ZT (bN (fun n=>JC n*x) (Nat.eq_of_beq_eq_true (eY.mp e).1).symm)) (h _ _ (eY.mp e).2)
theorem E0{z:List Int}: ∀(n:List Nat) a b,RN z.length n.length a b=true→dot (ct n z) b≤dot (ct n z) a:= @List.rec Nat (fun n=> ∀a b,RN z.length n.length a b=true→dot (ct n z) b≤dot (ct n z) a) (E1 z) fun x _ h a b e=>
 ZR (Int.mul_le_mul_of_nonneg_right (ZW.mpr (Ve (eY.mp e).1)) (JB x)) (h _ _ (eY.mp e).2)
noncomputable def bad(k m:Nat)(p:L×L):Bool:=and (yN (p.2 0) (p.1 0)) (RN k m (fun j=>p.1 (j+1)) fun j=>p.2 (j+1))
theorem Zb{n:List Nat}{z:List Int}{p:L×L}(e:bad z.length n.length p=true):le (1::ct n z) p→False:=
 OS.mpr (Int.add_lt_add_of_lt_of_le (by rw[ZV,ZV];exact JD.mpr (Ve (eY.mp e).1)) (E0 _ _ _ (eY.mp e).2))
noncomputable def pM(k m d:Nat):Bool:=bad k m (XV m (dL 9 (dR d).2) (mu (dR d).1.2.1 (rl m (dR d).1 kg).1) (mu (dR d).1.2.1 (rl m (dR d).1 kg).2))
noncomputable def den(n:List Nat)(z:List Int)(d:Nat):Prop:=chain n z (rp n z (dR d).1) (dL 9 (dR d).2)
theorem uE{n:List Nat}{z:List Int}(d:Nat)(h:pM z.length n.length d=true):den n z d:=D5 _ _ _ (Zb h) fun k=>gi _ _ fun a=>k (Qt _ a)
end Fz
open Fz
theorem aS(t:Nat)(h:pM 0 1 t=true){a:Nat}:den [a] [] t:=uE t h
theorem aX(t:Nat)(h:pM 0 2 t=true){a b:Nat}:den [a,b] [] t:=uE t h
theorem dM(t:Nat)(h:pM 0 3 t=true){a b c:Nat}:den [a,b,c] [] t:=uE t h
theorem U2(t:Nat)(h:pM 0 4 t=true){a b c d:Nat}:den [a,b,c,d] [] t:=uE t h
theorem Gz(t:Nat)(h:pM 0 5 t=true){a b c d e:Nat}:den [a,b,c,d,e] [] t:=uE t h
theorem jH(t:Nat)(h:pM 1 0 t=true){x:Int}:den [] [x] t:=uE t h
theorem jX(t:Nat)(h:pM 1 1 t=true){a:Nat}{x:Int}:den [a] [x] t:=uE t h
theorem U4(t:Nat)(h:pM 1 2 t=true){a b:Nat}{x:Int}:den [a,b] [x] t:=uE t h
theorem uG(t:Nat)(h:pM 2 0 t=true){x y:Int}:den [] [x,y] t:=uE t h
theorem HQ{d:Int}(a:0≤d)(b:d<2):d=0∨d=1:=(Int.lt_or_le d 1).imp (fun h=>tO (ZU h) a) fun h=>tO (ZU b) h
theorem Nn{d k:Int}(b:d<k+1):d<k∨d=k:=Int.lt_or_eq_of_le (ZU b)
theorem or3{d:Int}(a:0≤d)(b:d<3):d=0∨d=1∨d=2:=(Nn (k:=2) b).elim (fun h=>(HQ a h).imp id .inl) fun h=> .inr (.inr h)
theorem rh{d:Int}(a:0≤d)(b:d<4):d=0∨d=1∨d=2∨d=3:=(Nn (k:=3) b).elim (fun h=>(or3 a h).imp id (·.imp id .inl)) fun h=> .inr (.inr (.inr h))
theorem Mg{P Q:Prop} [Decidable P] [Decidable Q](h: ¬(P∧Q)):(decide P&&decide Q)=false:=(Sh P Q).symm.trans (iW h)
theorem Me{P Q:Prop} [Decidable P] [Decidable Q](h: ¬(P∧Q)):(!(decide P&&decide Q))=true:=bN not (Mg h)
theorem ydf{P Q:Prop} [Decidable P] [Decidable Q](a:P)(b:Q):(!(decide P&&decide Q))=false:=by rw[cC a,cC b];rfl
theorem NR{t:Int}(a:1≤t)(b: ¬t=1):2≤t:=Int.lt_iff_le_and_ne.mpr ⟨a,gH b⟩
theorem Pg{i j:Nat}(h:j+1≤i):i-j=i-(j+1)+1:=(Vm (Nat.le_sub_of_add_le (Nat.add_comm 1 j▸h)):i-j-1+1=i-j).symm
theorem Lv{i:Int}{n:Nat}(h0:0≤i)(h:i.toNat<n)(hn:n≤8000):i<2^63:=Int.lt_of_lt_of_le ((yG h0).mp h) (Tr (ZW.mpr hn) (by decide))
end
theorem uX{P:Prop}(h:false=true):P:=Sj h
theorem VH{P:Prop}(h:true=false):P:=Sj h
theorem dB{A:Type u}{a:A}{P:Prop}(h:none=some a):P:=nomatch h
theorem MI{A:Type u}{a:A}{P:Prop}(h:some a=none):P:=nomatch h
theorem Mc{A:Type u}{a:A}{l:List A}{P:Prop}(h:a::l=[]):P:=nomatch h
theorem MH{A:Type u}(f:A→Nat){a b:A}{P:Prop}(h:a=b)(k:Av (f a) (f b)=false):P:=by subst h;exact VH ((Nat.beq_refl _).symm.trans k)
theorem oL{a:Bool}(h:(!a)=true):a=false:=by cases a with|true=>exact uX h|false=>rfl
theorem bQ{P:Prop}(h: ∀G:Prop,(P→G)→G):P:=h P id
end
noncomputable section
open PySem PySem.W PyProof.Rows
noncomputable def NP(w4:SharedT→Thread→Option (SharedT×Thread))(ok:Thread→Bool)(n:Nat):SharedT→Thread→Option (SharedT×Thread):=
 @Nat.rec (fun _=>SharedT→Thread→Option (SharedT×Thread)) (fun s t=>some (s,t)) (fun _ ih s t=>
  match through t with
  |true=>some (s,t)|false=>match ok t with
   |false=>none|true=>match w4 s t with
    |some r=>ih r.1 r.2|none=>none) n
theorem Qg{tb:String→Option Builtin}{p:Program}{w:World}{n₀:Nat}{ann:Option aF}: ∀(n:Nat) (s:SharedT) (t:Thread) (r:SharedT×Thread),
  NP (stepT (denote tb) p w) (stepOk n₀ ann) n s t=some r→through r.2=true→topRun tb p w n₀ ann (n+1) s.abs t=some r.1.abs
 |0,s,t,r,h,e=>by
  cases h;unfold topRun;rw[e]
 |n+1,s,t,r,h,e=>by
  unfold topRun;change(match through t with
   |true=>some (s,t)|false=>match stepOk n₀ ann t with
    |false=>none|true=>match stepT (denote tb) p w s t with
     |some r=>NP (stepT (denote tb) p w) (stepOk n₀ ann) n r.1 r.2|none=>none)=some r at h
  cases ht:through t with
  |true=>rw[ht]at h;cases h;rfl|false=>
   rw[ht]at h;cases hk:stepOk n₀ ann t with
   |false=>rw[hk]at h;cases h|true=>
    rw[hk]at h;cases hs:stepT (denote tb) p w s t with
    |none=>rw[hs]at h;cases h|some q=>rw[hs]at h;dsimp only;rw[stepT_spec hs];exact Qg n q.1 q.2 r h e
def T0(P:Params):BT:=
 .node (boot_o_0 P)
  (.node (boot_o_1 P) (.node (boot_o_3 P) (.node (boot_o_7 P) .nil .nil) .nil) (.node (boot_o_5 P) (.node (boot_o_9 P) .nil .nil) .nil))
  (.node (boot_o_2 P) (.node (boot_o_4 P) (.node (boot_o_8 P) .nil .nil) .nil) (.node (boot_o_6 P) (.node (boot_o_10 P) .nil .nil) .nil))
def S0(P:Params)(os:OsState):SharedT:=⟨T0 P,11,{},#[],{},181,os⟩
theorem y8(P:Params):absHeap (T0 P) 11 {}=boot_heap P:=by kernel_rfl
abbrev pw:Program:=PySem.Challenge.pw_pq0252_01
noncomputable def qv:Program:=view pw [63]
noncomputable def CR:List Str:=(pw.main.scope.names.map (·.1)).filter (· !=aA "law")
noncomputable def behind(p q:Program)(loose:List Str)(Xt:aL→Bool){α:Type}(Yf:aL→α)(h₀:Heap)(s:aL):=
 ((staticsOk (importedModules p.main.body) h₀ s.heap&&namesBound p s.heap&&gensDone s&&laidKept h₀ s.heap),openSeen q loose (importedModules p.main.body) Xt true s,Yf s)
theorem jd{p q:Program}{loose:List Str}{Xt:aL→Bool}{α:Type}{Yf:aL→α}{Ya:World→α}(M:Nat)
  (e:opening p=plainProg p.main.scope.names) (f: ∀s,fenceModules? p s=some s)
  (size: ∀w:World,((boot_heap w.params).isNs mainGlobals,(boot_heap w.params).nsMap mainGlobals "__annotations__")=(true,some (.ref 6)))
  (run: ∀(w:World) (os:OsState),(NP (stepT (denote treeTable) p w) (stepOk 11 (some (.ref 6))) (600+M) (S0 w.params os) (topStub p)).map (fun r=>(through r.2,behind p q loose Xt Yf (boot_heap w.params) r.1.abs))=some (true,true,openGood q loose,Ya w)):
  LeftO p q loose Xt Yf Ya (600+M+1):=fun w=>by
 have b:=boot_open (p:=p) (N:=600+M+1) e (Nat.ble_eq.mpr (by exact aS 138494841636944175632 rfl)) f w;obtain⟨⟨h,gs,d,k,os⟩,e1,e2⟩:=lO.mp b;obtain⟨rfl,rfl,rfl,rfl⟩:h=boot_heap w.params∧gs=Array.mk []∧d=boot_drawn∧k=boot_toks:=by simpa using e2
 obtain⟨r,r1,r2⟩:=lO.mp (run w os);have r3:through r.2=true:=bN Vy r2;have l1:(staticsOk (importedModules p.main.body) (boot_heap w.params) r.1.abs.heap&&namesBound p r.1.abs.heap&&gensDone r.1.abs&&laidKept (boot_heap w.params) r.1.abs.heap)=true:=bN (fun x=>x.2.1) r2;have l2:(openSeen q loose (importedModules p.main.body) Xt true r.1.abs,Yf r.1.abs)=(openGood q loose,Ya w):=bN (fun x=>x.2.2) r2;have R:=Qg _ _ _ _ r1 r3;have es:(S0 w.params os).abs=⟨boot_heap w.params,Array.mk [],boot_drawn,boot_toks,os⟩:=by
  show(⟨absHeap (T0 w.params) 11 {},_,_,_,_⟩:aL)=_;rw[y8];rfl
 rw[es]at R;obtain⟨z1,z2⟩:=Prod.mk.inj (size w);have t:topFrom treeTable p w (600+M+1) ⟨boot_heap w.params,Array.mk [],boot_drawn,boot_toks,os⟩=some r.1.abs:=by
  unfold topFrom;dsimp only;rw[z1,z2];show((topRun treeTable p w 11 (some (.ref 6)) _ _ _).bind _)=_;rw[R];show(match staticsOk (importedModules p.main.body) (boot_heap w.params) r.1.abs.heap&&namesBound p r.1.abs.heap&&gensDone r.1.abs&&laidKept (boot_heap w.params) r.1.abs.heap with|true=>_|false=>_)=_;rw[l1]
 unfold openEnds;rw[e1];show(topFrom treeTable p w _ _).map _=_;rw[t];exact bN some l2
theorem yc: ∀w:World,((boot_heap w.params).isNs mainGlobals,(boot_heap w.params).nsMap mainGlobals "__annotations__")=(true,some (.ref 6)):=by
 intro w;kernel_rfl
theorem qz:opening pw=plainProg pw.main.scope.names:=by kernel_rfl
theorem S1: ∀s,fenceModules? pw s=some s:=by intro s;kernel_rfl
abbrev lw:OpenLaw:=PySem.Challenge.rw_pq0252_01
theorem xl:lw.wellSaid=true:=by
 rw[aDN]
 kernel_rfl
theorem Ht:(defOf qv (aA "law")).isSome=true:=by kernel_rfl
def qB:DefRec×List (Str×Expr):=(defOf qv (aA "law")).get Ht
theorem Hu:defOf qv lw.row.name=some (qB.1,qB.2):=(Option.some_get Ht).symm
theorem Z9:lw.row.prog.theDef lw.row.name=some (qB.1.params,qB.1.body,qB.1.scope):=by kernel_rfl
theorem LC:kwWritten? qB.1.params.kwonlyargs qB.1.params.kw_defaults=some qB.2:=by kernel_rfl
theorem qp:(chainsOk qv&&opensWell lw.row.prog&&(frees lw.row.toRowW&&lw.row.within.isEmpty))=true:=by kernel_rfl
theorem Zc:lw.row.prog.bare:=⟨rfl,rfl,rfl,rfl,rfl,by decide+kernel⟩
theorem aBF:lw.row.toRowW.promised:=by w_witness2
theorem X6{α:Type}{Yf:aL→α}{Ya:World→α}{YP:World→Heap→Prop}(left:LeftO pw qv CR (fun _=>true) Yf Ya 3601)
  (hY: ∀w s,Yf s=Ya w→YP w s.heap) (W0: ∀w h h',YP w h→(∀b o,h.get? b=some o→h'.get? b=some o)→YP w h')
  (call:WalkO qv CR (fun _ _=>True) YP lw.row.toRowW qB.1 qB.2 fun f vs=>Xc f vs):lw.Holds:=
 holds_law xl fun xk=>holds_open (r:=lw.row) (q:=qv) (loose:=CR) (Xt:=fun _=>true) (XP:=fun _ _=>True) (Yf:=Yf) (Ya:=Ya) (YP:=YP) (N:=3601) left hY W0 (fun _ _=>trivial) (fun _ _ _ _ _=>trivial)
  Hu Z9 LC (fun _ _=>recFacts_nil rfl) (by rfl) xk qp Zc aBF call
end
noncomputable section
open PySem
section
set_option backward.match.sparseCases false
noncomputable section
set_option genInjectivity true in
inductive PV where
 |none|bool (b:Bool)|int (i:Int)|str (s:Str)|tup (l:List PV)|ref (n:Nat)|aE (v:aF)|fl (l:List PV)
 deriving Inhabited
set_option genInjectivity true in
inductive PA where
 |int (i:Int)|str (s:Str)
 deriving DecidableEq,Inhabited
set_option genInjectivity true in
inductive PK where
 |int (i:Int)|str (s:Str)|tup (l:List PA)
 deriving DecidableEq,Inhabited
noncomputable def PA.val:PA→PV
 | .int i=> .int i| .str s=> .str s
noncomputable def PK.val:PK→PV
 | .int i=> .int i| .str s=> .str s| .tup l=> .tup (l.map PA.val)
noncomputable def Nw:PV→Option PA
 | .int i=>some (.int i)| .str s=>some (.str s)|_=>none
noncomputable def partsOf:List PV→Option (List PA)
 | []=>some []|v::r=>(Nw v).bind fun a=>(partsOf r).map (a:: ·)
noncomputable def keyOf:PV→Option PK
 | .int i=>some (.int i)| .str s=>some (.str s)| .tup l=>(partsOf l).map .tup|_=>none
noncomputable def PK.like:PK→PK→Bool
 | .int _,.int _=>true| .str _,.str _=>true| .tup _,.tup _=>true|_,_=>false
abbrev cA:=List (PK×PV)
set_option genInjectivity true in
inductive PO where
 |list (l:List PV)|dict (es:cA) (lk:Bool)|inst (c:Addr) (d:Nat)|ns (es:List (Nat×PV))|cell (v:Option PV)|lam (b:Expr) (sc:Scope) (fr:List (Option PV))|exc (c:Addr) (d:Nat)
 deriving Inhabited
abbrev PH:=List PO
inductive Out(α:Type)where
 |ok (a:α) (H:PH)|exc (c:Addr) (d:Nat) (H:PH)|fail
noncomputable def Out.bind{α β:Type}(o:Out α)(f:α→PH→Out β):Out β:=match o with
 | .ok a H=>f a H| .exc c d H=> .exc c d H| .fail=> .fail
@[simp] theorem Out.eV{α β:Type}(a:α)(H:PH)(f:α→PH→Out β):(Out.ok a H).bind f=f a H:=rfl
@[simp] theorem Out.Zh{α β:Type}(f:α→PH→Out β):(Out.fail:Out α).bind f= .fail:=rfl
abbrev dI:=PV→List PV→PH→Out PV
abbrev aW:=List (Option PV)
abbrev D:=dI→aW→PH→Out PV
abbrev DT:=dI→aW→PH→Out Bool
abbrev Ds:=dI→aW→PH→Out (List PV)
inductive cO where
 |next|ret (v:PV)
abbrev DS:=dI→aW→PH→Out (cO×aW)
noncomputable def aJ:Nat:=8000
noncomputable def rP(f:PV→Option PyData):List PV→Option (List PyData)
 | []=>some []|v::r=>match f v with
  |some d=>(match rP f r with
   |some ds=>some (d::ds)|none=>none)
  |none=>none
noncomputable def iO:PV→Option Int
 | .int a=>some a|_=>none
noncomputable def mY:PV→Option Str
 | .str a=>some a|_=>none
noncomputable def ob{α β:Type}(o:Option α)(f:α→Out β):Out β:=match o with
 |some a=>f a|none=> .fail
noncomputable def cB{β:Type}(b:Bool)(o:Out β):Out β:=match b with
 |true=>o|false=> .fail
noncomputable def lX{α:Type}(H:PH)(x:PV)(f:Nat→PO→Option α):Option α:=match x with
 | .ref r=>(H[r]?).bind (f r)|_=>none
noncomputable def isList(r:Nat):PO→Option (Nat×List PV)
 | .list l=>some (r,l)|_=>none
noncomputable def Jn(r:Nat):PO→Option (Nat×cA×Bool)
 | .dict es lk=>some (r,es,lk)|_=>none
noncomputable def listAt(H:PH)(x:PV):Option (Nat×List PV):=lX H x isList
noncomputable def dictAt(H:PH)(x:PV):Option (Nat×cA×Bool):=lX H x Jn
noncomputable def AC{α:Type}:List α→Option (α×α)
 | []=>none|a::r=>match r with
  | []=>none|b::r=>match r with
   | []=>some (a,b)|_::_=>none
noncomputable def oneOf{α:Type}:List α→Option α
 | []=>none|a::r=>match r with
  | []=>some a|_::_=>none
noncomputable def Mr{α:Type}:List α→Option Unit
 | []=>some ()|_::_=>none
noncomputable def vY:PV→Option (List PV)
 | .tup l=>some l|_=>none
noncomputable def og{α:Type}(b:Bool)(a:α):Option α:=match b with
 |true=>some a|false=>none
noncomputable def RE:PV→Option PyData
 | .none=>some .none| .bool b=>some (.bool b)| .int i=>some (.int i)| .str s=>og (PyData.strOk s) (.str s)|_=>none
noncomputable def toPy(H:PH):Nat→PV→Option PyData
 |0,x=>RE x|n+1,x=>(RE x).or (((vY x).bind fun l=>(rP (toPy H n) l).map .tuple).or ((listAt H x).bind fun p=>(rP (toPy H n) p.2).map .list))
noncomputable def xP(H:PH)(x y:PV):Option Bool:=((iO x).bind fun a=>(iO y).map fun b=>a==b).or (((mY x).bind fun a=>(mY y).map fun b=>a==b).or ((toPy H 6 x).bind fun d=>(toPy H 6 y).map fun e=>Bk d e))
noncomputable def iG(l:List PV)(H:PH):Out PV:=if l.length≤aJ then .ok (.ref H.length) (H++[.list l])else .fail
noncomputable def rF(l:List PV)(H:PH):Out PV:=if l.length≤aJ then .ok (.tup l) H else .fail
noncomputable def small(i:Int):Bool:=decide (i.natAbs<2^1000)
theorem iV{x:PV}{a:Int}(h:iO x=some a):x= .int a:=by
 induction x using PV.casesOn with
 |int b=>injection h with h;subst h;rfl
 |_=>injection h
theorem pJ{x:PV}{a:Str}(h:mY x=some a):x= .str a:=by
 induction x using PV.casesOn with
 |str b=>injection h with h;subst h;rfl
 |_=>injection h
theorem qG{α:Type}{H:PH}{x:PV}{f:Nat→PO→Option α}{a:α}(h:lX H x f=some a): ∃r o,x= .ref r∧H[r]?=some o∧f r o=some a:=by
 induction x using PV.casesOn with
 |ref r=>
  obtain⟨o,h1,h2⟩:=JR.mp h;exact⟨r,o,rfl,h1,h2⟩
 |_=>injection h
theorem listAt_eq{H:PH}{x:PV}{p:Nat×List PV}(h:listAt H x=some p):x= .ref p.1∧H[p.1]?=some (.list p.2):=by
 obtain⟨r,o,e1,e2,e3⟩:=qG h
 induction o using PO.casesOn with
 |list l=>injection e3 with e3;subst e3;exact⟨e1,e2⟩
 |_=>injection e3
theorem sJ{H:PH}{x:PV}{p:Nat×cA×Bool}(h:dictAt H x=some p):x= .ref p.1∧H[p.1]?=some (.dict p.2.1 p.2.2):=by
 obtain⟨r,o,e1,e2,e3⟩:=qG h
 induction o using PO.casesOn with
 |dict es lk=>injection e3 with e3;subst e3;exact⟨e1,e2⟩
 |_=>injection e3
theorem gL{H:PH}{r:Nat}{l:List PV}(h:H[r]?=some (.list l)):listAt H (.ref r)=some (r,l):=by
 show(H[r]?).bind (isList r)=_;rw[h];rfl
theorem sK{H:PH}{r:Nat}{es:cA}{lk:Bool}(h:H[r]?=some (.dict es lk)):dictAt H (.ref r)=some (r,es,lk):=by
 show(H[r]?).bind (Jn r)=_;rw[h];rfl
theorem DM{α:Type}{l:List α}{p:α×α}(h:AC l=some p):l=[p.1,p.2]:=by
 induction l using List.casesOn with
 |nil=>injection h|cons a r=>induction r using List.casesOn with
  |nil=>injection h|cons b r=>induction r using List.casesOn with
   |nil=>injection h with h;subst h;rfl
   |cons c r=>injection h
theorem MS{α:Type}{l:List α}{a:α}(h:oneOf l=some a):l=[a]:=by
 induction l using List.casesOn with
 |nil=>injection h|cons b r=>induction r using List.casesOn with
  |nil=>injection h with h;subst h;rfl
  |cons c r=>injection h
theorem oi{α:Type}{l:List α}{u:Unit}(h:Mr l=some u):l=[]:=by
 induction l using List.casesOn with
 |nil=>rfl|cons b r=>injection h
noncomputable def Ji(op:Operator)(a b:Int)(H:PH):Out PV:=match op with
 | .Add=> .ok (.int (a+b)) H| .Sub=> .ok (.int (a-b)) H| .Mult=>cB (small a&&small b) (.ok (.int (a*b)) H)| .FloorDiv=>cB (!(b==0)&&small b) (.ok (.int (tM a b)) H)| .Mod=>cB (!(b==0)) (.ok (.int (tN a b)) H)| .Pow=>cB (a==2&&decide (0≤b)&&decide (b≤64)) (.ok (.int (2^b.toNat)) H)| .BitAnd=>cB ((a==0||a==1)&&(b==0||b==1)) (.ok (.int (a*b)) H)| .BitOr=>cB ((a==0||a==1)&&(b==0||b==1)) (.ok (.int (a+b-a*b)) H)|_=> .fail
noncomputable def MR(op:Operator)(o:Out PV):Out PV:=match op with
 | .Add=>o|_=> .fail
noncomputable def WF(op:Operator)(o:Out PV):Out PV:=match op with
 | .Mult=>o|_=> .fail
noncomputable def IQ(a:List PV)(k:Int):Bool:=a.length==1&&decide (0≤k)&&decide (k≤aJ)
noncomputable def binOp(op:Operator)(x y:PV)(H:PH):Out PV:=match x with
 | .int a=>ob (iO y) fun b=>Ji op a b H
 | .str a=>ob (mY y) fun b=>MR op (cB (decide (a.length+b.length≤aJ)) (.ok (.str (a++b)) H))
 | .tup a=>(match y with
  | .tup b=>MR op (rF (a++b) H)| .int k=>WF op (cB (IQ a k) (rF (cU k.toNat (a.headD .none)) H))|_=> .fail)
 | .ref r=>(match y with
  | .int k=>ob (listAt H (.ref r)) fun p=>WF op (cB (IQ p.2 k) (iG (cU k.toNat (p.2.headD .none)) H))
  |y=>ob (listAt H (.ref r)) fun p=>ob (listAt H y) fun q=>MR op (iG (p.2++q.2) H))
 |_=> .fail
noncomputable def bZ(es:cA)(k:PK):Option PV:=es.lookup k
noncomputable def bT:cA→PK→PV→cA
 | [],k,v=>[(k,v)]|(j,u)::r,k,v=>if j=k then(j,v)::r else(j,u)::bT r k v
noncomputable def iD(es:cA)(k:PK):cA:=es.filter fun e=>e.1≠k
noncomputable def cZ(es:cA)(k:PK):Bool:=es.all fun e=>k.like e.1
noncomputable def UD(x y:PV):Option Bool:=(mY x).bind fun a=>(vY y).bind fun l=>(partsOf l).map fun ps=>ps.any (· == .str a)
noncomputable def inDict(H:PH)(x y:PV):Option Bool:=(dictAt H y).bind fun p=>(keyOf x).bind fun k=>og (cZ p.2.1 k) (bZ p.2.1 k).isSome
noncomputable def Iy(H:PH)(x y:PV):Option Bool:=(iO x).bind fun a=>(listAt H y).bind fun p=>(partsOf p.2).map fun ps=>ps.any (· == .int a)
noncomputable def isIn(H:PH)(x y:PV):Option Bool:=(UD x y).or ((inDict H x y).or (Iy H x y))
noncomputable def strLt(a b:Str):Bool:=decide (a.cps.toList<b.cps.toList)
noncomputable def HR(fi:Int→Int→Bool)(fs:Str→Str→Bool)(x y:PV):Option Bool:=((iO x).bind fun a=>(iO y).map (fi a)).or ((mY x).bind fun a=>(mY y).map (fs a))
noncomputable def Mh(H:PH)(x y:PV):Option Bool:=(dictAt H x).bind fun p=>(dictAt H y).bind fun q=>og q.2.1.isEmpty (!p.2.1.isEmpty)
noncomputable def E6(op:CmpOp)(x y:PV)(H:PH):Option Bool:=match op with
 | .Eq=>xP H x y| .NotEq=>(Mh H x y).or ((xP H x y).map not)| .Lt=>HR (fun a b=>decide (a<b)) strLt x y| .LtE=>HR (fun a b=>decide (a≤b)) (fun a b=>!strLt b a) x y| .Gt=>HR (fun a b=>decide (b<a)) (fun a b=>strLt b a) x y| .GtE=>HR (fun a b=>decide (b≤a)) (fun a b=>!strLt a b) x y| .In=>isIn H x y| .NotIn=>(isIn H x y).map not|_=>none
noncomputable def dE(op:CmpOp)(x y:PV)(H:PH):Out Bool:=ob (E6 op x y H) fun b=> .ok b H
noncomputable def aB(v:PV):D:=fun _ _ H=> .ok v H
noncomputable def CP(fr:aW)(i:Nat):Option PV:=(fr[i]?).bind id
noncomputable def aD(i:Nat):D:=fun _ fr H=>ob (CP fr i) fun v=> .ok v H
noncomputable def dz(_:Nat):PO→Option PV
 | .cell v=>v|_=>none
noncomputable def De(fr:aW)(H:PH)(i:Nat):Option PV:=(CP fr i).bind fun x=>lX H x dz
noncomputable def cL(i:Nat):D:=fun _ fr H=>ob (De fr H i) fun v=> .ok v H
noncomputable def aH:Ds:=fun _ _ H=> .ok [] H
noncomputable def aC(a:D)(r:Ds):Ds:=fun C fr H=>(a C fr H).bind fun v H=>(r C fr H).bind fun vs H=> .ok (v::vs) H
noncomputable def bM(es:Ds):D:=fun C fr H=>(es C fr H).bind fun vs H=>rF vs H
noncomputable def dN(es:Ds):D:=fun C fr H=>(es C fr H).bind fun vs H=>iG vs H
noncomputable def pairUp:List PV→cA→Option cA
 | [],es=>some es|k::v::r,es=>(keyOf k).bind fun k=>(og (cZ es k&&decide (es.length<aJ)) ()).bind fun _=>pairUp r (bT es k v)
 |_,_=>none
noncomputable def mM(es:Ds):D:=fun C fr H=>(es C fr (H++[.dict [] false])).bind fun vs H'=>ob ((dictAt H' (.ref H.length)).bind fun p=>og (p.2.1.isEmpty&&!p.2.2) ()) fun _=>ob (pairUp vs []) fun es=> .ok (.ref H.length) (H'.set H.length (.dict es false))
noncomputable def bV(op:Operator)(a b:D):D:=fun C fr H=>(a C fr H).bind fun x H=>(b C fr H).bind fun y H=>binOp op x y H
noncomputable def nc(x:PV)(H:PH):Out PV:=ob (iO x) fun a=> .ok (.int (-a)) H
noncomputable def xM(a:D):D:=fun C fr H=>(a C fr H).bind nc
noncomputable def bB(op:CmpOp)(a b:D):D:=fun C fr H=>(a C fr H).bind fun x H=>(b C fr H).bind fun y H=>(dE op x y H).bind fun r H=> .ok (.bool r) H
noncomputable def vA(oA kY:CmpOp)(a b c:D):D:=fun C fr H=>(a C fr H).bind fun x H=>(b C fr H).bind fun y H=>(dE oA x y H).bind fun r H=>
 match r with
 |true=>(c C fr H).bind fun z H=>(dE kY y z H).bind fun r H=> .ok (.bool r) H
 |false=> .ok (.bool false) H
noncomputable def MK:PV→Option Bool
 | .none=>some true| .aE _=>none|_=>some false
noncomputable def uP(neg:Bool)(x:PV)(H:PH):Out PV:=ob (MK x) fun b=> .ok (.bool (cond neg (!b) b)) H
noncomputable def rI(a:D):D:=fun C fr H=>(a C fr H).bind (uP false)
noncomputable def xK(a:D):D:=fun C fr H=>(a C fr H).bind (uP true)
noncomputable def truth(x:PV)(H:PH):Out Bool:=match x with
 | .bool b=> .ok b H|x=>ob (listAt H x) fun p=>cB (decide (p.2.length≤aJ)) (.ok (!p.2.isEmpty) H)
noncomputable def bF(a:D):DT:=fun C fr H=>(a C fr H).bind truth
noncomputable def tB(a:DT):DT:=fun C fr H=>(a C fr H).bind fun b H=> .ok (!b) H
noncomputable def jK(a b:DT):DT:=fun C fr H=>(a C fr H).bind fun x H=>match x with
 |true=>b C fr H|false=> .ok false H
noncomputable def gY(a b:DT):DT:=fun C fr H=>(a C fr H).bind fun x H=>match x with
 |true=> .ok true H|false=>b C fr H
noncomputable def rO:DT:=fun _ _ H=> .ok true H
noncomputable def oV:DT:=fun _ _ H=> .ok false H
noncomputable def jB(t:DT)(a b:D):D:=fun C fr H=>(t C fr H).bind fun x H=>match x with
 |true=>a C fr H|false=>b C fr H
noncomputable def iI(l:List PV)(i:Int):Option PV:=if aJ<l.length then none else if 0≤i then l[i.toNat]? else if -(l.length:Int)≤i then l[(i+l.length).toNat]? else none
noncomputable def bp:PV→Option Int
 | .int k=>some k| .bool b=>some (cond b 1 0)|_=>none
noncomputable def bu(o i:PV):Option PV:=(vY o).bind fun l=>(iO i).bind fun k=>iI l k
noncomputable def bn(H:PH)(o i:PV):Option PV:=(listAt H o).bind fun p=>(bp i).bind fun k=>iI p.2 k
noncomputable def bj(H:PH)(o i:PV):Option PV:=(dictAt H o).bind fun p=>(keyOf i).bind fun k=>(og (cZ p.2.1 k) ()).bind fun _=>bZ p.2.1 k
noncomputable def nF(o i:PV)(H:PH):Out PV:=ob ((bu o i).or ((bn H o i).or (bj H o i))) fun v=> .ok v H
noncomputable def bC(o i:D):D:=fun C fr H=>(o C fr H).bind fun x H=>(i C fr H).bind fun y H=>nF x y H
noncomputable def BB:PV→Option Unit
 | .none=>some ()|_=>none
noncomputable def cut(l:List PV)(lo hi:PV):Option (List PV):=((iO lo).bind fun a=>(BB hi).bind fun _=>og (decide (0≤a)) (l.drop a.toNat)).or ((BB lo).bind fun _=>(iO hi).bind fun b=>og (decide (0≤b)) (l.take b.toNat))
noncomputable def yY(o lo hi:PV)(H:PH):Out PV:=match o with
 | .fl l=>ob (cut l lo hi) fun l'=>cB (decide (l.length≤63)) (iG l' H)
 | .tup l=>ob (cut l lo hi) fun l'=>cB (decide (l.length≤aJ)) (.ok (.tup l') H)
 |o=>ob (listAt H o) fun p=>ob (cut p.2 lo hi) fun l'=>cB (decide (p.2.length≤aJ)) (iG l' H)
noncomputable def IB(o:PV)(H:PH):Out PV:=match o with
 | .tup l=>rF l.reverse H|o=>ob (listAt H o) fun p=>iG p.2.reverse H
noncomputable def qH(o lo hi:D):D:=fun C fr H=>(o C fr H).bind fun x H=>(lo C fr H).bind fun a H=>(hi C fr H).bind fun b H=>yY x a b H
noncomputable def zP(o:D):D:=fun C fr H=>(o C fr H).bind IB
noncomputable def isNs(_:Nat):PO→Option (List (Nat×PV))
 | .ns es=>some es|_=>none
noncomputable def HJ(H:PH)(d:Nat):Option (List (Nat×PV)):=lX H (.ref d) isNs
noncomputable def Jg(_:Nat):PO→Option Nat
 | .inst _ d=>some d|_=>none
noncomputable def O0(_:Nat):PO→Option Nat
 | .exc _ d=>some d|_=>none
noncomputable def HI:PV→Bool
 | .aE _=>false|_=>true
noncomputable def yV(o:PV)(n:Nat)(H:PH):Out PV:=ob ((lX H o Jg).or (lX H o O0)) fun d=>ob (HJ H d) fun es=>ob (es.lookup n) fun v=>cB (HI v) (.ok v H)
noncomputable def eR(o:D)(n:Nat):D:=fun C fr H=>(o C fr H).bind fun x H=>yV x n H
noncomputable def aZ(f:D)(as:Ds):D:=fun C fr H=>(f C fr H).bind fun g H=>(as C fr H).bind fun vs H=>C g vs H
noncomputable def Js(_:Nat):PO→Option Unit
 | .lam _ _ _=>some ()|_=>none
noncomputable def DA(f:D):D:=fun C fr H=>(f C fr H).bind fun g H=>ob (lX H g Js) fun _=>C g [] H
noncomputable def cy(c:Addr)(_:Nat):PO→Option Nat
 | .inst c' d=>og (decide (c'=c)) d|_=>none
noncomputable def fC(c:Addr)(f:Addr)(o:D)(as:Ds):D:=fun C fr H=>(o C fr H).bind fun x H=>ob (lX H x (cy c)) fun d=>ob (HJ H d) fun _=>(as C fr H).bind fun vs H=>C (.aE (.ref f)) (x::vs) H
noncomputable def p1(f:PV→PH→Out PV)(a:D):D:=fun C fr H=>(a C fr H).bind f
noncomputable def p2(f:PV→PV→PH→Out PV)(a b:D):D:=fun C fr H=>(a C fr H).bind fun x H=>(b C fr H).bind fun y H=>f x y H
noncomputable def XF(H:PH):PV→Option Nat
 | .str s=>some s.length| .tup l=>some l.length| .fl l=>some l.length| .ref r=>(H[r]?).bind fun o=>match o with
  | .list l=>some l.length| .dict es _=>some es.length|_=>none
 |_=>none
noncomputable def fX(x:PV)(H:PH):Out PV:=ob (XF H x) fun n=>cB (decide (n≤aJ)) (.ok (.int n) H)
noncomputable def pI(x:PV)(H:PH):Out PV:=ob (iO x) fun a=> .ok (.int a.natAbs) H
noncomputable def EU:PV→Option Bool
 | .bool b=>some b|_=>none
noncomputable def intOp(x:PV)(H:PH):Out PV:=ob (EU x) fun b=> .ok (.int (if b then 1 else 0)) H
noncomputable def fh:PV→Option Bool
 | .tup _=>some true| .int _=>some false| .none=>some false| .str _=>some false|_=>none
noncomputable def zK(x:PV)(H:PH):Out PV:=ob (fh x) fun b=> .ok (.bool b) H
noncomputable def VM(_:PV)(_:PH):Out PV:= .fail
noncomputable def xG(x y:PV)(H:PH):Out PV:=ob (iO x) fun a=>ob (iO y) fun b=> .ok (.int (if b<a then b else a)) H
noncomputable def zM(x:PV)(H:PH):Out PV:=ob (listAt H x) fun p=>iG p.2 H
noncomputable def AE(x:PV)(H:PH):Out PV:=ob (dictAt H x) fun p=>iG (p.2.1.map (·.2)) H
noncomputable def intsOf:List PV→Option (List Int)
 | []=>some []|x::r=>(iO x).bind fun a=>(intsOf r).map fun l=>a::l
noncomputable def distinct(ns:List Int):Nat:=(ns.foldl PY []).length
noncomputable def zT(x:PV)(H:PH):Out PV:=ob (dictAt H x) fun p=>ob (intsOf (p.2.1.map (·.2))) fun ns=>cB (decide (ns.length≤100)) (.ok (.int (distinct ns)) H)
noncomputable def Kg(sep x:PV)(H:PH):Out PV:=ob (mY sep) fun s=>ob (listAt H x) fun p=>ob (AC p.2) fun q=>ob (mY q.1) fun a=>ob (mY q.2) fun b=>cB (s.length==0&&decide (a.length+b.length≤aJ)) (.ok (.str (a++b)) H)
noncomputable def Ca(x v:PV)(H:PH):Out PV:=ob (listAt H x) fun p=>cB (decide (p.2.length<aJ)) (.ok .none (H.set p.1 (.list (p.2++[v]))))
noncomputable def VG(H:PH)(r:Nat)(v:PV):Option (List PV):=match v with
 | .tup m=>some m| .ref k=>(listAt H (.ref k)).bind fun q=>match k==r with
  |true=>none|false=>some q.2
 |_=>none
noncomputable def Fi(x v:PV)(H:PH):Out PV:=ob (listAt H x) fun p=>ob (VG H p.1 v) fun m=>cB (decide (p.2.length+m.length≤aJ)) (.ok .none (H.set p.1 (.list (p.2++m))))
noncomputable def Oc(x:PV)(H:PH):Out PV:=ob (listAt H x) fun p=>cB (decide (p.2.length≤aJ)) (ob p.2.getLast? fun v=> .ok v (H.set p.1 (.list p.2.dropLast)))
noncomputable def Dq(x v:PV)(H:PH):Out PV:=ob (listAt H x) fun p=>ob (iO v) fun a=>ob (intsOf p.2) fun ns=> .ok (.int (ns.count a)) H
noncomputable def uF(H:PH)(x:PV):Option (Nat×cA):=(dictAt H x).bind fun p=>match p.2.2 with
 |true=>none|false=>some (p.1,p.2.1)
noncomputable def plainKey(k:PV):Option PK:=(keyOf k).bind fun k=>match k with
 | .tup _=>none|k=>some k
noncomputable def Eg(x k:PV)(H:PH):Out PV:=ob (uF H x) fun p=>ob (keyOf k) fun k=>cB (cZ p.2 k&&decide (p.2.length≤aJ)) (ob (bZ p.2 k) fun v=> .ok v (H.set p.1 (.dict (iD p.2 k) false)))
noncomputable def getOp(x k:PV)(H:PH):Out PV:=ob (dictAt H x) fun p=>ob (plainKey k) fun k=>cB (cZ p.2.1 k) (.ok ((bZ p.2.1 k).getD .none) H)
noncomputable def Pm(x k v:PV)(H:PH):Out PV:=ob (uF H x) fun p=>ob (plainKey k) fun k=>cB (cZ p.2 k&&decide (p.2.length<aJ)) (match bZ p.2 k with
 |some u=> .ok u H|none=> .ok v (H.set p.1 (.dict (bT p.2 k v) false)))
theorem TF{H:PH}{x:PV}{p:Nat×cA}(h:uF H x=some p):x= .ref p.1∧H[p.1]?=some (.dict p.2 false):=by
 obtain⟨⟨r,es,lk⟩,e1,e2⟩:=JR.mp h
 induction lk using Bool.casesOn with
 |true=>injection e2|false=>injection e2 with e2;subst e2;exact sJ e1
theorem KV{H:PH}{r:Nat}{es:cA}(h:H[r]?=some (.dict es false)):uF H (.ref r)=some (r,es):=by unfold uF;rw[sK h];rfl
theorem tj{k:PV}{j:PK}(h:plainKey k=some j):keyOf k=some j∧∀l,j≠ .tup l:=by
 obtain⟨i,e1,e2⟩:=JR.mp h
 induction i using PK.casesOn with
 |tup l=>injection e2|_=>injection e2 with e2;subst e2;exact⟨e1,fun l q=>by injection q⟩
inductive Kd where
 |list|dict|str
noncomputable def GV(k:Kd)(x:PV)(H:PH):Bool:=match k with
 | .list=>(listAt H x).isSome| .dict=>(dictAt H x).isSome| .str=>(mY x).isSome
inductive BM where
 |qD|append|extend|count|get|pN|join|rM
noncomputable def BM.kd:BM→Kd
 | .qD=> .list| .append=> .list| .extend=> .list| .count=> .list| .get=> .dict| .pN=> .dict| .join=> .str| .rM=> .dict
noncomputable def BM.run(b:BM)(x:PV)(vs:List PV)(H:PH):Out PV:=match b with
 | .qD=>ob (Mr vs) fun _=>Oc x H
 | .append=>ob (oneOf vs) fun v=>Ca x v H
 | .extend=>ob (oneOf vs) fun v=>Fi x v H
 | .count=>ob (oneOf vs) fun v=>Dq x v H
 | .get=>ob (oneOf vs) fun v=>getOp x v H
 | .pN=>ob (oneOf vs) fun v=>Eg x v H
 | .join=>ob (oneOf vs) fun v=>Kg x v H
 | .rM=>ob (AC vs) fun p=>Pm x p.1 p.2 H
noncomputable def hV(b:BM)(o:D)(as:Ds):D:=fun C fr H=>(o C fr H).bind fun x H=>cB (GV b.kd x H) ((as C fr H).bind fun vs H=>b.run x vs H)
noncomputable def KP{α:Type}:PySem.W.KasT α→(Nat→Nat→Bool)→α
 | .ret a,_=>a| .ask i j k,lt=>KP (k (lt i j)) lt
noncomputable def mQ(n:Nat)(lt:Nat→Nat→Bool):List Nat:=if n<2 then fP n else(KP (PySem.W.kas_sort n) lt).toList
noncomputable def HW:PV→Option (Str×Int)
 | .tup l=>(AC l).bind fun p=>(mY p.1).bind fun s=>(iO p.2).map fun n=>(s,n)
 |_=>none
theorem sr{x:PV}{p:Str×Int}(h:HW x=some p):x= .tup [.str p.1,.int p.2]:=by
 induction x using PV.casesOn with
 |tup l=>
  obtain⟨⟨a,b⟩,e1,h⟩:=JR.mp h;obtain⟨s,e2,h⟩:=JR.mp h;obtain⟨n,e3,h⟩:=lO.mp h;subst h;rw[DM e1];dsimp only at e2 e3⊢;rw[pJ e2,iV e3]
 |_=>injection h
noncomputable def ltV(x y:PV):Bool:=match x with
 | .int a=>(iO y).any fun b=>decide (a<b)
 | .str a=>(mY y).any fun b=>strLt a b
 |x=>(HW x).any fun p=>(HW y).any fun q=>decide (p.2<q.2)
noncomputable def UH(s:Str)(x:PV):Bool:=(HW x).any fun p=>decide (p.1=s)
noncomputable def pZ(x:PV):Bool:=(iO x).isSome
noncomputable def Ju(x:PV):Bool:=(mY x).isSome
noncomputable def sortable(l:List PV):Bool:=l.all pZ||l.all Ju||(l.head?.any fun x=>(HW x).any fun p=>l.all (UH p.1))
noncomputable def gN(l:List PV):List PV:=(mQ l.length fun i j=>ltV (l.getD i .none) (l.getD j .none)).map fun i=>l.getD i .none
noncomputable def XI(H:PH)(x:PV):Option (List PV):=lX H x fun _ o=>match o with
 | .list l=>some l| .dict es _=>some (es.map fun e=>e.1.val)|_=>none
noncomputable def DI(x:PV)(H:PH):Out PV:=ob (XI H x) fun l=>cB (sortable l&&decide (l.length<64)) (iG (gN l) H)
inductive It where
 |seq (l:List PV)|live (r:Nat)|keys (r:Nat) (ks:List PV)
noncomputable def uR(x:PV)(H:PH):Option It:=match x with
 | .tup l=>some (.seq l)| .ref r=>(match H[r]? with
  |some (.list _)=>some (.live r)|some (.dict es _)=>some (.keys r (es.map fun e=>e.1.val))|_=>none)
 |_=>none
noncomputable def gR(it:It)(i:Nat)(H:PH):Option (Option PV):=match it with
 | .seq l=>some (l[i]?)| .live r=>(listAt H (.ref r)).map fun q=>q.2[i]?
 | .keys _ ks=>some (ks[i]?)
noncomputable def DE(n:Int):It:= .seq ((fP n.toNat).map fun(i:Nat)=>PV.int (i:Int))
noncomputable def rE:Nat:=9000
noncomputable def calm{α:Type}(o:Out α):Out α:=match o with
 | .exc .. => .fail|o=>o
noncomputable def gA(it:It)(elt:PV→PH→Out PV):Nat→Nat→List PV→PH→Out (List PV)
 |0,_,_,_=> .fail|k+1,i,acc,H=>match gR it i H with
  |none=> .fail|some none=> .ok acc H|some (some v)=>if acc.length<aJ then(elt v H).bind fun y H=>gA it elt k (i+1) (acc++[y]) H else .fail
noncomputable def nS(fr:aW):List (Nat×Nat)→aW→aW
 | [],g=>g|(i,j)::r,g=>nS fr r (g.set i ((fr[j]?).getD none))
noncomputable def qY(fr:aW)(size iv:Nat)(links:List (Nat×Nat))(v:PV):aW:=(nS fr links (cU size none)).set iv (some v)
noncomputable def It.nX:It→Bool
 | .keys .. =>true|_=>false
noncomputable def nI(src:dI→aW→PH→Out It)(size iv:Nat)(links:List (Nat×Nat))(elt:D):D:=fun C fr H=>(src C fr H).bind fun it H=>
 cB (!it.nX) ((calm (gA it (fun v H=>elt C (qY fr size iv links v) H) rE 0 [] H)).bind fun vs H=> .ok (.ref H.length) (H++[.list vs]))
noncomputable def lF(d:D):dI→aW→PH→Out It:=fun C fr H=>(d C fr H).bind fun x H=>ob (uR x H) fun it=> .ok it H
noncomputable def rN(d:D):dI→aW→PH→Out It:=fun C fr H=>(d C fr H).bind fun x H=>ob (iO x) fun n=>cB (decide (0≤n∧n≤aJ)) (.ok (DE n) H)
noncomputable def sW(b:Expr)(sc:Scope)(links:List (Nat×Nat)):D:=fun _ fr H=> .ok (.ref H.length) (H++[.lam b sc (nS fr links (cU sc.names.length none))])
noncomputable def aK:DS:=fun _ fr H=> .ok (.next,fr) H
noncomputable def aI(a b:DS):DS:=fun C fr H=>(a C fr H).bind fun r H=>match r with
 |(.next,fr)=>b C fr H|(.ret v,fr)=> .ok (.ret v,fr) H
inductive Tg where
 |loc (i:Nat)|fS (i:Nat)
noncomputable def UE(n:Nat):PO→Option Nat
 | .cell _=>some n|_=>none
noncomputable def putAt(t:Tg)(v:PV)(fr:aW)(H:PH):Out aW:=match t with
 | .loc i=>cB (decide (i<fr.length)) (.ok (fr.set i (some v)) H)| .fS i=>ob (CP fr i) fun x=>ob (lX H x UE) fun n=> .ok fr (H.set n (.cell (some v)))
noncomputable def putAll:List Tg→List PV→aW→PH→Out aW
 | [],[],fr,H=> .ok fr H|t::ts,v::vs,fr,H=>(putAt t v fr H).bind fun fr H=>putAll ts vs fr H
 |_,_,_,_=> .fail
noncomputable def cW(t:Tg)(d:D):DS:=fun C fr H=>(d C fr H).bind fun v H=>(putAt t v fr H).bind fun fr H=> .ok (.next,fr) H
noncomputable def DG(x:PV)(H:PH):Option (List PV):=(vY x).or ((listAt H x).map (·.2))
noncomputable def jQ(ts:List Tg)(d:D):DS:=fun C fr H=>(d C fr H).bind fun x H=>ob (DG x H) fun l=>cB (decide (l.length=ts.length)) ((putAll ts l fr H).bind fun fr H=> .ok (.next,fr) H)
noncomputable def nsSet:List (Nat×PV)→Nat→PV→List (Nat×PV)
 | [],n,v=>[(n,v)]|(m,u)::r,n,v=>if m=n then(m,v)::r else(m,u)::nsSet r n v
noncomputable def NJ(o:PV)(n:Nat)(v:PV)(H:PH):Out Unit:=ob (lX H o Jg) fun d=>ob (HJ H d) fun es=>cB (decide (es.length≤900)) (.ok () (H.set d (.ns (nsSet es n v))))
noncomputable def jD(o:D)(n:Nat)(d:D):DS:=fun C fr H=>(d C fr H).bind fun v H=>(o C fr H).bind fun x H=>(NJ x n v H).bind fun _ H=> .ok (.next,fr) H
noncomputable def xy(o i v:PV)(H:PH):Option PH:=(listAt H o).bind fun q=>(iO i).bind fun k=>og (decide (0≤k∧k<q.2.length∧q.2.length≤aJ)) (H.set q.1 (.list (q.2.set k.toNat v)))
noncomputable def xt(o i v:PV)(H:PH):Option PH:=(uF H o).bind fun q=>(keyOf i).bind fun k=>og (cZ q.2 k&&decide (q.2.length<aJ)) (H.set q.1 (.dict (bT q.2 k v) false))
noncomputable def DH(o i v:PV)(H:PH):Out Unit:=ob ((xy o i v H).or (xt o i v H)) (.ok ())
noncomputable def mN(o i:D)(d:D):DS:=fun C fr H=>(d C fr H).bind fun v H=>(o C fr H).bind fun x H=>(i C fr H).bind fun y H=>(DH x y v H).bind fun _ H=> .ok (.next,fr) H
noncomputable def eN(d:D):DS:=fun C fr H=>(d C fr H).bind fun _ H=> .ok (.next,fr) H
noncomputable def bJ(d:D):DS:=fun C fr H=>(d C fr H).bind fun v H=> .ok (.ret v,fr) H
noncomputable def bR(t:DT)(a b:DS):DS:=fun C fr H=>(t C fr H).bind fun x H=>match x with
 |true=>a C fr H|false=>b C fr H
noncomputable def tF(t:aW→PH→Out Bool)(b:aW→PH→Out (cO×aW)):Nat→aW→PH→Out (cO×aW)
 |0,_,_=> .fail|k+1,fr,H=>(t fr H).bind fun x H=>match x with
  |true=>(b fr H).bind fun r H=>match r with
   |(.next,fr)=>tF t b k fr H|(.ret v,fr)=> .ok (.ret v,fr) H
  |false=> .ok (.next,fr) H
noncomputable def DF(t:DT)(b:DS):DS:=fun C fr H=>calm (tF (t C) (b C) rE fr H)
noncomputable def gI(it:It)(put:PV→aW→PH→Out aW)(b:aW→PH→Out (cO×aW)):Nat→Nat→aW→PH→Out (cO×aW)
 |0,_,_,_=> .fail|k+1,i,fr,H=>match gR it i H with
  |none=> .fail|some none=> .ok (.next,fr) H|some (some v)=>(put v fr H).bind fun fr H=>(b fr H).bind fun r H=>match r with
   |(.next,fr)=>gI it put b k (i+1) fr H|(.ret v,fr)=> .ok (.ret v,fr) H
noncomputable def jJ(t:Tg):PV→aW→PH→Out aW:=fun v fr H=>putAt t v fr H
noncomputable def MX(ts:List Tg):PV→aW→PH→Out aW:=fun v fr H=>ob (vY v) fun l=>cB (decide (l.length=ts.length)) (putAll ts l fr H)
noncomputable def rD(it:It)(H:PH):Option PH:=match it with
 | .keys r _=>(match H[r]? with
  |some (.dict es false)=>some (H.set r (.dict es true))|_=>none)
 |_=>some H
noncomputable def nT(it:It)(H:PH):PH:=match it with
 | .keys r _=>(match H[r]? with
  |some (.dict es true)=>H.set r (.dict es false)|_=>H)
 |_=>H
noncomputable def kE(put:PV→aW→PH→Out aW)(src:dI→aW→PH→Out It)(b:DS):DS:=fun C fr H=>(src C fr H).bind fun it H=>ob (rD it H) fun H=>(calm (gI it put (b C) rE 0 fr H)).bind fun r H=> .ok r (nT it H)
noncomputable def mA(c:Addr)(n:Nat)(d:D):DS:=fun C fr H=>(d C fr H).bind fun v H=> .exc c H.length (H++[.ns [(n,v)]])
noncomputable def Out.hand{α:Type}(o:Out α)(f:Addr→Nat→PH→Out α):Out α:=match o with
 | .exc c k H=>f c k H|o=>o
noncomputable def Hi(c:Addr)(as_:Option Nat)(d:D)(C:dI)(fr:aW)(c':Addr)(k:Nat)(H:PH):Out (cO×aW):=cB (decide (c'=c)) (match as_ with
 |some i=>cB (decide (i<fr.length)) ((calm (d C (fr.set i (some (.ref H.length))) (H++[.exc c k]))).bind fun v H=> .ok (.ret v,fr.set i none) H)|none=>(calm (d C fr H)).bind fun v H=> .ok (.ret v,fr) H)
noncomputable def qJ(b:DS)(c:Addr)(as_:Option Nat)(d:D):DS:=fun C fr H=>(b C fr H).hand (Hi c as_ d C fr)
structure Sc where
 names:List (Str×dK)
 glob:Str→Option PV
 attr:Str→Option Nat
 xF:Str→Option (Addr×Addr)
 lam:Bool
 exc:Addr→Bool
noncomputable def tA:List (Str×dK)→Str→Nat→Option (Nat×dK)
 | [],_,_=>none|(y,k)::r,x,i=>if x=y then some (i,k)else tA r x (i+1)
noncomputable def jG(x:Str)(s:String):Bool:=x=aA s
noncomputable def Sc.slot(S:Sc)(x:Str):Option (Nat×dK):=if jG x "__debug__"||jG x "__classdict__" then none else tA S.names x 0
noncomputable def wE(S:Sc)(x:Str):Option D:=match S.slot x with
 |some (i,.local)=>some (aD i)|some (i,.cell)=>some (cL i)|some (i,.free)=>some (cL i)|some (_,aY)=>(match S.glob x with
  |some v=>some (aB v)|none=>none)
 |_=>none
noncomputable def FN:Const→Option D
 | .none=>some (aB .none)| .bool b=>some (aB (.bool b))| .int i=>some (aB (.int i))| .str s=>some (aB (.str s))|_=>none
noncomputable def isStar:Expr→Bool
 | .Starred .. =>true|_=>false
noncomputable def sS:Expr→Bool
 | .Call (.Name _ _) [] [] _=>true|_=>false
noncomputable def RG:List (BM×String):=[(.append,"append"),(.extend,"extend"),(.count,"count"),(.get,"get"),(.pN,"pop"),(.join,"join"),(.rM,"setdefault")]
noncomputable def KA(m:Str)(n:Nat):Option BM:=match jG m "pop"&&decide (n=0)with
 |true=>some .qD|false=>(RG.find? fun p=>jG m p.2).map (·.1)
noncomputable def Dg:Option (Nat×dK)→Option Nat
 |some (j,.cell)=>some j|_=>none
noncomputable def Li(k:dK)(j:Option Nat)(i:Nat)(l:List (Nat×Nat)):Option (List (Nat×Nat)):=match k with
 | .free=>j.map fun j=>(i,j)::l
 | .local=>some l|aY=>some l|_=>none
noncomputable def nY(S:Sc):List (Str×dK)→Nat→Option (List (Nat×Nat))
 | [],_=>some []|y::r,i=>(nY S r (i+1)).bind fun l=>Li y.2 (Dg (S.slot y.1)) i l
noncomputable def iQ:List (Str×dK)→Bool
 | []=>true|(x,_)::r=>!(r.any fun y=>decide (y.1=x))&&iQ r
noncomputable def nC(S:Sc)(x:Str):Option Tg:=match S.slot x with
 |some (i,.local)=>some (.loc i)|some (i,.cell)=>some (.fS i)|_=>none
noncomputable def nameOf:Expr→Option Str
 | .Name x _=>some x|_=>none
noncomputable def BF(S:Sc):List Expr→Option (List Tg)
 | []=>some []|e::r=>(nameOf e).bind fun x=>(nC S x).bind fun t=>(BF S r).map (t:: ·)
noncomputable def namesIn(es:List Expr):List Str:=es.filterMap nameOf
noncomputable def FQ:List Str→Bool
 | []=>true|x::r=>!(r.any fun y=>decide (y=x))&&FQ r
noncomputable def pY:Expr→Bool
 | .ListComp .. =>true| .SetComp .. =>true| .DictComp .. =>true|_=>false
noncomputable def IR:Expr→Bool
 | .Tuple vs _ _=>!(vs.all (constantsAlone 8))&&!(vs.any isStar)| .List .. =>false|e=>!pY e
structure Fn where
 names:List (Str×dK)
 vF:List Tg
 body:DS
noncomputable def isCellK:dK→Bool
 | .cell=>true|_=>false
noncomputable def kM:List (Str×dK)→PH→aW×PH
 | [],H=>([],H)|y::r,H=>match isCellK y.2 with
  |true=>(some (.ref H.length)::(kM r (H++[.cell none])).1,(kM r (H++[.cell none])).2)|false=>(none::(kM r H).1,(kM r H).2)
noncomputable def WV:cO→PV
 | .ret v=>v| .next=> .none
noncomputable def jC(F:Fn)(C:dI)(as:List PV)(H:PH):Out PV:=
 (putAll F.vF as (kM F.names H).1 (kM F.names H).2).bind fun fr H=>(F.body C fr H).bind fun r H=> .ok (WV r.1) H
noncomputable def BE(S:Sc):List Str→Option (List Tg)
 | []=>some []|x::r=>(nC S x).bind fun t=>(BE S r).map (t:: ·)
structure Mod where
 fn:Addr→Option Fn
 sm:Addr→Option Fn
 cls:Addr→Option (Option Addr)
 sc:Sc
 sT:Sc→Expr→Option D
noncomputable def Mm{α:Type}:List α→Option Unit
 | []=>some ()|_=>none
noncomputable def KD(P:Mod)(C:dI)(a:Addr)(as:List PV)(H:PH):Out PV:=ob (P.cls a) fun o=>ob o fun i=>
 (C (.aE (.ref i)) (.ref (H.length+1)::as) (H++[.ns [],.inst a H.length])).bind fun v H'=>ob (BB v) fun _=> .ok (.ref (H.length+1)) H'
noncomputable def Cd:PV→Option Nat
 | .ref r=>some r|_=>none
noncomputable def NW(H:PH)(x:PV):Option (Nat×Nat×List PV×Int):=(listAt H x).bind fun p=>(AC p.2).bind fun ab=>(listAt H ab.1).bind fun n=>(iO ab.2).bind fun k=>og (n.2.all pZ&&decide (n.1≠p.1)) (p.1,n.1,n.2,k)
noncomputable def IT(H:PH):Option (List PV×Int):=(listAt H (.ref 0)).bind fun n=>(listAt H (.ref 1)).bind fun p=>(AC p.2).bind fun ab=>(Cd ab.1).bind fun z=>(iO ab.2).bind fun k=>og (n.2.all pZ&&decide (z=0)) (n.2,k)
noncomputable def IG(run:List PV→PH→Out PV)(H:PH)(t:Nat×Nat×List PV×Int):Out PV:=(calm (run [.ref 1] [.list t.2.2.1,.list [.ref 0,.int t.2.2.2]])).bind fun v H'=>ob (EU v) fun b=>ob (IT H') fun e=> .ok (.bool b) ((H.set t.2.1 (.list e.1)).set t.1 (.list [.ref t.2.1,.int e.2]))
noncomputable def RL(F:Fn)(C:dI)(as:List PV)(H:PH):Out PV:=ob (oneOf as) fun x=>ob (NW H x) fun t=>IG (jC F C) H t
noncomputable def RK(P:Mod)(C:dI)(a:Addr)(as:List PV)(H:PH):Out PV:=match P.fn a with
 |some F=>jC F C as H|none=>(match P.sm a with
  |some F=>RL F C as H|none=>KD P C a as H)
noncomputable def io(_:Nat):PO→Option (Expr×Scope×aW)
 | .lam b sc fr=>some (b,sc,fr)|_=>none
noncomputable def KE(P:Mod)(C:dI)(f:PV)(as:List PV)(H:PH):Out PV:=ob (Mm as) fun _=>ob (lX H f io) fun q=>cB (iQ q.2.1.names) (ob (P.sT {P.sc with names:=q.2.1.names} q.1) fun d=>d C q.2.2 H)
noncomputable def GT:PV→Option Addr
 | .aE (.ref a)=>some a|_=>none
noncomputable def aG(P:Mod):Nat→dI
 |0,_,_,_=> .fail|n+1,f,as,H=>match GT f with
  |some a=>RK P (aG P n) a as H|none=>KE P (aG P n) f as H
end
end
end
noncomputable section
open PySem PySem.W PySem.Calls PyProof.Rows
section
inductive L2{α β:Type}(R:α→β→Prop):List α→List β→Prop
 |nil:L2 R [] []|cons {a:α} {b:β} {l:List α} {m:List β} (h:R a b) (t:L2 R l m):L2 R (a::l) (b::m)
section
variable{α β γ δ:Type}{R:α→β→Prop}{R':γ→δ→Prop}{l l':List α}{m m':List β}{P:Prop}{a:α}{b:β}
theorem L2.length(x:L2 R l m):m.length=l.length:=by
 induction x with
 |nil=>rfl|cons h t ih=>exact bN (· +1) ih
theorem L2.append(x:L2 R l m)(y:L2 R l' m'):L2 R (l++l') (m++m'):=by
 induction x with
 |nil=>exact y|cons h t ih=>exact .cons h ih
theorem L2.map{f:α→γ}{k:β→δ}(x:L2 R l m)(h: ∀a b,R a b→R' (f a) (k b)):L2 R' (l.map f) (m.map k):=by
 induction x with
 |nil=>exact .nil|cons r t ih=>exact .cons (h _ _ r) ih
theorem L2.imp{R':α→β→Prop}(x:L2 R l m)(h: ∀a b,R a b→R' a b):L2 R' l m:=by
 induction x with
 |nil=>exact .nil|cons r t ih=>exact .cons (h _ _ r) ih
theorem L2.eqs{f:α→γ}{k:β→γ}(x:L2 R l m)(h: ∀a b,R a b→f a=k b):l.map f=m.map k:=by
 induction x with
 |nil=>rfl|cons r t ih=>rw[dU,dU,h _ _ r,ih]
theorem L2.filter{p:α→Bool}{q:β→Bool}(x:L2 R l m)(h: ∀a b,R a b→p a=q b):L2 R (l.filter p) (m.filter q):=by
 induction x with
 |nil=>exact .nil| @cons a b l m r t ih=>
  rw[Uh,Uh,h a b r];cases q b with
  |true=>exact .cons r ih|false=>exact ih
theorem L2.find{p:α→Bool}{q:β→Bool}(x:L2 R l m)(h: ∀a b,R a b→p a=q b)(kn:l.find? p=none→m.find? q=none→P)(ks: ∀a b,l.find? p=some a→m.find? q=some b→R a b→P):P:=by
 induction x with
 |nil=>exact kn rfl rfl| @cons a b l m r t ih=>
  rw[jU,jU,h a b r]at kn;cases e:q b with
  |true=>exact ks a b (by rw[jU,h a b r,e]) (by rw[jU,e]) r|false=>
   rw[e]at kn;exact ih kn fun c d h1 h2=>ks c d (by rw[jU,h a b r,e];exact h1) (by rw[jU,e];exact h2)
theorem L2.mem(x:L2 R l m)(e:b∈m)(k: ∀a,a∈l→R a b→P):P:=by
 induction x with
 |nil=>exact nomatch e|cons r t ih=>
  cases e with
  |head=>exact k _ (.head _) r|tail _ e=>exact ih e fun a h=>k a (.tail _ h)
end
noncomputable def PA.is:PA→aF→Bool
 | .int i,v=>aF.isInt i v| .str s,v=>aF.isStrOf s v
noncomputable def PA.hash(w:World):PA→Int
 | .int i=>hashInt i| .str s=>hashStr w s
theorem PA.wW{k:PA}{v:aF}(h:k.is v=true):(∃i t,k= .int i∧v= .int i t)∨∃s t,k= .str s∧v= .str s t:=by
 induction k using PA.casesOn with
 |int i=>obtain⟨t,e⟩:=aF.isInt_shape h;exact .inl ⟨i,t,rfl,e⟩|str s=>obtain⟨t,e⟩:=aF.isStrOf_shape h;exact .inr ⟨s,t,rfl,e⟩
noncomputable def kD(prog:Program)(w:World):KeyKind prog w PA where
 is:=PA.is
 hash:=PA.hash w
 inj:=fun v a b ha hb=>by
  rcases PA.wW ha with⟨i,t,rfl,rfl⟩|⟨s,t,rfl,rfl⟩<;>rcases PA.wW hb with⟨j,u,rfl,e⟩|⟨j,u,rfl,e⟩<;>cases e<;>rfl
 byValue:=fun k v h=>by
  rcases PA.wW h with⟨i,t,rfl,rfl⟩|⟨s,t,rfl,rfl⟩<;>rfl
 pyHash:=fun hv h=>by
  rcases PA.wW hv with⟨i,t,rfl,rfl⟩|⟨s,t,rfl,rfl⟩
  ·exact wpAny_pyHash_int h
  ·exact wpAny_pyHash_str h
 eqBool:=fun hu hv h=>by
  rcases PA.wW hu with⟨i,t,rfl,rfl⟩|⟨i,t,rfl,rfl⟩<;>rcases PA.wW hv with⟨j,u,rfl,rfl⟩|⟨j,u,rfl,rfl⟩
  ·refine aBM ?_
   have e:(i==j)=decide (PA.int i=PA.int j):=by by_cases q:i=j<;>simp[q]
   rw[e];exact h
  ·exact Xi _ _ _ _ _ _ _ _ (by simpa using h)
  ·exact Xj _ _ _ _ _ _ _ _ (by simpa using h)
  ·exact aBN (by simpa using h)
 «strs»:=fun k x t v h=>by
  rcases PA.wW h with⟨i,u,rfl,e⟩|⟨s,u,rfl,e⟩
  ·cases e
  ·cases e
   cases v<;>rfl
structure Gl where
 prog:Program
 w:World
 K:Frag
 p:Program
 loose:List Str
 mean:ExcName→Option aF
 mg:Str→Option aF
 mb:Str→Option aF
 base:Heap
 tabs:List (Addr×Addr×Str)
 attrs:List Str
 FW:List Addr
 M:Mod
noncomputable def Gl.jR(g:Gl):List Addr:=g.tabs.map (·.2.1)
noncomputable abbrev fV(vs:List aF)(n:Nat):Obj:={cls:= .type "tuple",data:= .seq vs.toArray n}
noncomputable abbrev cQ(vs:List aF)(n:Nat):Obj:={cls:= .type "list",data:= .seq vs.toArray n}
noncomputable abbrev fJ(ds:List fM)(n:Nat):Obj:={cls:= .type "dict",data:= .dict ds.toArray n}
section
variable(g:Gl)
mutual
noncomputable def dH(h:Heap)(ι:List Addr):PV→aF→Prop
 | .none,v=>v= .none| .bool b,v=>v= .bool b| .int i,v=> ∃t,v= .int i t| .str s,v=> ∃t,v= .str s t| .tup l,v=> ∃a vs n,v= .ref a∧h.get? a=some (fV vs n)∧bE h ι l vs| .ref k,v=> ∃a,ι[k]?=some a∧v= .ref a| .aE x,v=>v=x| .fl l,v=> ∃a vs,v= .ref a∧g.base.IsList a vs.toArray∧bE h ι l vs
noncomputable def bE(h:Heap)(ι:List Addr):List PV→List aF→Prop
 | [],vs=>vs=[]|p::ps,vs=> ∃v r,vs=v::r∧dH h ι p v∧bE h ι ps r
end
noncomputable def TL:PK→Int
 | .int i=>PA.hash g.w (.int i)| .str s=>PA.hash g.w (.str s)| .tup l=>tupleKeyHash (kD g.prog g.w) l
noncomputable def ZJ(h:Heap)(ι:List Addr)(e:PK×PV)(d:fM):Prop:=d.hash=TL g e.1∧dH g h [] e.1.val d.key∧dH g h ι e.2 d.val
noncomputable abbrev lH(h:Heap)(ι:List Addr):cA→List fM→Prop:=L2 (ZJ g h ι)
noncomputable def Bh(h:Heap)(ι:List Addr)(e:Nat×PV)(d:fM):Prop:=(∃x t,g.attrs[e.1]?=some x∧d.key= .str x t)∧dH g h ι e.2 d.val
noncomputable abbrev nO(h:Heap)(ι:List Addr):List (Nat×PV)→List fM→Prop:=L2 (Bh g h ι)
noncomputable def EL(h:Heap)(ι:List Addr):Option PV→Option aF→Prop
 |none,_=>True|some p,v=> ∃u,v=some u∧dH g h ι p u
noncomputable def CI:List aF:=[.type "list_iterator",.type "tuple_iterator",.type "range_iterator",.type "dict_keyiterator"]
noncomputable def rC:Option aF→Bool
 |some (.str _ _)=>true|_=>false
noncomputable def SJ:aF→Bool
 | .ref _=>true| .type n=>n== "traceback"|_=>false
noncomputable def CF(o:Obj):Bool:=match o.data with
 | .fields vs=>(CI.contains o.cls||SJ o.cls)&&!rC vs[1]?|_=>false
noncomputable def mR(o:Obj):Bool:=match o.data with
 | .fields vs=>!((CI.contains o.cls||SJ o.cls)&&!rC vs[1]?)| .dict .. =>false| .cell _=>false| .seq .. =>o.cls== .type "tuple"|_=>true
noncomputable def oY(h:Heap)(cv:aF)(q:Str):Prop:= ∃c o vs t,cv= .ref c∧c∉g.jR∧h.get? c=some o∧o.data= .fields vs∧vs[1]?=some (.str q t)
noncomputable def DX(ι:List Addr)(names:List (Str×dK))(fr:aW)(oM:List (Str×Addr)):Prop:=
 (∀(i:Nat) (x:Str) (n:Nat),names[i]?=some (x,gS)→fr[i]?=some (some (.ref n))→∃c:Addr,oM.lookup x=some c∧ι[n]?=some c)∧∀(i:Nat) (x:Str) (p:PV),names[i]?=some (x,aU)→fr[i]?≠some (some p)
noncomputable def DR(c:Addr):Prop:=(hasDictIn g.K c=true∧plainOver g.K c=true∧findIn g.K (.ref c) "__setattr__"=some (some (.builtin "object.__setattr__")))∧∀(k:Nat) (x:Str),g.attrs[k]?=some x→plainGet g.K c x=true∧findIn g.K (.ref c) x=some none
noncomputable def tJ(c:Addr):Prop:=(hasDictIn g.K c=true∧findIn g.K (.ref c) "__getattribute__"=some (some (.builtin "BaseException.__getattribute__"))∧findIn g.K (.ref c) "__getattr__"=some none∧mroIn g.K c (.type "BaseException")=some true)∧∀(k:Nat) (x:Str),g.attrs[k]?=some x→findIn g.K (.ref c) x=some none
noncomputable def fO(h:Heap)(ι:List Addr):PO→Obj→Prop
 | .list l,o=> ∃vs n,o=cQ vs n∧bE g h ι l vs| .dict es _,o=> ∃ds n,o=fJ ds n∧lH g h ι es ds∧(es.map (·.1)).Nodup| .inst c d,o=> ∃dx,ι[d]?=some dx∧o=instObj c dx∧DR g c| .ns es,o=> ∃ds n,o=dictOf ds n∧nO g h ι es ds∧(es.map (·.1)).Nodup| .cell v,o=> ∃v',o.data= .cell v'∧EL g h ι v v'| .lam b sc fr,o=> ∃q oM c lR,o=kla_obj (aA "<lambda>") q ⟨[],[],none,[],[],none,[]⟩ b sc oM ((g.mg "__name__").getD .none) c lR∧oY g h (.ref c) q∧DX ι sc.names fr oM∧
   sc.kind= .function∧sc.isGenerator=false∧sc.isCoroutine=false∧(∀x∈sc.names,x.2≠ .cell)
 | .exc c d,o=> ∃dx vs,ι[d]?=some dx∧o.cls= .ref c∧o.dict=some dx∧o.data= .fields vs∧tJ g c
structure bY where
 l:List (Addr×(Str→Option aF))
 bU:List (Addr×Obj)
noncomputable def bY.on(n:bY)(L:Addr)(m:Str→Option aF):bY:=⟨(L,m)::n.l,n.bU⟩
noncomputable def bY.lock(n:bY)(a:Addr)(o:Obj):bY:=⟨n.l,(a,o)::n.bU⟩
structure Cx(h:Heap)(nss:bY)(ι:List Addr)(H:PH):Prop where
 stays:g.base.StaysIn h
 ns: ∀p∈nss.l,h.Ns p.1 p.2
 iU: ∀p∈nss.l,g.base.objs.size≤p.1
 jA:(nss.l.map (·.1)).Nodup
 len:ι.length=H.length
 kU:ι.Nodup
 dis: ∀a∈ι,a∉nss.l.map (·.1)∧a∉g.jR∧g.base.objs.size≤a
 mP: ∃o,g.base.get? (g.base.objs.size-1)=some o
 bU: ∀p∈nss.bU,h.get? p.1=some p.2∧((∃(i:Nat) (es:cA),ι[i]?=some p.1∧H[i]?=some (.dict es true))∨p.1∉ι∧p.1∉nss.l.map (·.1)∧p.1∉g.jR)
 obj: ∀(i:Nat) (po:PO),H[i]?=some po→∃a o,ι[i]?=some a∧h.get? a=some o∧fO g h ι po o
 tab: ∀t∈g.tabs,∃ps,h.get? t.2.1=some (tabObj ps)∧TriplesOk ps.toList∧(∀pos cv,codeAmong pos ps.toList=some cv→oY g h cv t.2.2)
structure Gl.Ok:Prop where
 X:g.K.In g.base
 T:Top g.p g.loose g.mean g.mg g.mb g.base
 tabs: ∀t∈g.tabs,t.2.1<g.base.objs.size∧g.base.get? t.2.1=none∧CodeHd g.base t.1 t.2.1
 ny:g.jR.Nodup
structure eA(h h':Heap):Prop where
 keep: ∀a o,h.get? a=some o→mR o=true→a∉g.jR→h'.get? a=some o
theorem eA.refl(h:Heap):eA g h h:=⟨fun _ _ e _ _=>e⟩
variable{g}
theorem eA.trans{h h₁ h₂:Heap}(x:eA g h h₁)(y:eA g h₁ h₂):eA g h h₂:=
 ⟨fun a o e s t=>y.keep a o (x.keep a o e s t) s t⟩
theorem eA.ext{h h':Heap}(k: ∀b o,h.get? b=some o→h'.get? b=some o):eA g h h':=⟨fun a o e _ _=>k a o e⟩
theorem eA.push(h:Heap)(o:Obj):eA g h (h.push o):= .ext fun _ _ e=>eJ o e
noncomputable def tZ(g:Gl)(h:Heap):Prop:= ∀a∈g.jR,∃ps,h.get? a=some (tabObj ps)
theorem Cx.dZ{h:Heap}{nss:bY}{ι:List Addr}{H:PH}(X:Cx g h nss ι H):tZ g h:=fun a ha=>by
 obtain⟨t,ht,rfl⟩:=dY.mp ha;obtain⟨ps,e,_⟩:=X.tab t ht;exact⟨ps,e⟩
theorem NQ{h h':Heap}(T:tZ g h)(G:eA g h h'){a:Addr}{vs:List aF}{n:Nat}(e:h.get? a=some (fV vs n)):h'.get? a=some (fV vs n):=by
 refine G.keep a _ e rfl fun q=>?_;obtain⟨ps,e'⟩:=T a q;rw[e]at e';cases e'
noncomputable def Pre(ι ι':List Addr):Prop:= ∃l,ι'=ι++l
theorem Pre.refl(ι:List Addr):Pre ι ι:=⟨[],by simp⟩
theorem Pre.trans{a b c:List Addr}(x:Pre a b)(y:Pre b c):Pre a c:=by
 obtain⟨l,rfl⟩:=x;obtain⟨m,rfl⟩:=y;exact⟨l++m,by simp⟩
theorem Pre.get{ι ι':List Addr}(x:Pre ι ι'){k:Nat}{a:Addr}(e:ι[k]?=some a):ι'[k]?=some a:=by
 obtain⟨l,rfl⟩:=x;rw[AV (eF.mp e).1];exact e
theorem Pre.snoc(ι:List Addr)(a:Addr):Pre ι (ι++[a]):=⟨[a],rfl⟩
theorem Pre.nil(ι:List Addr):Pre [] ι:=⟨ι,by simp⟩
mutual
theorem dH.mono{h h':Heap}{ι ι':List Addr}(T:tZ g h)(G:eA g h h')(P:Pre ι ι'): ∀(p:PV) {v:aF},dH g h ι p v→dH g h' ι' p v
 | .none,_,x=>x| .bool _,_,x=>x| .int _,_,x=>x| .str _,_,x=>x| .aE _,_,x=>x| .ref _,_,x=>by
  obtain⟨a,e,r⟩:=x;exact qM a ⟨P.get e,r⟩
 | .tup l,_,x=>by
  refine bQ fun G_ aQ=>?_;obtain⟨a,vs,n,r,e,y⟩:=x;refine aQ ?_;exact qM a ⟨vs,n,r,NQ T G e,bE.mono T G P l y⟩
 | .fl l,_,x=>by
  refine bQ fun G_ aQ=>?_;obtain⟨a,vs,r,e,y⟩:=x;refine aQ ?_;exact qM a ⟨vs,r,e,bE.mono T G P l y⟩
theorem bE.mono{h h':Heap}{ι ι':List Addr}(T:tZ g h)(G:eA g h h')(P:Pre ι ι'): ∀(ps:List PV) {vs:List aF},bE g h ι ps vs→bE g h' ι' ps vs
 | [],_,x=>x|p::ps,_,x=>by
  refine bQ fun G_ aQ=>?_;obtain⟨v,r,e,y,z⟩:=x;refine aQ ?_;exact qM v ⟨r,e,dH.mono T G P p y,bE.mono T G P ps z⟩
end
theorem lH.mono{h h':Heap}{ι ι':List Addr}(T:tZ g h)(G:eA g h h')(P:Pre ι ι')(es:cA){ds:List fM}(x:lH g h ι es ds):lH g h' ι' es ds:=x.imp fun _ _ r=>⟨r.1,dH.mono T G (Pre.refl _) _ r.2.1,dH.mono T G P _ r.2.2⟩
theorem nO.mono{h h':Heap}{ι ι':List Addr}(T:tZ g h)(G:eA g h h')(P:Pre ι ι')(es:List (Nat×PV)){ds:List fM}(x:nO g h ι es ds):nO g h' ι' es ds:=x.imp fun _ _ r=>⟨r.1,dH.mono T G P _ r.2⟩
theorem EL.mono{h h':Heap}{ι ι':List Addr}(T:tZ g h)(G:eA g h h')(P:Pre ι ι'): ∀(p:Option PV) {v:Option aF},EL g h ι p v→EL g h' ι' p v
 |none,_,_=>trivial|some _,_,x=>by
  obtain⟨u,e,y⟩:=x;exact⟨u,e,dH.mono T G P _ y⟩
theorem oY.mono{h h':Heap}(G:eA g h h'){cv:aF}{q:Str}(x:oY g h cv q):oY g h' cv q:=by
 obtain⟨c,o,vs,t,a,b,e,d,f⟩:=x;exact⟨c,o,vs,t,a,b,G.keep c o e (by unfold mR;rw[d];dsimp only;rw[f];exact bN not (NZ _)) b,d,f⟩
theorem oY.vg{h:Heap}{cv:aF}{q:Str}(x:oY g h cv q):h.CodeRec cv q:=
 let⟨c,o,vs,t,a,_,e,d,f⟩:=x;⟨c,o,vs,t,a,e,d,f⟩
theorem DX.mono{ι ι':List Addr}(P:Pre ι ι'){names:List (Str×dK)}{fr:aW}{oM:List (Str×Addr)}(x:DX ι names fr oM):DX ι' names fr oM:=⟨fun i y n e f=>
 let⟨c,b,d⟩:=x.1 i y n e f;⟨c,b,P.get d⟩,x.2⟩
theorem fO.mono{h h':Heap}{ι ι':List Addr}(T:tZ g h)(G:eA g h h')(P:Pre ι ι'): ∀(po:PO) {o:Obj},fO g h ι po o→fO g h' ι' po o
 | .list _,_,x=>let⟨vs,n,e,y⟩:=x;⟨vs,n,e,bE.mono T G P _ y⟩
 | .dict _ _,_,x=>let⟨ds,n,e,y,z⟩:=x;⟨ds,n,e,lH.mono T G P _ y,z⟩
 | .inst _ _,_,x=>let⟨dx,e,y⟩:=x;⟨dx,P.get e,y⟩
 | .ns _,_,x=>let⟨ds,n,e,y,z⟩:=x;⟨ds,n,e,nO.mono T G P _ y,z⟩
 | .cell _,_,x=>let⟨v,e,y⟩:=x;⟨v,e,EL.mono T G P _ y⟩
 | .lam _ _ _,_,x=>let⟨q,oM,c,lR,e,y,z,r⟩:=x;⟨q,oM,c,lR,e,y.mono G,z.mono P,r⟩
 | .exc _ _,_,x=>let⟨dx,vs,e,y⟩:=x;⟨dx,vs,P.get e,y⟩
end
end
section
variable{g:Gl}{h h':Heap}{nss rest:bY}{ι:List Addr}{H:PH}
theorem Pre.len{ι:List Addr}{H:PH}(e:ι.length=H.length)(a:Addr)(o:PO):(ι++[a]).length=(H++[o]).length:=by simp[e]
theorem Cx.at{i:Nat}{po:PO}(X:Cx g h nss ι H)(e:H[i]?=some po): ∃a o,ι[i]?=some a∧h.get? a=some o∧fO g h ι po o:=X.obj i po e
theorem Cx.mem{i:Nat}{a:Addr}(_X:Cx g h nss ι H)(e:ι[i]?=some a):a∈ι:=fD e
theorem Cx.ext(X:Cx g h nss ι H)(k: ∀b o,h.get? b=some o→h'.get? b=some o):Cx g h' nss ι H where
 stays:=fun b o e=>k b o (X.stays b o e)
 ns:=fun p hp=>(X.ns p hp).keeps k
 iU:=X.iU
 jA:=X.jA
 len:=X.len
 kU:=X.kU
 dis:=X.dis
 mP:=X.mP
 bU:=fun p hp=>⟨k _ _ (X.bU p hp).1,(X.bU p hp).2⟩
 obj:=fun i po e=>by
  obtain⟨a,o,ea,eo,r⟩:=X.obj i po e;exact⟨a,o,ea,k _ _ eo,fO.mono X.dZ (.ext k) (Pre.refl _) _ r⟩
 tab:=fun t ht=>by
  obtain⟨ps,e,a,b⟩:=X.tab t ht;exact⟨ps,k _ _ e,a,fun pos cv q=>(b pos cv q).mono (.ext k)⟩
theorem Cx.push(X:Cx g h nss ι H)(o:Obj):Cx g (h.push o) nss ι H:=X.ext fun _ _ e=>eJ o e
theorem Cx.alloc(X:Cx g h nss ι H){a:Addr}{o:Obj}{po:PO}(k: ∀b o,h.get? b=some o→h'.get? b=some o)(ha:h.get? a=none)(zF:g.base.objs.size≤a)(ho:h'.get? a=some o)
  (r:fO g h' (ι++[a]) po o):Cx g h' nss (ι++[a]) (H++[po]):=by
 have hn: ∀b o,h.get? b=some o→b≠a:=fun b o e q=>by rw[q,ha]at e;injection e
 refine {stays:=fun b o e=>k b o (X.stays b o e),ns:=fun p hp=>(X.ns p hp).keeps k,iU:=X.iU,jA:=X.jA,len:=Pre.len X.len a po,kU:=?_,dis:=?_,mP:=X.mP,bU:=fun p hp=>?_,obj:=?_,tab:=?_}
 ·refine qO.mpr ⟨X.kU,by simp,?_⟩
  intro b hb c hc;rw[eZ]at hc;subst hc;obtain⟨i,hi,rfl⟩:=PG.mp hb;obtain⟨a',o',e1,e2,_⟩:=X.obj i (H[i]'(X.len▸hi)) (fZ _);rw[fZ hi]at e1
  (injection e1 with e1;subst e1)
  exact hn _ _ e2
 ·intro b hb
  rcases oG.mp hb with hb|hb
  ·exact X.dis b hb
  ·rw[eZ]at hb
   subst hb;refine⟨fun q=>?_,fun q=>?_,zF⟩
   ·obtain⟨p,hp,e⟩:=dY.mp q
    obtain⟨o',_,_,e',_⟩:=X.ns p hp;exact hn _ _ e' e
   ·obtain⟨ps,e⟩:=X.dZ _ q
    exact hn _ _ e rfl
 ·obtain⟨h1,hh⟩:=X.bU p hp
  refine⟨k _ _ h1,hh.imp (fun⟨i,es,h2,h3⟩=>⟨i,es,(Pre.snoc ι a).get h2,by rw[AV (eF.mp h3).1];exact h3⟩) fun⟨h2,h3⟩=>⟨fun q=>?_,h3⟩⟩;rcases oG.mp q with q|q
  ·exact h2 q
  ·rw[eZ]at q
   exact hn _ _ h1 q
 ·intro i p e
  by_cases hi:i<H.length
  ·rw[AV hi]at e
   obtain⟨b,o',e1,e2,r'⟩:=X.obj i p e;exact⟨b,o',(Pre.snoc ι a).get e1,k _ _ e2,fO.mono X.dZ (.ext k) (Pre.snoc ι a) _ r'⟩
  ·rw[yI (by exact aX 66007515414672 rfl hi)]at e
   have h0:i=H.length:=by
    have:=(eF.mp e).1;simp at this;exact fE (Vg this) (yP.mp hi)
   subst h0;simp at e;subst e;exact⟨a,o,by rw[←X.len];simp,ho,r⟩
 ·intro t ht
  obtain⟨ps,e,a',b⟩:=X.tab t ht;exact⟨ps,k _ _ e,a',fun pos cv q=>(b pos cv q).mono (.ext k)⟩
theorem BQ(h:Heap):h.get? h.objs.size=none:=by
 cases q:h.get? h.objs.size with
 |none=>rfl|some o=>exact absurd (fI q) (EK _)
theorem Cx.size(X:Cx g h nss ι H):g.base.objs.size≤h.objs.size:=by
 obtain⟨o,e⟩:=X.mP;exact Nat.le_of_pred_lt (fI (X.stays _ _ e))
theorem Cm{g:Gl}{a:Addr}(hb:g.base.objs.size≤a):g.base.get? a=none:=by
 cases q:g.base.get? a with
 |none=>rfl|some o=>exact absurd (JQ (fI q) hb) (EK _)
theorem Cx.new(X:Cx g h nss ι H){o:Obj}{po:PO}(hf:o.isFreed=false)(r:fO g (h.push o) (ι++[h.objs.size]) po o):Cx g (h.push o) nss (ι++[h.objs.size]) (H++[po]):=
 X.alloc (fun _ _ e=>eJ o e) (BQ h) X.size (jM h hf) r
noncomputable def PO.mut:PO→Bool
 | .list _=>true| .dict _ lk=>!lk| .ns _=>true| .cell _=>true|_=>false
theorem qh{ι:List Addr}{po:PO}{o:Obj}(hx: ∀c d,po≠ .exc c d)(r:fO g h ι po o):CF o=false:=by
 induction po using PO.casesOn with
 |list l=>obtain⟨vs,n,rfl,_⟩:=r;rfl|dict l b=>obtain⟨vs,n,rfl,_⟩:=r;rfl|ns l=>obtain⟨vs,n,rfl,_⟩:=r;rfl|cell l=>obtain⟨vs,e,_⟩:=r;unfold CF;rw[e]|inst c d=>obtain⟨dx,_,rfl,_⟩:=r;rfl|lam b s f=>obtain⟨q,cl,c,ct,rfl,_⟩:=r;rfl|exc c d=>exact absurd rfl (hx c d)
theorem mh{ι:List Addr}{po:PO}{o:Obj}(m:po.mut=true)(r:fO g h ι po o):mR o=false:=by
 induction po using PO.casesOn with
 |list l=>obtain⟨vs,n,rfl,_⟩:=r;rfl|dict l b=>obtain⟨vs,n,rfl,_⟩:=r;rfl|ns l=>obtain⟨vs,n,rfl,_⟩:=r;rfl|cell l=>obtain⟨vs,e,_⟩:=r;unfold mR;rw[e]|inst c d=>injection m|lam b s f=>injection m|exc c d=>injection m
theorem Cx.upd(X:Cx g h nss ι H){i:Nat}{a:Addr}{po po':PO}{o':Obj}(e:H[i]?=some po)(ea:ι[i]?=some a)(m:po.mut=true)(hs:tK a h h')(ho:h'.get? a=some o')
  (r:fO g h ι po' o'):Cx g h' nss ι (H.set i po')∧eA g h h':=by
 obtain⟨a',o,e1,eo,r0⟩:=X.obj i po e;rw[ea]at e1;(injection e1 with e1;subst e1);have un:=mh m r0;have G:eA g h h':=by
  refine⟨fun b x eb sb _=>?_⟩;have:b≠a:=fun q=>by rw[q,eo]at eb;(injection eb with eb;subst eb);rw[un]at sb;injection sb
  exact(hs.2 b this).trans eb
 have am:=X.mem ea;refine⟨{stays:=fun b x q=>?_,ns:=fun p hp=>(X.ns p hp).sameBut hs fun q=>(X.dis a am).1 (q▸lN hp),iU:=X.iU,jA:=X.jA,len:=by simp[X.len],kU:=X.kU,dis:=X.dis,mP:=X.mP,bU:=fun p hp=>?_,obj:=?_,tab:=?_},G⟩
 ·have:b≠a:=fun z=>by rw[z,Cm (X.dis a am).2.2]at q;injection q
  exact(hs.2 b this).trans (X.stays b x q)
 ·obtain⟨h1,hh⟩:=X.bU p hp
  rcases hh with⟨j,es,h2,h3⟩|hh
  ·have LB:i≠j:=fun q=>by
    subst q;rw[e]at h3
    (injection h3 with h3;subst h3)
    injection m
   have eP:p.1≠a:=fun q=>by
    rw[q]at h2;exact LB ((yJ ((eF.mp ea)).1 X.kU).mp (ea.trans h2.symm))
   exact⟨(hs.2 _ eP).trans h1,.inl ⟨j,es,h2,by rw[qN LB];exact h3⟩⟩
  ·have eP:p.1≠a:=fun q=>hh.1 (by rw[q];exact am)
   exact⟨(hs.2 _ eP).trans h1,.inr hh⟩
 ·intro j p ej
  by_cases hj:i=j
  ·subst hj
   rw[vP ((eF.mp e).1)]at ej
   (injection ej with ej;subst ej)
   exact⟨a,o',ea,ho,fO.mono X.dZ G (Pre.refl _) _ r⟩
  ·rw[qN hj]at ej
   obtain⟨b,x,eb,ex,rx⟩:=X.obj j p ej;have:b≠a:=fun q=>by
    subst q;have h2:=(eF.mp eb);exact hj ((yJ ((eF.mp ea)).1 X.kU).mp (ea.trans eb.symm))
   exact⟨b,x,eb,(hs.2 b this).trans ex,fO.mono X.dZ G (Pre.refl _) _ rx⟩
 ·intro t ht
  obtain⟨ps,et,a1,b1⟩:=X.tab t ht;have:t.2.1≠a:=fun q=>(X.dis a am).2.1 (q▸lN ht);exact⟨ps,(hs.2 _ this).trans et,a1,fun pos cv q=>(b1 pos cv q).mono G⟩
theorem Cx.others{nss':bY}{W:Addr→Prop}(X:Cx g h nss ι H)(hl:nss'.l.map (·.1)=nss.l.map (·.1))(hp:nss'.bU=nss.bU)(hn: ∀p∈nss'.l,h'.Ns p.1 p.2)
  (hW: ∀a,W a→∃o,h.get? a=some o∧mR o=false∧g.base.objs.size≤a∧a∉ι∧a∉g.jR∧∀p∈nss.bU,p.1≠a) (hk: ∀b o,¬W b→h.get? b=some o→h'.get? b=some o):Cx g h' nss' ι H∧eA g h h':=by
 have G:eA g h h':=⟨fun b x eb sb _=>hk b x (fun q=>by
  obtain⟨o,e,un,_⟩:=hW b q;rw[eb]at e;injection e with e;subst e;rw[un]at sb;injection sb) eb⟩
 have ah: ∀p∈nss.bU,¬W p.1:=fun p m z=>by
  obtain⟨_,_,_,_,_,_,r⟩:=hW _ z;exact r p m rfl
 refine⟨{stays:=fun b x q=>hk b x (fun z=>?_) (X.stays b x q),ns:=hn,iU:=fun p m=>?_,jA:=by rw[hl];exact X.jA,len:=X.len,kU:=X.kU,dis:=by rw[hl];exact X.dis,mP:=X.mP,bU:=by rw[hp,hl];exact fun p m=>⟨hk _ _ (ah p m) (X.bU p m).1,(X.bU p m).2⟩,obj:=fun j p ej=>?_,tab:=fun t ht=>?_},G⟩
 ·obtain⟨_,_,_,hb,_⟩:=hW b z
  exact absurd (JQ (fI q) hb) (EK _)
 ·obtain⟨q,hq,e⟩:=dY.mp (hl▸lN m:p.1∈nss.l.map (·.1))
  exact e▸X.iU q hq
 ·obtain⟨b,x,eb,ex,rx⟩:=X.obj j p ej
  exact⟨b,x,eb,hk b x (fun z=>by obtain⟨_,_,_,_,r,_⟩:=hW _ z;exact r (X.mem eb)) ex,fO.mono X.dZ G (Pre.refl _) _ rx⟩
 ·obtain⟨ps,et,a1,b1⟩:=X.tab t ht
  exact⟨ps,hk _ _ (fun z=>by obtain⟨_,_,_,_,_,r,_⟩:=hW _ z;exact r (lN ht)) et,a1,fun pos cv q=>(b1 pos cv q).mono G⟩
theorem Cx.Mu(X:Cx g h nss ι H){p:Addr×(Str→Option aF)}(hp:p∈nss.l): ∃o,h.get? p.1=some o∧mR o=false∧g.base.objs.size≤p.1∧p.1∉ι∧p.1∉g.jR∧∀q∈nss.bU,q.1≠p.1:=by
 have hm:p.1∈nss.l.map (·.1):=lN hp;obtain⟨o,es,ep,e,ed,_⟩:=X.ns p hp;refine⟨o,e,by unfold mR;rw[ed],X.iU p hp,fun q=>(X.dis _ q).1 hm,fun q=>?_,fun q hq z=>?_⟩
 ·obtain⟨ps,e'⟩:=X.dZ _ q
  rw[e]at e';injection e' with e';subst e';injection ed
 ·rcases(X.bU q hq).2 with⟨j,es,h2,h3⟩|hh
  ·exact(X.dis _ (X.mem h2)).1 (z▸hm)
  ·exact hh.2.1 (z▸hm)
theorem Cx.XE{L:Addr}{m m':Str→Option aF}(X:Cx g h (rest.on L m) ι H)(hn:h'.Ns L m')(hs:tK L h h'):Cx g h' (rest.on L m') ι H∧eA g h h':=by
 refine X.others (nss':=rest.on L m') (W:=(· =L)) rfl rfl (fun p hp=>?_) (fun a e=>by subst e;exact X.Mu (p:=(a,m)) (.head _)) fun b o e h=>(hs.2 b e).trans h;rcases dJ.mp hp with rfl|hp
 ·exact hn
 ·exact(X.ns p (.tail _ hp)).sameBut hs fun q=>((hA.mp (show(L::rest.l.map (·.1)).Nodup from X.jA)).1) (q▸lN hp)
theorem Cx.MW{L:Addr}{m:Str→Option aF}(X:Cx g h nss ι H)(hn:h'.Ns L m)(hL:h.objs.size≤L)(k: ∀b o,h.get? b=some o→h'.get? b=some o):Cx g h' (nss.on L m) ι H:=by
 have X':=X.ext k;have lt: ∀b o,h.get? b=some o→b≠L:=fun b o e q=>by
  have:=fI e;rw[q]at this;exact absurd (JQ this hL) (EK _)
 refine {X' with ns:=fun p hp=>?_,iU:=fun p hp=>?_,jA:=?_,dis:=fun a ha=>?_,bU:=fun p hp=>?_}
 ·rcases dJ.mp hp with rfl|hp
  ·exact hn
  ·exact X'.ns p hp
 ·rcases dJ.mp hp with rfl|hp
  ·exact bW X.size hL
  ·exact X.iU p hp
 ·show(((L,m)::nss.l).map (·.1)).Nodup
  rw[dU,hA];refine⟨fun q=>?_,X.jA⟩;obtain⟨p,hp,e⟩:=dY.mp q;obtain⟨o,_,_,e',_⟩:=X.ns p hp;exact lt _ _ e' e
 ·refine⟨fun q=>?_,(X.dis a ha).2⟩
  rw[show(nss.on L m).l=(L,m)::nss.l from rfl,dU,dJ]at q;rcases q with rfl|q
  ·obtain⟨i,hi,e⟩:=PG.mp ha
   obtain⟨a',o',e1,e2,_⟩:=X.obj i (H[i]'(X.len▸hi)) (fZ _);rw[fZ hi,e]at e1
   (injection e1 with e1;subst e1)
   exact lt _ _ e2 rfl
  ·exact(X.dis a ha).1 q
 ·obtain⟨h1,hh⟩:=X.bU p hp
  refine⟨k _ _ h1,hh.imp id fun hh=>⟨hh.1,fun q=>?_,hh.2.2⟩⟩;rw[show(nss.on L m).l=(L,m)::nss.l from rfl,dU,dJ]at q;rcases q with q|q
  ·exact lt _ _ h1 q
  ·exact hh.2.1 q
theorem Cx.other(X:Cx g h nss ι H){a:Addr}{o:Obj}(eo:h.get? a=some o)(un:mR o=false)(hb:g.base.objs.size≤a)(h1:a∉ι)(h2:a∉nss.l.map (·.1))(h3:a∉g.jR)(h4: ∀p∈nss.bU,p.1≠a)(hs:rX a h h'):Cx g h' nss ι H∧eA g h h':=
 X.others (W:=(· =a)) rfl rfl (fun p hp=>by
  obtain⟨o₁,es,ep,e1,e2,e3⟩:=X.ns p hp;exact⟨o₁,es,ep,hs _ _ (fun q=>h2 (q▸lN hp)) e1,e2,e3⟩) (fun b e=>by subst e;exact⟨o,eo,un,hb,h1,h3,h4⟩) hs
theorem Cx.adopt(X:Cx g h nss ι H){a:Addr}{o:Obj}{po:PO}(ho:h.get? a=some o)(hb:g.base.objs.size≤a)(h1:a∉ι)(h2:a∉nss.l.map (·.1))(h3:a∉g.jR)(r:fO g h (ι++[a]) po o):Cx g h nss (ι++[a]) (H++[po])∨∃p∈nss.bU,p.1=a:=by
 by_cases hq: ∃p∈nss.bU,p.1=a
 ·exact .inr hq
 refine .inl {X with len:=Pre.len X.len a po,kU:=?_,dis:=?_,bU:=fun p hp=>?_,obj:=?_}
 ·refine qO.mpr ⟨X.kU,by simp,?_⟩
  intro b wK c hc;rw[eZ]at hc;subst hc;exact fun q=>h1 (q▸wK)
 ·intro b wK
  rcases oG.mp wK with wK|wK
  ·exact X.dis b wK
  ·rw[eZ]at wK
   subst wK;exact⟨h2,h3,hb⟩
 ·obtain⟨h5,hh⟩:=X.bU p hp
  refine⟨h5,hh.imp (fun⟨i,es,h2,h3⟩=>⟨i,es,(Pre.snoc ι a).get h2,by rw[AV (eF.mp h3).1];exact h3⟩) fun⟨h2,h3⟩=>⟨fun q=>?_,h3⟩⟩;rcases oG.mp q with q|q
  ·exact h2 q
  ·rw[eZ]at q
   exact hq ⟨p,hp,q⟩
 ·intro i p e
  by_cases hi:i<H.length
  ·rw[AV hi]at e
   obtain⟨b,o',e1,e2,r'⟩:=X.obj i p e;exact⟨b,o',(Pre.snoc ι a).get e1,e2,fO.mono X.dZ (.refl g _) (Pre.snoc ι a) _ r'⟩
  ·rw[yI (by exact aX 66007515414672 rfl hi)]at e
   have h0:i=H.length:=by
    have:=(eF.mp e).1;simp at this;exact fE (Vg this) (yP.mp hi)
   subst h0;simp at e;subst e;exact⟨a,o,by rw[←X.len];simp,ho,r⟩
theorem Cx.lock(X:Cx g h nss ι H){a:Addr}{o:Obj}(e:h.get? a=some o)(hh:(∃(i:Nat) (es:cA),ι[i]?=some a∧H[i]?=some (.dict es true))∨a∉ι∧a∉nss.l.map (·.1)∧a∉g.jR):Cx g h (nss.lock a o) ι H:=
 {X with
  bU:=fun p hp=>(dJ.mp hp).elim (fun q=>by subst q;exact⟨e,hh⟩) fun hp=>X.bU p hp}
theorem Cx.unlock{a:Addr}{o:Obj}(X:Cx g h (nss.lock a o) ι H):Cx g h nss ι H∧h.get? a=some o:=⟨{X with bU:=fun p hp=>X.bU p (.tail _ hp)},(X.bU (a,o) (.head _)).1⟩
theorem Cx.WO{L:Addr}{m:Str→Option aF}(X:Cx g h (nss.on L m) ι H):Cx g h nss ι H:=
 {X with ns:=fun q hq=>X.ns q (.tail _ hq),iU:=fun q hq=>X.iU q (.tail _ hq),jA:=(hA.mp (show(((L,m)::nss.l).map (·.1)).Nodup from X.jA)).2,dis:=fun a ha=>⟨fun q=>(X.dis a ha).1 (.tail _ q),(X.dis a ha).2⟩,bU:=fun p hp=>⟨(X.bU p hp).1,(X.bU p hp).2.imp id fun hh=>⟨hh.1,fun q=>hh.2.1 (.tail _ q),hh.2.2⟩⟩}
theorem Cx.fr{L:Addr}{m:Str→Option aF}(X:Cx g h (rest.on L m) ι H):Fr g.base L h m:=⟨X.ns _ (.head _),X.stays,X.iU _ (.head _)⟩
end
structure Hx(g:Gl)where
 s:aL
 nss:bY
 ι:List Addr
 H:PH
 X:Cx g s.heap nss ι H
inductive vM{g:Gl}(σ:Hx g)(e:Addr)(v:Option aF):Prop
 |none (q:v=some .none)|tb (T:Addr) (oT:Obj) (ts:Array aF) (h1:v=some (.ref T)) (h2:T≠e) (h3:σ.s.heap.get? T=some oT) (h4:oT.cls= .type "traceback"∧oT.data= .fields ts) (h5:ts[3]?=some .none) (h6:rC ts[1]?=false) (h7:g.base.objs.size≤T) (h8:T∉g.jR) (h9:T∉σ.ι) (GB: ∀p∈σ.nss.bU,p.1≠T)
inductive nK{g:Gl}(σ:Hx g)(e c:Addr)(d:Nat):Prop
 |mk (hc:tJ g c) (oe:Obj) (vs:Array aF) (dx:Addr) (a1:σ.s.heap.get? e=some oe) (a2:oe.cls= .ref c) (a3:oe.dict=some dx) (a4:σ.ι[d]?=some dx) (a5:oe.data= .fields vs) (a6:1<vs.size) (a7:g.base.objs.size≤e) (a8:e∉g.jR) (a9:e∉σ.ι) (pH: ∀p∈σ.nss.bU,p.1≠e) (aT:vM σ e vs[1]?)
section
variable{g:Gl}{σ τ υ:Hx g}{α β γ δ:Type}{Q Q':δ→aL→Prop}{Q₁:β→aL→Prop}{E:aF→aL→Prop}{R₁:Hx g→α→β→Prop}{R:Hx g→γ→δ→Prop}{v:aF}{P:Prop}{p:PV}
noncomputable def Hx.V(σ:Hx g)(p:PV)(v:aF):Prop:=dH g σ.s.heap σ.ι p v
noncomputable def Hx.Vs(σ:Hx g)(ps:List PV)(vs:List aF):Prop:=bE g σ.s.heap σ.ι ps vs
structure Hx.Le(σ τ:Hx g):Prop where
 nss:τ.nss=σ.nss
 grow:eA g σ.s.heap τ.s.heap
 pre:Pre σ.ι τ.ι
 sh:τ.s={σ.s with heap:=τ.s.heap,toks:=τ.s.toks}
theorem Hx.Le.refl:σ.Le σ:=⟨rfl,.refl _ _,.refl _,rfl⟩
theorem Hx.Le.trans(l:σ.Le τ)(k:τ.Le υ):σ.Le υ:=⟨k.nss.trans l.nss,l.grow.trans k.grow,l.pre.trans k.pre,by rw[k.sh,l.sh]⟩
theorem Hx.V.le(r:σ.V p v)(l:σ.Le τ):τ.V p v:=dH.mono σ.X.dZ l.grow l.pre p r
theorem Hx.Vs.le{ps:List PV}{vs:List aF}(r:σ.Vs ps vs)(l:σ.Le τ):τ.Vs ps vs:=bE.mono σ.X.dZ l.grow l.pre ps r
noncomputable def Hx.bD(R:Hx g→γ→δ→Prop)(σ:Hx g)(o:Out γ)(Q:δ→aL→Prop)(E:aF→aL→Prop):Prop:=match o with
 | .ok a H'=> ∀b τ,σ.Le τ→τ.H=H'→R τ a b→Q b τ.s| .exc c d H'=> ∀e τ,σ.Le τ→τ.H=H'→nK τ e c d→E (.ref e) τ.s| .fail=>False
theorem Hx.bD.le{o:Out γ}(p:σ.bD R o Q E)(l:σ.Le τ):τ.bD R o Q E:=by
 cases o with
 |ok a H'=>exact fun b υ k=>p b υ (l.trans k)
 |exc c d H'=>exact fun b υ k=>p b υ (l.trans k)
 |fail=>exact p
theorem Hx.bD.bind{o:Out α}{f:α→PH→Out γ}(p:σ.bD R (o.bind f) Q E)(k: ∀a b τ,σ.Le τ→R₁ τ a b→τ.bD R (f a τ.H) Q E→Q₁ b τ.s):σ.bD R₁ o Q₁ E:=by
 cases o with
 |ok a H'=>exact fun b τ l e r=>k a b τ l r (e▸Hx.bD.le (o:=f a H') p l)
 |exc c d H'=>exact p|fail=>exact p
theorem Hx.bD.ob{o:Option α}{f:α→Out γ}(p:σ.bD R (Mine.ob o f) Q E)(k: ∀a,o=some a→σ.bD R (f a) Q E→P):P:=by
 cases o with
 |none=>exact p.elim|some a=>exact k a rfl p
theorem Hx.bD.cB{b:Bool}{o:Out γ}(p:σ.bD R (Mine.cB b o) Q E)(k:b=true→σ.bD R o Q E→P):P:=by
 cases b with
 |false=>exact p.elim|true=>exact k rfl p
theorem Hx.bD.mono{o:Out γ}(p:σ.bD R o Q E)(k: ∀b τ,σ.Le τ→Q b τ.s→Q' b τ.s):σ.bD R o Q' E:=by
 cases o with
 |ok a H'=>exact fun b τ l e r=>k b τ l (p b τ l e r)
 |exc c d H'=>exact p|fail=>exact p
noncomputable def Hx.tok(σ:Hx g)(t:Nat):Hx g:=⟨{σ.s with toks:=t},σ.nss,σ.ι,σ.H,σ.X⟩
theorem Hx.AA(t:Nat):σ.Le (σ.tok t):=⟨rfl,.refl _ _,.refl _,rfl⟩
theorem Hx.bD.now{a:γ}{b:δ}(p:σ.bD R (.ok a σ.H) Q E)(r:R σ a b):Q b σ.s:=p b σ .refl rfl r
theorem Hx.bD.tok{a:γ}{b:δ}{t:Nat}(p:σ.bD R (.ok a σ.H) Q E)(r:R (σ.tok t) a b):Q b {σ.s with toks:=t}:=p b (σ.tok t) (σ.AA t) rfl r
noncomputable def Hx.push(σ:Hx g)(o:Obj)(t:Nat):Hx g:=⟨{σ.s with heap:=σ.s.heap.push o,toks:=t},σ.nss,σ.ι,σ.H,σ.X.push o⟩
theorem Hx.kZ(o:Obj)(t:Nat):σ.Le (σ.push o t):=⟨rfl,.push _ _,.refl _,rfl⟩
noncomputable def Hx.new(σ:Hx g)(o:Obj)(po:PO)(t:Nat)(hf:o.isFreed=false)(r:fO g (σ.s.heap.push o) (σ.ι++[σ.s.heap.objs.size]) po o):Hx g:=⟨{σ.s with heap:=σ.s.heap.push o,toks:=t},σ.nss,σ.ι++[σ.s.heap.objs.size],σ.H++[po],σ.X.new hf r⟩
theorem Hx.xI{o:Obj}{po:PO}{t:Nat}{hf:o.isFreed=false}{r:fO g (σ.s.heap.push o) (σ.ι++[σ.s.heap.objs.size]) po o}:σ.Le (σ.new o po t hf r):=⟨rfl,.push _ _,.snoc _ _,rfl⟩
theorem Hx.HG{o:Obj}{po:PO}{t:Nat}{hf:o.isFreed=false}{r:fO g (σ.s.heap.push o) (σ.ι++[σ.s.heap.objs.size]) po o}:(σ.new o po t hf r).V (.ref σ.H.length) (.ref σ.s.heap.objs.size):=by
 exact qM _ ⟨by show(σ.ι++[_])[_]?=_;rw[←σ.X.len];exact Ul,rfl⟩
theorem Hx.upd{i:Nat}{a:Addr}{po po':PO}{h':Heap}{o':Obj}(e:σ.H[i]?=some po)(ea:σ.ι[i]?=some a)(m:po.mut=true)(hs:tK a σ.s.heap h')(ho:h'.get? a=some o')(r:fO g σ.s.heap σ.ι po' o')(t:Nat)
  (k: ∀τ:Hx g,σ.Le τ→τ.s={σ.s with heap:=h',toks:=t}→τ.H=σ.H.set i po'→P):P:=
 let x:=σ.X.upd e ea m hs ho r
 k ⟨{σ.s with heap:=h',toks:=t},σ.nss,σ.ι,σ.H.set i po',x.1⟩ ⟨rfl,x.2,.refl _,rfl⟩ rfl rfl
section
variable{M:aF→Prop}{h:Heap}{ι:List Addr}
theorem Hx.V.none(r:σ.V .none v):v= .none:=r
theorem Hx.V.bool{b:Bool}(r:σ.V (.bool b) v):v= .bool b:=r
theorem Hx.V.aE{x:aF}(r:σ.V (.aE x) v):v=x:=r
@[elab_as_elim] theorem Hx.V.int{a:Int}(r:σ.V (.int a) v)(k: ∀t,M (.int a t)):M v:=by
 obtain⟨t,rfl⟩:=r;exact k t
@[elab_as_elim] theorem Hx.V.str{a:Str}(r:σ.V (.str a) v)(k: ∀t,M (.str a t)):M v:=by
 obtain⟨t,rfl⟩:=r;exact k t
@[elab_as_elim] theorem Hx.V.tup{l:List PV}(r:σ.V (.tup l) v)(k: ∀a vs n,σ.s.heap.get? a=some (fV vs n)→σ.Vs l vs→M (.ref a)):M v:=by
 obtain⟨t,vs,n,rfl,e,r⟩:=r;exact k t vs n e r
@[elab_as_elim] theorem Hx.V.ref{i:Nat}(r:σ.V (.ref i) v)(k: ∀a,σ.ι[i]?=some a→M (.ref a)):M v:=by
 obtain⟨t,e,rfl⟩:=r;exact k t e
@[elab_as_elim] theorem Hx.V.fl{l:List PV}(r:σ.V (.fl l) v)(k: ∀a vs,g.base.IsList a vs.toArray→σ.Vs l vs→M (.ref a)):M v:=by
 obtain⟨t,vs,rfl,e,r⟩:=r;exact k t vs e r
theorem AS:σ.V .none .none:=rfl
theorem pG{b:Bool}:σ.V (.bool b) (.bool b):=rfl
theorem mX{a:Int}{t:Tok}:σ.V (.int a) (.int a t):=qM t rfl
theorem ON{a:Str}{t:Tok}:σ.V (.str a) (.str a t):=qM t rfl
theorem JV{x:aF}:σ.V (.aE x) x:=rfl
theorem JW{l:List PV}{a:Addr}{vs:List aF}{n:Nat}(e:σ.s.heap.get? a=some (fV vs n))(r:σ.Vs l vs):σ.V (.tup l) (.ref a):=qM a ⟨vs,n,rfl,e,r⟩
theorem AT{i:Nat}{a:Addr}(e:σ.ι[i]?=some a):σ.V (.ref i) (.ref a):=qM a ⟨e,rfl⟩
theorem Hx.at{i:Nat}{a:Addr}{po:PO}(σ:Hx g)(e:σ.H[i]?=some po)(ea:σ.ι[i]?=some a)(k: ∀o,σ.s.heap.get? a=some o→fO g σ.s.heap σ.ι po o→P):P:=by
 obtain⟨b,o,eb,e2,r⟩:=σ.X.at e;cases ea.symm.trans eb;exact k o e2 r
@[elab_as_elim] theorem Hx.V.list{i:Nat}{l:List PV}(r:σ.V (.ref i) v)(e:σ.H[i]?=some (.list l))(k: ∀a vs n,σ.ι[i]?=some a→σ.s.heap.get? a=some (cQ vs n)→σ.Vs l vs→M (.ref a)):M v:=
 r.ref fun a ea=>σ.at e ea fun o e2 x=>by obtain⟨vs,n,rfl,y⟩:=x;exact k a vs n ea e2 y
@[elab_as_elim] theorem Hx.V.listAt{x:PV}{q:Nat×List PV}(r:σ.V x v)(e:listAt σ.H x=some q)(k: ∀a vs n,x= .ref q.1→σ.H[q.1]?=some (.list q.2)→σ.ι[q.1]?=some a→σ.s.heap.get? a=some (cQ vs n)→σ.Vs q.2 vs→M (.ref a)):M v:=by
 obtain⟨rfl,e2⟩:=listAt_eq e;exact r.list e2 fun a vs n h1 h2 h3=>k a vs n rfl e2 h1 h2 h3
end
end
theorem vO:aJ=8000:=rfl
theorem pC:aJ≤sizeLine:=by decide
section
variable{g:Gl}{h:Heap}{ι:List Addr}{p:PV}{ps qs:List PV}{v:aF}{vs ws:List aF}{P:Prop}{M:List aF→Prop}
@[elab_as_elim] theorem bE.nG(x:bE g h ι [] vs)(k:M []):M vs:=by rw[show vs=[]from x];exact k
@[elab_as_elim] theorem bE.kN(x:bE g h ι (p::ps) vs)(k: ∀v r,dH g h ι p v→bE g h ι ps r→M (v::r)):M vs:=by
 obtain⟨v,r,rfl,a,b⟩:=x;exact k v r a b
theorem bE.cons(x:dH g h ι p v)(y:bE g h ι ps vs):bE g h ι (p::ps) (v::vs):=qM v ⟨vs,rfl,x,y⟩
theorem bE.nil:bE g h ι [] []:=rfl
theorem bE.length(x:bE g h ι ps vs):vs.length=ps.length:=by
 induction ps generalizing vs with
 |nil=>exact x.nG rfl|cons p ps ih=>exact x.kN fun v r _ y=>bN (· +1) (ih y)
theorem bE.isEmpty(x:bE g h ι ps vs):ps.isEmpty=vs.isEmpty:=by
 cases ps with
 |nil=>exact x.nG rfl|cons p ps=>exact x.kN fun v r _ y=>rfl
theorem bE.append(x:bE g h ι ps vs)(y:bE g h ι qs ws):bE g h ι (ps++qs) (vs++ws):=by
 induction ps generalizing vs with
 |nil=>exact x.nG y|cons p ps ih=>exact x.kN fun v r a z=> .cons a (ih z)
theorem bE.rep(x:dH g h ι p v)(n:Nat):bE g h ι (cU n p) (cU n v):=by
 induction n with
 |zero=>exact .nil|succ n ih=>exact .cons x ih
theorem bE.one(x:bE g h ι ps vs)(e:ps.length=1)(k: ∀v,dH g h ι (ps.headD .none) v→M [v]):M vs:=by
 match ps,e with
 | [p],_=>exact x.kN fun v r a y=>y.nG (k v a)
theorem bE.get{i:Nat}(x:bE g h ι ps vs)(e:ps[i]?=some p)(k: ∀v,vs[i]?=some v→dH g h ι p v→P):P:=by
 induction ps generalizing vs i with
 |nil=>exact dB e|cons q ps ih=>
  refine x.kN (M:=fun vs=>(∀v,vs[i]?=some v→dH g h ι p v→P)→P) (fun w r a y k=>?_) k;cases i with
  |zero=>injection e with e;subst e;exact k w rfl a
  |succ i=>exact ih y e k
theorem bE.drop(x:bE g h ι ps vs)(n:Nat):bE g h ι (ps.drop n) (vs.drop n):=by
 induction n generalizing ps vs with
 |zero=>exact x|succ n ih=>cases ps with
  |nil=>exact x.nG .nil|cons p ps=>exact x.kN fun v r _ y=>ih y
theorem bE.take(x:bE g h ι ps vs)(n:Nat):bE g h ι (ps.take n) (vs.take n):=by
 induction n generalizing ps vs with
 |zero=>exact .nil|succ n ih=>cases ps with
  |nil=>exact x.nG .nil|cons p ps=>exact x.kN fun v r a y=> .cons a (ih y)
theorem bE.reverse(x:bE g h ι ps vs):bE g h ι ps.reverse vs.reverse:=by
 induction ps generalizing vs with
 |nil=>exact x.nG .nil|cons p ps ih=>exact x.kN fun v r a y=>by rw[EI,EI];exact .append (ih y) (.cons a .nil)
end
theorem nv:fillsNumberSlot (.type "tuple") "mul"=pure false:=
 PySem.fillsNumberSlot_seq (id:= "tuple.__mul__") (r:=some (.builtin "tuple.__rmul__")) ZM.lookup (by decide+kernel) (by rw[typeLookup_type,builtinLookup_eq_fast];kernel_rfl) (by decide+kernel)
theorem vm:seqRepeat? (.type "tuple")=pure (some (.builtin "tuple.__mul__")):=by
 unfold seqRepeat?;rw[Xe (T:= "tuple") (name:= "__mul__") (id:= "tuple.__mul__") ZM.lookup (by decide+kernel),Xe (T:= "tuple") (name:= "__rmul__") (id:= "tuple.__rmul__") (by rw[typeLookup_type,builtinLookup_eq_fast];kernel_rfl) (by decide+kernel)];rfl
theorem dh(a:Int)(t:Tok)(l:Addr)(items:Array aF)(n:Nat):
  Meets (Builtin.«int.__rmul__» ⟨[.int a t,.ref l],[]⟩) (fun _ R s=>s.heap.get? l=some {cls:= .type "tuple",dict:=none,data:= .seq items n,slots:= #[]}∧R (.ok (.ret aF.notImplemented)) s):=
 .of_wp fun prog w A R s h=>by obtain⟨hp,g,d,tk,os⟩:=s;obtain⟨hl,h⟩:=h;wp_walk;exact⟨_,rfl,h⟩
theorem foldl_rep(items:Array aF)(k:Nat):Ak (fun x1 x2=>x1++x2) #[] (cU k items)=((cU k items.toList).flatten).toArray:=by
 simpa using listMul_foldl items k #[]
theorem Gn{α:Type}(v:α)(k:Nat):(cU k [v]).flatten=cU k v:=by
 induction k with
 |zero=>rfl|succ k ih=>rw[AZ,List.flatten_cons,ih];rfl
theorem aAM(l:Addr)(v:aF)(n k:Nat)(u:Tok)(hk:k≤aJ):
  Meets (Builtin.«tuple.__mul__» ⟨[.ref l,.int k u],[]⟩) (fun _ R s=>s.heap.get? l=some (fV [v] n)∧(k=1→R (.ok (.ret (.ref l))) s)∧(k≠1→R (.ok (.ret (.ref s.heap.objs.size))) {s with heap:=s.heap.push (fV (cU k v) 0)})):=
 .of_wp fun prog w A R s h=>by
  obtain⟨hp,g,d,tk,os⟩:=s;obtain⟨hl,h1,h2⟩:=h;have hk:k≤8000:=hk;have c0:(decide ((k:Int)< -(2^63))||decide ((k:Int)≥2^63))=false:=by simp;exact aS 80419912884183463628253869927121049 rfl hk
  wp_walk
  rw[c0,aN lG]
  wp_walk
  by_cases q:k=1
  ·subst q;wp_walk;exact⟨_,rfl,h1 rfl⟩
  rw[show([v].toArray.isEmpty||(k:Int)==1)=false from dC.mpr fun e=>q (fE (aS 1056631966269584 rfl e) (aS 1056631974593552 rfl e)),aN lG]
  wp_walk
  cases k with
  |zero=>wp_walk;exact⟨_,rfl,h2 q⟩|succ k=>
   rw[show(decide (((k+1:Nat):Int)≤0)|| [v].toArray.isEmpty)=false from Sn.mpr ⟨iW (aS 515397125405 rfl),rfl⟩,aN lG]
   wp_walk
   rw[aN (show¬((([v].toArray.size:Nat):Int)*((k+1:Nat):Int)>(2^63-1)/8) by show¬((1:Int)*_>_);exact aS 690801793891810002837913553936475797644639900 rfl hk)]
   wp_walk
   rw[aN (show¬Sw ((([v].toArray.size:Nat):Int)*((k+1:Nat):Int))=true by unfold Sw sizeLine;show¬decide ((1:Int)*_>_)=true;simp;exact aS 1349222253694941256860992214839427888842008 rfl hk)]
   wp_walk
   rw[(show Ak (fun x1 x2=>x1++x2) #[] (cU ((k+1:Nat):Int).toNat [v].toArray)=(cU (k+1) v).toArray by rw[foldl_rep,Gn];rfl),aN (show¬(cU (k+1) v).toArray.size>sizeLine by rw[fN,AY];exact yP.mpr (bW hk (by decide)))]
   wp_walk
   exact⟨_,rfl,h2 q⟩
section
variable{prog:Program}{w:World}{A:cH}{E Q:aF→aL→Prop}{s:aL}{l:Addr}{v:aF}{k n:Nat}{u:Tok}
theorem mul_list{items:Array aF}{x:Int}(hl:s.heap.get? l=some {cls:= .type "list",dict:=none,data:= .seq items n,slots:= #[]})(TT: -(2^63:Int)≤x)(Y7:x<2^63)(gC:items.size*x.toNat≤2^24)
  (h:Q (.ref s.heap.objs.size) {s with heap:=s.heap.push {cls:= .type "list",data:= .seq (Ak (fun x1 x2=>x1++x2) #[] (cU (if items.isEmpty=true then 0 else x.toNat) items))}}):aP (aM prog w) A (binaryOp .Mult (.ref l) (.int x u)) Q E s:=
 aBK (T:= "list") (U:= "int") (by decide) ⟨_,hl,rfl⟩ (fun s'=>typeIs_int s' x u) noFill_list_mul Tn OJ repeat_list To.lookup
  (call_meets OJ (typeIs_int s x u) Tj (Ti _ _) (int___rmul___int_list x u l items n)
   ⟨hl,rfl,⟨_,hl,rfl⟩,call_meets F.slot_list_mul ⟨_,hl,rfl⟩ F.entry_list_mul (F.args_list_mul_2 _ _)
    (aB2 l items n x u (by simp[Ss];exact⟨jH 5616550792262659914656877642946556793478935337768856 rfl TT,jH 90613101514515980928826901174921829753808312418457 rfl Y7⟩) (aS 87690098239859492004402648223460363816979241369236 rfl gC) (by simp[ZA,sizeLine];exact aS 87690098239859492004402648203390306266982272549008 rfl gC))
    ⟨hl,h⟩⟩)
theorem md(hl:s.heap.get? l=some (cQ [v] n))(hk:k≤aJ)(h:Q (.ref s.heap.objs.size) {s with heap:=s.heap.push (cQ (cU k v) 0)}):aP (aM prog w) A (binaryOp .Mult (.ref l) (.int k u)) Q E s:=by
 have hk:k≤8000:=hk;refine mul_list (items:=[v].toArray) hl (aS 290368870298688744899745688 rfl) (aS 80419912884183463628253869927121049 rfl hk) (by show 1*k≤_;exact aS 41174995396082963358024417165143246224 rfl hk) ?_;rw[foldl_rep,show(if(([v]:List aF).toArray.isEmpty=true)then 0 else(k:Int).toNat)=k from rfl,Gn];exact h
theorem mf(hl:s.heap.get? l=some (fV [v] n))(hk:k≤aJ)(h1:k=1→Q (.ref l) s)(h2:k≠1→Q (.ref s.heap.objs.size) {s with heap:=s.heap.push (fV (cU k v) 0)}):
  aP (aM prog w) A (binaryOp .Mult (.ref l) (.int k u)) Q E s:=
 aBK (T:= "tuple") (U:= "int") (by decide) ⟨_,hl,rfl⟩ (fun s'=>typeIs_int s' k u) nv Tn OJ vm To.lookup
  (call_meets OJ (typeIs_int s k u) Tj (Ti _ _) (dh k u l _ n)
   ⟨hl,rfl,⟨_,hl,rfl⟩,call_meets ZM ⟨_,hl,rfl⟩ F.entry_tuple_mul (F.args_tuple_mul_2 _ _) (aAM l v n k u hk) ⟨hl,h1,h2⟩⟩)
end
theorem log2_lt{a:Int}(h:small a=true):a.natAbs.log2<1000:=by
 by_cases q:a.natAbs=0
 ·rw[q];decide
 ·exact(Nat.log2_lt q).mpr (cK h)
theorem Cr{a:Int}(h:small a=true):YZ a≤1000:=by
 have:=log2_lt h;unfold YZ;split
 ·decide
 ·exact this
theorem mc{a b:Int}(ha:small a=true)(hb:small b=true):IntMulOk a b:=by
 have h1:=Cr ha;have h2:=Cr hb;unfold IntMulOk aCC;intro h;simp only[mW,decide_eq_true_eq]at h;rw[show(bitsLine:Int)=134217728 by decide]at h;exact aX 5770254204846533940056788973254872321181803154426036246 rfl h.2 h1 h2
theorem J7{a b:Int}(hb:small b=true):Sx a b=false:=by
 have h1:=log2_lt hb;unfold Sx;simp only[Bool.and_eq_false_iff,decide_eq_false_iff_not];refine .inl ?_;split<;>omega
section
variable{g:Gl}{σ:Hx g}{Q E:aF→aL→Prop}{l:List PV}{vs:List aF}{A:cH}{op:Operator}{x y:PV}{a b:aF}
theorem Hx.bD.newList(p:σ.bD Hx.V (iG l σ.H) Q E)(r:σ.Vs l vs):vs.length≤aJ∧Q (.ref σ.s.heap.objs.size) {σ.s with heap:=σ.s.heap.push (cQ vs 0)}:=by
 unfold iG at p;by_cases q:l.length≤aJ
 ·rw[aV q]at p
  exact⟨r.length▸q,p _ (σ.new (cQ vs 0) (.list l) σ.s.toks rfl ⟨vs,0,rfl,bE.mono σ.X.dZ (.push _ _) (.snoc _ _) _ r⟩) σ.xI rfl σ.HG⟩
 ·rw[aN q]at p;exact p.elim
theorem Hx.bD.CV(p:σ.bD Hx.V (rF l σ.H) Q E)(r:σ.Vs l vs):vs.length≤aJ∧Q (.ref σ.s.heap.objs.size) {σ.s with heap:=σ.s.heap.push (fV vs 0)}∧∀a n,σ.s.heap.get? a=some (fV vs n)→Q (.ref a) σ.s:=by
 unfold rF at p;by_cases q:l.length≤aJ
 ·rw[aV q]at p
  exact⟨r.length▸q,p _ (σ.push (fV vs 0) σ.s.toks) (σ.kZ _ _) rfl (JW (jM _ rfl) (r.le (σ.kZ _ _))),fun a n e=>p.now (JW e r)⟩
 ·rw[aN q]at p;exact p.elim
theorem cz{i j:Int}{t u:Tok}(p:σ.bD Hx.V (Ji op i j σ.H) Q E):aP (aM g.prog g.w) A (binaryOp op (.int i t) (.int j u)) Q E σ.s:=by
 cases op with
 |Add=>exact aC2 (p.tok mX)|Sub=>exact aDF (p.tok mX)|Mult=>exact p.cB fun q p=>aDB (p.tok mX) (mc (eY.mp q).1 (eY.mp q).2)
 |FloorDiv=>exact p.cB fun q p=>aC6 (by simpa using(eY.mp q).1) (p.tok mX) (.inl (J7 (eY.mp q).2))
 |Mod=>exact p.cB fun q p=>aDA (by simpa using q) (p.tok mX)
 |Pow=>
  refine p.cB fun q p1=>?_;have q:=(eY.mp q);have q0:=(eY.mp q.1);cases eq_of_beq q0.1;exact aDE (cK q0.2) (by rw[show YZ 2=2 by decide];have:=cK q.2;omega) (p1.tok mX)
 |BitAnd=>
  refine p.cB fun q p=>aC4 ?_;rw[show Builtin.bitAnd i j=i*j by
   simp only[mW,YX,beq_iff_eq]at q;obtain⟨rfl|rfl,rfl|rfl⟩:=q<;>decide]
  exact p.tok mX
 |BitOr=>
  refine p.cB fun q p=>aDD ?_;rw[show Builtin.bitOr i j=i+j-i*j by
   simp only[mW,YX,beq_iff_eq]at q;obtain⟨rfl|rfl,rfl|rfl⟩:=q<;>decide]
  exact p.tok mX
 |_=>exact p.elim
@[elab_as_elim] theorem WE{o:Out PV}(p:σ.bD Hx.V (MR op o) Q E){P:Operator→Prop}(k:σ.bD Hx.V o Q E→P .Add):P op:=by
 cases op with
 |Add=>exact k p|_=>exact p.elim
@[elab_as_elim] theorem Nm{o:Out PV}(p:σ.bD Hx.V (WF op o) Q E){P:Operator→Prop}(k:σ.bD Hx.V o Q E→P .Mult):P op:=by
 cases op with
 |Mult=>exact k p|_=>exact p.elim
theorem aAG{l':List PV}{t u:Addr}{ws:List aF}{n k:Nat}(et:σ.s.heap.get? t=some (fV vs n))(eu:σ.s.heap.get? u=some (fV ws k))(rt:σ.Vs l vs)(ru:σ.Vs l' ws)(p:σ.bD Hx.V (rF (l++l') σ.H) Q E){L:Addr}{m:Str→Option aF}(fr:Fr g.base L σ.s.heap m):
  aP (aM g.prog g.w) A (binaryOp .Add (.ref t) (.ref u)) Q E σ.s:=by
 have q:=p.CV (bE.append rt ru);have ts:vs.length+ws.length≤16384:=by have:=q.1;rw[eO]at this;exact bW this (by decide)
 cases vs with
 |nil=>exact kde_addT0 fr Vo ⟨_,et,rfl,_,rfl⟩ ⟨_,eu,rfl,_,rfl⟩ rfl ts (q.2.2 u k eu)|cons v vs=>cases ws with
  |nil=>exact kde_addT1 fr Vo ⟨_,et,rfl,_,rfl⟩ ⟨_,eu,rfl,_,rfl⟩ (fun e=>Mc e) rfl ts (q.2.2 t n (by rw[eL];exact et))|cons w ws=>exact P.add_tuple et eu (fun e=>uX e) (fun e=>uX e) (by simpa using q.2.1) (by simpa using bW ts (by decide))
theorem Qe{i:Int}(q:IQ l i=true)(r:σ.Vs l vs){M:Int→List aF→Prop}(k: ∀v k,k≤aJ→(∀n,σ.Vs (cU n (l.headD .none)) (cU n v))→M (k:Nat) [v]):M i vs:=by
 have q:=eY.mp q;have q0:=eY.mp q.1;have q2:=cK q.2;obtain⟨j,rfl⟩:=AJ (cK q0.2);exact r.one (eq_of_beq q0.1) fun v rv=>k v j (aS 71427231155050578064 rfl q2) (bE.rep rv)
theorem Zf{L:Addr}{m:Str→Option aF}(fr:Fr g.base L σ.s.heap m)(ra:σ.V x a)(rb:σ.V y b)(p:σ.bD Hx.V (binOp op x y σ.H) Q E):aP (aM g.prog g.w) A (binaryOp op a b) Q E σ.s:=by
 cases x with
 |int i=>exact p.ob fun j e p=>ra.int fun t=>(iV e▸rb:σ.V (.int j) b).int fun u=>cz p
 |str i=>exact p.ob fun j e p=>WE p fun p=>p.cB fun q p=>ra.str fun t=>(pJ e▸rb:σ.V (.str j) b).str fun u=>aC3 (fun _ _=>p.tok ON) (bW (cK q) pC)
 |tup l=>
  refine ra.tup fun t vs n et rt=>?_;cases y with
  |tup l'=>exact WE p fun p=>rb.tup fun u ws k eu ru=>aAG et eu rt ru p fr
  |int i=>
   refine Nm p fun p=>p.cB fun c p=>rb.int fun u=>?_;refine Qe (M:=fun i vs=>σ.s.heap.get? t=some (fV vs n)→σ.bD Hx.V (rF (cU i.toNat (l.headD .none)) σ.H) Q E→aP (aM g.prog g.w) A (binaryOp .Mult (.ref t) (.int i u)) Q E σ.s) c rt (fun v k hk rv et p=>?_) et p;have q:=p.CV (rv k);exact mf et hk (fun e=>q.2.2 t n (by subst e;exact et)) fun _=>q.2.1
  |_=>exact p.elim
 |ref r=>
  cases y with
  |int i=>
   refine p.ob fun q e p=>Nm p fun p=>p.cB fun c p=>rb.int fun u=>ra.listAt e fun t vs n _ _ _ et rt=>?_;refine Qe (M:=fun i vs=>σ.s.heap.get? t=some (cQ vs n)→σ.bD Hx.V (iG (cU i.toNat (q.2.headD .none)) σ.H) Q E→aP (aM g.prog g.w) A (binaryOp .Mult (.ref t) (.int i u)) Q E σ.s) c rt (fun v k hk rv et p=>?_) et p;exact md et hk (p.newList (rv k)).2
  |ref r'=>
   refine p.ob fun q e p=>p.ob fun q' e' p=>WE p fun p=>ra.listAt e fun t vs n _ _ _ et rt=>rb.listAt e' fun u ws k _ _ _ eu ru=>?_;have q:=p.newList (bE.append rt ru);exact P.add_list et eu (by simpa using q.2) (by have:=q.1;rw[eO]at this;exact bW this pC)
  |_=>exact p.ob fun q e p=>p.ob fun q' e' p=>MH PV.ctorIdx ((listAt_eq e').1) rfl
 |_=>exact p.elim
end
noncomputable def bY.ls(n:bY):List Addr:=n.l.map (·.1)
structure kH(A:cH)(envs:List Env)(ls:List Addr)(n:Nat):Prop where
 frames:A.frames=some envs
 hand:A.handled=none
 depth:A.depth+3*n+20<recursionLimit
 units:A.units+100*n+400<cLine
 fns: ∀env∈envs,env.scope.kind= .function∧∃a∈ls,env.frame=some a
noncomputable def AH(g:Gl)(C:dI)(n:Nat):Prop:= ∀(A:cH) (envs:List Env) (σ:Hx g),kH A envs σ.nss.ls n→∀(f:PV) (as:List PV) (fv:aF) (vs:List aF) (Q E:aF→aL→Prop),
 σ.V f fv→σ.Vs as vs→σ.bD Hx.V (C f as σ.H) Q E→aP (aM g.prog g.w) A (call fv vs) Q E σ.s
structure jL(S:Sc)(env:Env):Prop where
 kind:env.scope.kind= .function
 glob:env.globals=mainGlobals
 blt:env.builtins=builtinsNs
 jA:iQ S.names=true
 cells: ∀x i,tA S.names x 0=some (i,.cell)→∃c,env.cells.lookup x=some c
 names: ∀x i k,tA S.names x 0=some (i,k)→env.kindOf x=some k∨(k= .free∧env.kindOf x=some .cell)
structure nL(g:Gl)(names:List (Str×dK))(env:Env)(m:Str→Option aF)(h:Heap)(ι:List Addr)(fr:aW):Prop where
 loc: ∀(i:Nat) (x:Str) (p:PV),names[i]?=some (x,.local)→fr[i]?=some (some p)→∃v,m x=some v∧dH g h ι p v
 fS: ∀(i:Nat) (x:Str) (k:dK) (n:Nat),names[i]?=some (x,k)→k= .cell∨k= .free→fr[i]?=some (some (.ref n))→∃c,env.cells.lookup x=some c∧ι[n]?=some c
theorem nL.mono{g:Gl}{names:List (Str×dK)}{env:Env}{m:Str→Option aF}{h h':Heap}{ι ι':List Addr}{fr:aW}(T:tZ g h)(G:eA g h h')(P:Pre ι ι')(x:nL g names env m h ι fr):nL g names env m h' ι' fr:=
 ⟨fun i y p e f=>(x.loc i y p e f).imp fun _ q=>⟨q.1,q.2.mono T G P⟩,fun i y k n e hk f=>(x.fS i y k n e hk f).imp fun _ q=>⟨q.1,P.get q.2⟩⟩
theorem yh{x:Str}{k:dK}{names:List (Str×dK)}{j i:Nat}(e:tA names x j=some (i,k)):j≤i∧names[i-j]?=some (x,k):=by
 induction names generalizing j with
 |nil=>exact dB e|cons y r ih=>
  obtain⟨y,k'⟩:=y;unfold tA at e;by_cases q:x=y
  ·rw[aV q]at e;cases e;subst q;exact⟨fQ _,by rw[yQ];rfl⟩
  ·rw[aN q]at e
   have h:=ih e;refine⟨Vh h.1,?_⟩;rw[show i-j=(i-(j+1))+1 from Pg h.1];exact h.2
theorem slot_get{x:Str}{k:dK}{names:List (Str×dK)}{i:Nat}(e:tA names x 0=some (i,k)):names[i]?=some (x,k):=(yh e).2
theorem Sc.slot_of{S:Sc}{x:Str}{i:Nat}{k:dK}(e:S.slot x=some (i,k)):tA S.names x 0=some (i,k)∧(x==("__debug__":Str))=false∧(x==("__classdict__":Str))=false:=by
 unfold Sc.slot at e;cases q:(jG x "__debug__"||jG x "__classdict__")with
 |true=>rw[q]at e;exact dB e|false=>
  rw[q]at e;have q:=Sn.mp q;exact⟨e,dC.mpr (of_decide_eq_false q.1),dC.mpr (of_decide_eq_false q.2)⟩
noncomputable def RF:List Str:=["len","abs","int","isinstance","list","sorted","set","min","range","str","tuple"].map aA
structure sD(g:Gl)(S:Sc):Prop where
 glob: ∀x p,S.glob x=some p→∃v,nsIn g.K mainGlobals x=some (some v)∧(∀h:Heap,g.base.StaysIn h→dH g h [] p v)∧∀a,p= .aE (.ref a)→keepIn g.K (.ref a)=true
 none_: ∀x,S.glob x=none→x∈RF→nsIn g.K mainGlobals x=some none
 attr: ∀x k,S.attr x=some k→g.attrs[k]?=some x
 attrs:g.attrs.Nodup
 xF: ∀x c f,S.xF x=some (c,f)→findIn g.K (.ref c) x=some (some (.ref f))∧plainGet g.K c x=true∧(∀k:Nat,g.attrs[k]?≠some x)∧isFn g.K (.ref f)=true∧keepIn g.K (.ref f)=true
 exc: ∀c,S.exc c=true→c∈g.FW
section
variable{g:Gl}{S:Sc}{σ τ:Hx g}{env:Env}{A:cH}{C:dI}{rest:bY}{fr:aW}{Q E:aF→aL→Prop}{P:Prop}{v:aF}
structure Ev(g:Gl)(S:Sc)(env:Env)(A:cH)(C:dI)(rest:bY):Prop where
 eo:jL S env
 sc:sD g S
 ok:g.Ok
 lam:S.lam=true→∃t∈g.tabs,env.code= .ref t.1∧env.qual++aA "<lambda>"=t.2.2
 units:A.units+400<cLine
 hand:A.handled=none
 depth:A.depth+20<recursionLimit
 frames: ∃e₀ outer,A.frames=some (e₀::outer)∧e₀.frame=env.frame∧∀e∈e₀::outer,e.scope.kind= .function∧∃a∈env.locals::rest.ls,e.frame=some a
 call: ∀(σ:Hx g),env.locals::rest.ls ⊆ σ.nss.ls→∀(f:PV) (as:List PV) (fv:aF) (vs:List aF) (Q E:aF→aL→Prop),σ.V f fv→σ.Vs as vs→σ.bD Hx.V (C f as σ.H) Q E→aP (aM g.prog g.w) A (call fv vs) Q E σ.s
inductive At(g:Gl)(S:Sc)(env:Env)(rest:bY)(fr:aW)(σ:Hx g):Prop
 |mk (m:Str→Option aF) (on:σ.nss=rest.on env.locals m) (F:nL g S.names env m σ.s.heap σ.ι fr)
theorem At.le(a:At g S env rest fr σ)(l:σ.Le τ):At g S env rest fr τ:=by
 cases a with
 |mk m on F=>exact⟨m,l.nss.trans on,F.mono σ.X.dZ l.grow l.pre⟩
theorem At.frm(a:At g S env rest fr σ)(k: ∀m,Fr g.base env.locals σ.s.heap m→P):P:=by
 cases a with
 |mk m on F=>exact k m (Cx.fr (on▸σ.X))
theorem At.ls(a:At g S env rest fr σ):env.locals::rest.ls ⊆ σ.nss.ls:=by
 cases a with
 |mk m on F=>rw[on];exact fun _ h=>h
noncomputable def bK(g:Gl)(S:Sc)(e:Expr)(d:D):Prop:= ∀(env:Env) (A:cH) (C:dI) (rest:bY),Ev g S env A C rest→∀(fr:aW) (σ:Hx g),At g S env rest fr σ→
 ∀(Q E:aF→aL→Prop),σ.bD Hx.V (d C fr σ.H) Q E→aP (aM g.prog g.w) A (eval e env) Q E σ.s
noncomputable def BR(_:Hx g)(a b:Bool):Prop:=a=b
noncomputable def iN(g:Gl)(S:Sc)(e:Expr)(d:DT):Prop:= ∀(env:Env) (A:cH) (C:dI) (rest:bY),Ev g S env A C rest→∀(fr:aW) (σ:Hx g),At g S env rest fr σ→
 ∀(Q:Bool→aL→Prop) (E:aF→aL→Prop),σ.bD BR (d C fr σ.H) Q E→aP (aM g.prog g.w) A (isTrue e env (eval e env)) Q E σ.s
noncomputable def AN(g:Gl)(S:Sc)(es:List Expr)(d:Ds):Prop:= ∀(pos:Pos) (env:Env) (A:cH) (C:dI) (rest:bY),Ev g S env A C rest→∀(fr:aW) (σ:Hx g),At g S env rest fr σ→
 ∀(Q:List aF→aL→Prop) (E:aF→aL→Prop),σ.bD Hx.Vs (d C fr σ.H) Q E→aP (aM g.prog g.w) A (spliced (backTo pos (starEach es env))) Q E σ.s
theorem RT{c:Const}{k:Nat}{pos:Pos}{d:D}(e:FN c=some d)(p:σ.bD Hx.V (d C fr σ.H) Q E):aP (aM g.prog g.w) A (eval (.Constant c k pos) env) Q E σ.s:=by
 induction c using Const.casesOn with
 |none=>(injection e with e;subst e);exact NX (p.now AS)|bool b=>(injection e with e;subst e);exact wpAny_Constant_bool (p.now pG)|int i=>(injection e with e;subst e);exact aBH (p.tok mX)|str x=>(injection e with e;subst e);exact wpAny_Constant_str (p.tok ON)|_=>exact dB e
theorem zw{c:Const}{k:Nat}{pos:Pos}{d:D}(e:FN c=some d):bK g S (.Constant c k pos) d:=fun _ _ _ _ _ _ _ _ _ _ p=>RT e p
theorem cY{α β:Type}{o:Option α}{f:α→Option β}{b:β}(e:o.bind f=some b)(k: ∀a,o=some a→f a=some b→P):P:=by
 cases o with
 |none=>exact dB e|some a=>exact k a rfl e
theorem UZ{i:Nat}{p:PV}(e:CP fr i=some p):fr[i]?=some (some p):=cY e fun a h1 h2=>by rw[h1];exact bN some h2
theorem Df{H:PH}{i:Nat}{p:PV}(e:De fr H i=some p)(k: ∀n,fr[i]?=some (some (.ref n))→H[n]?=some (.cell (some p))→P):P:=
 cY e fun x h1 h2=>by
  obtain⟨n,o,rfl,h3,h4⟩:=qG h2;cases o with
  |cell v=>exact k n (UZ h1) (h3.trans (bN (fun v=>some (PO.cell v)) h4))|_=>exact dB h4
theorem Hx.cell{i:Nat}{a:Addr}{p:PV}(e:σ.H[i]?=some (.cell (some p)))(ea:σ.ι[i]?=some a)(k: ∀v,(∃o,σ.s.heap.get? a=some o∧o.data= .cell (some v))→σ.V p v→P):P:=
 σ.at e ea fun o h x=>by
  obtain⟨v',e3,u,rfl,r⟩:=x;exact k u ⟨o,h,e3⟩ r
theorem Md{x:Str}{pos:Pos}{d:D}(e:wE S x=some d)(eo:jL S env)(sc:sD g S)(ok:g.Ok)(F:At g S env rest fr σ)(p:σ.bD Hx.V (d C fr σ.H) Q E):aP (aM g.prog g.w) A (eval (.Name x pos) env) Q E σ.s:=by
 obtain⟨m,on,F⟩:=F;have X:Cx g σ.s.heap (rest.on env.locals m) σ.ι σ.H:=on▸σ.X;unfold wE at e;cases q:S.slot x with
 |none=>rw[q]at e;exact dB e|some z=>
  obtain⟨i,k⟩:=z;rw[q]at e;have hs:=Sc.slot_of q;have hk:=eo.names x i k hs.1
  induction k using dK.casesOn with
  |«local»=>
   (injection e with e;subst e)
   refine p.ob fun v hv p=>?_;obtain⟨u,hu,r⟩:=F.loc i x v (slot_get hs.1) (UZ hv);exact YN (aBR eo.kind (hk.elim id fun q=>nomatch q.1) (X.ns _ (.head _)) hu (p.now r)) hs.2.1
  |cell=>
   (injection e with e;subst e)
   refine p.ob fun v hv p=>Df hv fun n h1 h2=>?_;obtain⟨c,wL,wP⟩:=F.fS i x _ n (slot_get hs.1) (.inl rfl) h1;exact σ.cell h2 wP fun u o r=>YN (aBQ eo.kind (hk.elim id fun q=>nomatch q.1) wL o (p.now r)) hs.2.1
  |free=>
   (injection e with e;subst e)
   refine p.ob fun v hv p=>Df hv fun n h1 h2=>?_;obtain⟨c,wL,wP⟩:=F.fS i x _ n (slot_get hs.1) (.inr rfl) h1;exact σ.cell h2 wP fun u o r=>YN (hk.elim (fun hk=>wpAny_loadName_free eo.kind hk wL o (p.now r) hs.2.2) fun hk=>aBQ eo.kind hk.2 wL o (p.now r)) hs.2.1
  |globalImplicit=>
   cases w:S.glob x with
   |none=>dsimp only at e;rw[w]at e;exact dB e|some v=>
    dsimp only at e;rw[w]at e
    (injection e with e;subst e)
    obtain⟨u,hu,r,_⟩:=sc.glob x v w;exact nameG_K X.fr ok.X (topRead_of ok.T) hu (p.now ((r _ σ.X.stays).mono σ.X.dZ (.refl _ _) (Pre.nil _))) eo.glob eo.kind (hk.elim id fun q=>nomatch q.1) hs.2.1
  |_=>exact dB e
theorem Pw{x:Str}{pos:Pos}{d:D}(e:wE S x=some d):bK g S (.Name x pos) d:=fun _ _ _ _ V _ _ F _ _ p=>Md e V.eo V.sc V.ok F p
theorem zn{l r:Expr}{a b:D}{op:Operator}{pos:Pos}(ha:bK g S l a)(hb:bK g S r b):bK g S (.BinOp l op r pos) (bV op a b):=fun env A C rest V fr σ F Q E p=>
 wpAny_BinOp (ha env A C rest V fr σ F _ E (p.bind fun x u τ l r p=>hb env A C rest V fr τ (F.le l) _ E (p.bind fun y v υ k t p=>((F.le l).le k).frm fun m f=>Zf f (r.le k) t p)))
theorem i8{x:Expr}{a:D}{pos:Pos}(ha:bK g S x a):bK g S (.UnaryOp .USub x pos) (xM a):=fun env A C rest V fr σ F Q E p=>
 aBJ (ha env A C rest V fr σ F _ E (p.bind fun x u τ l r p=>p.ob fun i e p=>(iV e▸r:τ.V (.int i) u).int fun t=>Wg (p.tok mX)))
theorem ML{x:PV}{b:Bool}(e:MK x=some b)(r:σ.V x v):(v== .none)=b:=by
 cases x with
 |none=>injection e with e;subst e;rw[r.none];rfl
 |bool b=>injection e with e;subst e;rw[r.bool];rfl
 |int b=>injection e with e;subst e;exact r.int fun t=>rfl
 |str b=>injection e with e;subst e;exact r.str fun t=>rfl
 |tup b=>injection e with e;subst e;exact r.tup fun a vs n _ _=>rfl
 |ref b=>injection e with e;subst e;exact r.ref fun a _=>rfl
 |aE b=>exact dB e|fl b=>injection e with e;subst e;exact r.fl fun a vs _ _=>rfl
theorem f8{l:Expr}{a:D}{pos q:Pos}{k:Nat}(ha:bK g S l a):bK g S (.Compare l [.Is] [.Constant .none k q] pos) (rI a):=fun env A C rest V fr σ F Q E p=>
 Qw (ha env A C rest V fr σ F _ E (p.bind fun x u τ l r p=>p.ob fun b e p=>NX (is_none (by rw[ML e r];exact p.now pG)))) rfl
theorem f9{l:Expr}{a:D}{pos q:Pos}{k:Nat}(ha:bK g S l a):bK g S (.Compare l [.IsNot] [.Constant .none k q] pos) (xK a):=fun env A C rest V fr σ F Q E p=>
 Qw (ha env A C rest V fr σ F _ E (p.bind fun x u τ l r p=>p.ob fun b e p=>NX (isNot_none (by rw[ML e r];exact p.now pG)))) rfl
end
section
variable{g:Gl}{S:Sc}{σ τ:Hx g}{A:cH}{E:aF→aL→Prop}{v:aF}{pos:Pos}
theorem Out.bind_assoc{α β γ:Type}(o:Out α)(f:α→PH→Out β)(k:β→PH→Out γ):(o.bind f).bind k=o.bind fun a H=>(f a H).bind k:=by cases o<;>rfl
theorem Hx.bD.pK{α β γ δ ε:Type}{Q:δ→aL→Prop}{Q₁:β→aL→Prop}{R₁:Hx g→α→β→Prop}{R:Hx g→γ→δ→Prop}{o:Out α}{f:α→PH→Out ε}{f2:ε→PH→Out γ}(p:σ.bD R ((o.bind f).bind f2) Q E)
  (k: ∀a b τ,σ.Le τ→R₁ τ a b→τ.bD R ((f a τ.H).bind f2) Q E→Q₁ b τ.s):σ.bD R₁ o Q₁ E:=Hx.bD.bind (f:=fun a H=>(f a H).bind f2) (Out.bind_assoc o f f2▸p) k
theorem XY{Q:Bool→aL→Prop}{x:PV}(r:σ.V x v)(p:σ.bD BR (truth x σ.H) Q E):aP (aM g.prog g.w) A (truthy v) Q E σ.s:=by
 have key:σ.bD BR (Mine.ob (listAt σ.H x) fun q=>cB (decide (q.2.length≤aJ)) (.ok (!q.2.isEmpty) σ.H)) Q E→aP (aM g.prog g.w) A (truthy v) Q E σ.s:=fun p=>
  p.ob fun q e p=>p.cB fun hl p=>r.listAt e fun a vs k _ _ _ ea rl=>wpAny_truthy_list (items:=vs.toArray) ⟨_,ea,rfl,_,rfl⟩ (by rw[fN,rl.length];have:q.2.length≤8000:=cK hl;exact aS 80419912884183463628253869927121049 rfl this) (p.tok (by show(!_)=!_;rw[List.isEmpty_toArray,rl.isEmpty]))
 induction x using PV.casesOn with
 |bool b=>rw[r.bool];exact YR (p.now rfl)|_=>exact key p
theorem Ps{e:Expr}{d:D}(h:bK g S e d)(he: ∀(env:Env) (whole:Sem aF),isTrue e env whole=(do let v←whole;standAt e.pos;holding [v] (truthy v))):iN g S e (bF d):=fun env A C rest V fr σ F Q E p=>
 isTrue_plain (h env A C rest V fr σ F _ E (p.bind fun x u τ l r p=>XY r p)) (he env _)
theorem zh{x:Expr}{t:DT}(h:iN g S x t):iN g S (.UnaryOp .Not x pos) (tB t):=fun env A C rest V fr σ F Q E p=>
 isTrue_not (h env A C rest V fr σ F _ E (p.bind (R₁:=BR) fun x u τ l r p=>r▸p.now rfl))
theorem zc:iN g S (.BoolOp .And [] pos) rO:=fun _ _ _ _ _ _ _ _ _ _ p=>isTrue_and_nil (p.now rfl)
theorem zj:iN g S (.BoolOp .Or [] pos) oV:=fun _ _ _ _ _ _ _ _ _ _ p=>isTrue_or_nil (p.now rfl)
@[elab_as_elim] theorem BR.k{M:Bool→Bool→Prop}{a b:Bool}(r:BR σ a b)(t:M true true)(f:M false false):M a b:=by
 subst r;cases a<;>assumption
theorem zb{x:Expr}{r:List Expr}{t u:DT}(h:iN g S x t)(h':iN g S (.BoolOp .And r pos) u):iN g S (.BoolOp .And (x::r) pos) (jK t u):=fun env A C rest V fr σ F Q E p=>
 isTrue_and (h env A C rest V fr σ F _ E (p.bind (R₁:=BR) fun x u τ l r p=>by
  revert p;refine r.k (fun p=>?_) fun p=>?_
  ·exact h' env A C rest V fr τ (F.le l) Q E p
  ·exact p.now rfl))
theorem zi{x:Expr}{r:List Expr}{t u:DT}(h:iN g S x t)(h':iN g S (.BoolOp .Or r pos) u):iN g S (.BoolOp .Or (x::r) pos) (gY t u):=fun env A C rest V fr σ F Q E p=>
 isTrue_or (h env A C rest V fr σ F _ E (p.bind (R₁:=BR) fun x u τ l r p=>by
  revert p;refine r.k (fun p=>?_) fun p=>?_
  ·exact p.now rfl
  ·exact h' env A C rest V fr τ (F.le l) Q E p))
theorem g7{t x y:Expr}{dt:DT}{a b:D}(h:iN g S t dt)(ha:bK g S x a)(hb:bK g S y b):bK g S (.IfExp t x y pos) (jB dt a b):=fun env A C rest V fr σ F Q E p=>
 wpAny_IfExp (h env A C rest V fr σ F _ E (p.bind (R₁:=BR) fun x u τ l r p=>by
  revert p;refine r.k (fun p=>?_) fun p=>?_
  ·exact ha env A C rest V fr τ (F.le l) Q E p
  ·exact hb env A C rest V fr τ (F.le l) Q E p))
theorem yy:AN g S [] aH:=fun _ _ _ _ _ _ _ _ _ _ _ p=>spliced_nil (p.now bE.nil)
theorem XN{e:Expr}{r:List Expr}{env:Env}(h:isStar e=false):starEach (e::r) env=(false,eval e env)::starEach r env:=by cases e<;>first|rfl|injection h
theorem Pr{e:Expr}{r:List Expr}{d:D}{ds:Ds}(hs:isStar e=false)(h:bK g S e d)(h':AN g S r ds):AN g S (e::r) (aC d ds):=by
 intro pos env A C rest V fr σ F Q E p;rw[XN hs];exact spliced_cons (x:=eval e env) (rest:=backTo pos (starEach r env)) (h env A C rest V fr σ F _ E (p.bind fun x u τ l r₁ p=>
  h' pos env A C rest V fr τ (F.le l) _ E (p.bind (R₁:=Hx.Vs) fun y w υ k r₂ p=>p.now (bE.cons (r₁.le k) r₂))))
theorem k4{es:List Expr}{ds:Ds}{k:Nat}(h:AN g S es ds):bK g S (.Tuple es k pos) (bM ds):=fun env A C rest V fr σ F Q E p=>
 aBI (h pos env A C rest V fr σ F _ E (p.bind (R₁:=Hx.Vs) fun x u τ l r p=>⟨bW (p.CV r).1 (by decide),(p.CV r).2.1⟩))
theorem g9{es:List Expr}{ds:Ds}(h:AN g S es ds):bK g S (.List es pos) (dN ds):=fun env A C rest V fr σ F Q E p=>
 wpAny_List_spliced (h pos env A C rest V fr σ F _ E (p.bind (R₁:=Hx.Vs) fun x u τ l r p=>⟨bW (p.newList r).1 (by decide),(p.newList r).2⟩))
end
noncomputable def PA.key:PA→PK
 | .int i=> .int i| .str s=> .str s
theorem PA.UL{a b:PA}(h:a.key=b.key):a=b:=by cases a<;>cases b<;>first|(injection h with h;rw[h])|injection h
noncomputable def RH(es:cA):Bool:=es.all fun e=>match e.1 with| .tup _=>false|_=>true
noncomputable def XZ(es:cA):Bool:=es.all fun e=>match e.1 with| .tup _=>true|_=>false
theorem FO(es:cA)(k:PK):bZ es k=(es.find? fun e=>decide (e.1=k)).map (·.2):=by
 induction es with
 |nil=>rfl|cons e r ih=>
  obtain⟨j,p⟩:=e;unfold bZ at ih⊢;rw[gG,jU,ih];by_cases q:k=j
  ·subst q;rw[fG,cC rfl];rfl
  ·rw[show(k==j)=false from dC.mpr q,iW (fun e=>q e.symm)]
theorem kz{α β:Type} [DecidableEq α]{l:List (α×β)}{k:α}{v:β}(h:k∉l.map (·.1)):(l.map fun e=>if e.1=k then(e.1,v)else e)=l:=by
 induction l with
 |nil=>rfl|cons e l ih=>
  rw[dU,dJ,not_or]at h;rw[dU,aN fun e=>h.1 e.symm,ih h.2]
theorem SA{es:cA}{k:PK}{p:PV}(n:(es.map (·.1)).Nodup):bT es k p=if k∈es.map (·.1)then es.map (fun e=>if e.1=k then(e.1,p)else e)else es++[(k,p)]:=by
 induction es with
 |nil=>rfl|cons e r ih=>
  obtain⟨j,u⟩:=e;rw[dU,hA]at n;unfold bT;rw[dU];by_cases q:j=k
  ·subst q
   rw[aV rfl,aV (.head _),dU,aV rfl,kz n.1]
  ·rw[aN q,ih n.2,dU,aN q]
   by_cases z:k∈r.map (·.1)
   ·rw[aV z,aV (.tail _ z)]
   ·rw[aN z,aN (fun h=>(dJ.mp h).elim (fun e=>q e.symm) z)];rfl
theorem ky{α β:Type} [DecidableEq α]{l:List (α×β)}{k:α}{v:β}:(l.map fun e=>if e.1=k then(e.1,v)else e).map (·.1)=l.map (·.1):=by
 rw[tR];exact Ur fun e _=>by simp only[Tp];split<;>rfl
theorem FU{es:cA}{k:PK}{p:PV}(n:(es.map (·.1)).Nodup):((bT es k p).map (·.1)).Nodup:=by
 rw[SA n];by_cases q:k∈es.map (·.1)
 ·rw[aV q,ky];exact n
 ·rw[aN q,kJ,qO]
  exact⟨n,hA.mpr ⟨yK,mD⟩,fun a ha b hb e=>q (by rw[eZ.mp hb]at e;cases e;exact ha)⟩
theorem Dx{es:cA}{k:PK}(n:(es.map (·.1)).Nodup):((iD es k).map (·.1)).Nodup:=yH (aCU _ EB) n
theorem Ef{es:cA}{k:PK}{p:PK×PV→Bool}(h:cZ es k=true)(f: ∀j v,k.like j=true→p (j,v)=true):es.all p=true:=by
 rw[jT];exact fun e he=>f e.1 e.2 (jT.mp h e he)
theorem BH{es:cA}{a:PA}(h:cZ es a.key=true):RH es=true:=Ef h fun j v q=>by cases a<;>cases j<;>first|rfl|exact absurd q lG
theorem FS{es:cA}{l:List PA}(h:cZ es (.tup l)=true):XZ es=true:=Ef h fun j v q=>by cases j<;>first|rfl|exact absurd q lG
theorem kA{α β:Type}{o:Option α}{f:α→β}{M:β→Prop}{b:β}(e:o.map f=some b)(k: ∀a,o=some a→M (f a)):M b:=by
 cases o with
 |none=>exact dB e|some a=>injection e with e;subst e;exact k a rfl
theorem sx{v:PV}{a:PA}(e:Nw v=some a):v=a.val:=by cases v<;>first|(injection e with e;subst e;rfl)|injection e
theorem WN{l:List PV}{ps:List PA}(e:partsOf l=some ps):l=ps.map PA.val:=by
 induction l generalizing ps with
 |nil=>injection e with e;subst e;rfl
 |cons v r ih=>exact cY e fun a h e=>kA (M:=fun ps=>v::r=ps.map PA.val) e fun l h2=>by rw[dU,←ih h2,sx h]
theorem parts_of: ∀l:List PA,partsOf (l.map PA.val)=some l:=List.rec rfl fun a r h=>PA.casesOn a (fun i=>bN (fF (PA.int i:: ·)) h) fun i=>bN (fF (PA.str i:: ·)) h
theorem CK{v:PV}{k:PK}(e:keyOf v=some k):v=k.val:=by
 cases v with
 |int i=>injection e with e;subst e;rfl
 |str i=>injection e with e;subst e;rfl
 |tup l=>exact kA (M:=fun k=>PV.tup l=k.val) e fun l' h=>bN PV.tup (WN h)
 |_=>exact dB e
@[elab_as_elim] theorem PK.cases{M:PK→Prop}(k:PK)(a: ∀a:PA,M a.key)(t: ∀l,M (.tup l)):M k:=by
 cases k with
 |int i=>exact a (.int i)|str i=>exact a (.str i)|tup l=>exact t l
section
variable{g:Gl}{h h':Heap}{ι:List Addr}{es pT:cA}{eK aD1:List (PA×aF)}{a:PA}{v:aF}{p:PV}{P:Prop}{σ:Hx g}{i:Nat}{lk:Bool}{M:aF→Prop}
noncomputable def Tu(g:Gl)(h:Heap)(ι:List Addr)(e:PK×PV)(kv:PA×aF):Prop:=e.1=kv.1.key∧dH g h ι e.2 kv.2
noncomputable abbrev pA(g:Gl)(h:Heap)(ι:List Addr):cA→List (PA×aF)→Prop:=L2 (Tu g h ι)
theorem uQ(r:dH g h ι a.key.val v):a.is v=true:=by
 cases a with
 |int i=>obtain⟨t,rfl⟩:=r;exact cC rfl|str i=>obtain⟨t,rfl⟩:=r;exact cC rfl
theorem By(r:a.is v=true):dH g h ι a.key.val v:=by
 rcases PA.wW r with⟨i,t,rfl,rfl⟩|⟨s,t,rfl,rfl⟩<;>exact qM _ rfl
theorem Hq(a:PA):TL g a.key=a.hash g.w:=by cases a<;>rfl
theorem N1{ds:List fM}(b:RH es=true)(x:lH g h ι es ds): ∃eK,pA g h ι es eK∧Pairs (kD g.prog g.w) ds eK∧∀e∈ds,∃k,(kD g.prog g.w).is k e.key=true∧e.hash=(kD g.prog g.w).hash k:=by
 induction x with
 |nil=>exact⟨[],.nil,.nil,fun _ h=>nomatch h⟩| @cons e d r s x1 t ih=>
  obtain⟨k,p⟩:=e;have b:=eY.mp (show(_&&_)=true from b);revert x1;refine PK.cases k (fun a b' x=>?_) (fun l b'=>absurd b' lG) b.1;obtain⟨eK,z1,z2,z3⟩:=ih b.2;have hi:=uQ x.2.1;refine⟨(a,d.val)::eK,.cons ⟨rfl,x.2.2⟩ z1,.cons hi rfl z2,fun e' iE=>?_⟩;cases iE with
  |head=>exact⟨a,hi,x.1.trans (Hq a)⟩|tail _ iE=>exact z3 e' iE
theorem Kv(x:pA g h ι es eK):es.map (·.1)=(eK.map (·.1)).map PA.key:=by rw[tR];exact x.eqs fun _ _ r=>r.1
theorem VO{α β:Type}{l:List α}{f:α→β}(n:(l.map f).Nodup):l.Nodup:=aCO f (fun a b eP e=>eP (bN f e)) n
@[elab_as_elim] theorem Hx.V.dict(r:σ.V (.ref i) v)(e:σ.H[i]?=some (.dict es lk))(k: ∀a ds n,σ.ι[i]?=some a→σ.s.heap.get? a=some (fJ ds n)→lH g σ.s.heap σ.ι es ds→(es.map (·.1)).Nodup→M (.ref a)):M v:=
 r.ref fun a ea=>σ.at e ea fun o e2 x=>by obtain⟨ds,n,rfl,y,nd⟩:=x;exact k a ds n ea e2 y nd
@[elab_as_elim] theorem Hx.V.BG(r:σ.V (.ref i) v)(e:σ.H[i]?=some (.dict es lk))(b:RH es=true)(k: ∀a eK,σ.ι[i]?=some a→σ.s.heap.DictOf (kD g.prog g.w) a eK→pA g σ.s.heap σ.ι es eK→M (.ref a)):M v:=
 r.dict e fun a ds n ea e2 y nd=>by
  obtain⟨eK,z1,z2,z3⟩:=N1 b y;exact k a eK ea ⟨_,ds.toArray,n,e2,⟨rfl,rfl,rfl⟩,rfl,fun x hx=>z3 x (by simpa using hx),z2,VO (Kv z1▸nd)⟩ z1
theorem Ko(b:PA):decide (b.key=a.key)=decide (b=a):=by
 by_cases q:b=a
 ·rw[q,cC rfl,cC rfl]
 ·rw[iW q,iW fun e=>q (PA.UL e)]
theorem GY(x:pA g h ι es eK)(kn:bZ es a.key=none→valueAt eK a=none→P)(ks: ∀p v,bZ es a.key=some p→valueAt eK a=some v→dH g h ι p v→P):P:=
 x.find (p:=fun e=>decide (e.1=a.key)) (q:=fun kv=>decide (kv.1=a)) (fun e kv r=>by rw[r.1];exact Ko _)
  (fun h1 h2=>kn (by rw[FO,h1];rfl) (by unfold valueAt;rw[h2];rfl)) fun e kv h1 h2 r=>ks e.2 kv.2 (by rw[FO,h1];rfl) (by unfold valueAt;rw[h2];rfl) r.2
theorem Kw(x:pA g h ι es eK):a.key∈es.map (·.1)↔(eK.any fun kv=>decide (kv.1=a))=true:=by
 rw[Kv x,Ub];exact⟨fun h=>by
  obtain⟨b,hb,e⟩:=dY.mp h;obtain⟨kv,hk,rfl⟩:=dY.mp hb;exact⟨kv,hk,cC (PA.UL e)⟩,fun⟨kv,hk,e⟩=>cK e▸lN (lN hk)⟩
theorem UP(n:(es.map (·.1)).Nodup)(rv:dH g h ι p v)(x:pA g h ι es eK):pA g h ι (bT es a.key p) (stored eK a v):=by
 rw[SA n];unfold stored;by_cases q:a.key∈es.map (·.1)
 ·rw[aV q,aV (Kw x|>.mp q)]
  refine x.map fun e kv r=>?_;by_cases z:kv.1=a
  ·rw[aV z,aV (r.1.trans (bN _ z))];exact⟨r.1,rv⟩
  ·rw[aN z,aN fun h=>z (PA.UL (r.1.symm.trans h))];exact r
 ·rw[aN q,aN fun e=>q ((Kw x).mpr e)]
  exact x.append (.cons ⟨rfl,rv⟩ .nil)
theorem gr(x:pA g h ι es eK):pA g h ι (iD es a.key) (without eK a):=x.filter fun e kv r=>by
 rw[r.1];show decide (¬_)=decide (¬_);rw[decide_not,decide_not,Ko]
theorem N0{ds:List fM}(x:pA g h ι es eK)(y:Pairs (kD g.prog g.w) ds eK)(z: ∀e∈ds,∃k,(kD g.prog g.w).is k e.key=true∧e.hash=(kD g.prog g.w).hash k):lH g h ι es ds:=by
 induction x generalizing ds with
 |nil=>cases y;exact .nil| @cons e kv r s x1 t ih=>
  cases y with
  | @cons d _ ds _ h1 h2 h3=>
   obtain⟨k,k1,k2⟩:=z d (.head _);cases(kD g.prog g.w).inj _ _ _ k1 h1;exact .cons ⟨by rw[x1.1];exact k2.trans (Hq _).symm,by rw[x1.1];exact By h1,h2▸x1.2⟩ (ih h3 fun e' iE=>z e' (.tail _ iE))
theorem Ec{b:Addr}{o:Obj}{ds:List fM}{n:Nat}(e:h'.get? b=some o)(c:o.ExactDict)(d:o.data= .dict ds.toArray n)(nd:(es.map (·.1)).Nodup)(r:lH g h ι es ds)(k: ∀o,h'.get? b=some o→fO g h ι (.dict es lk) o→P):P:=by
 obtain⟨oc,od,odt,os⟩:=o;obtain⟨c1,c2,c3⟩:=c;dsimp only at c1 c2 c3 d;subst c1 c2 c3 d;exact k _ e ⟨ds,n,rfl,r,nd⟩
theorem MP{b:Addr}(n:(es.map (·.1)).Nodup)(d:h'.DictOf (kD g.prog g.w) b eK)(x:pA g h ι es eK)(k: ∀o,h'.get? b=some o→fO g h ι (.dict es lk) o→P):P:=by
 obtain⟨o,ds,ep,e1,c,e3,e4,e5,e6⟩:=d;exact Ec (ds:=ds.toList) e1 c (by rw[Sb];exact e3) n (N0 x e5 fun e he=>e4 e (by simpa using he)) k
variable{xs:List (List PA×Addr×aF)}{l:List PA}{b:Addr}
abbrev iJ(g:Gl):HeapKind g.prog g.w (List PA):=tupleKind (kD g.prog g.w)
noncomputable def Tm(g:Gl)(h:Heap)(ι:List Addr)(e:PK×PV)(x:List PA×Addr×aF):Prop:=e.1= .tup x.1∧dH g h [] (PK.tup x.1).val (.ref x.2.1)∧dH g h ι e.2 x.2.2
noncomputable abbrev nM(g:Gl)(h:Heap)(ι:List Addr):cA→List (List PA×Addr×aF)→Prop:=L2 (Tm g h ι)
theorem Ka{vs:List aF}(x:bE g h ι (l.map PA.val) vs):ItemsAre (kD g.prog g.w) l vs:=by
 induction l generalizing vs with
 |nil=>exact x.nG .nil|cons a r ih=>exact bE.kN x fun v s y z=> .cons (uQ (g:=g) (h:=h) (ι:=ι) (by cases a<;>exact y)) (ih z)
theorem fq{vs:List aF}(x:ItemsAre (kD g.prog g.w) l vs):bE g h ι (l.map PA.val) vs:=by
 induction x with
 |nil=>exact .nil| @cons a _ _ _ h1 h2 ih=>exact .cons (by have:=By (g:=g) (h:=h) (ι:=ι) h1;cases a<;>exact this) ih
@[elab_as_elim] theorem zZ(x:dH g h ι (PK.tup l).val v)(k: ∀a,IsTupleKey (kD g.prog g.w) h l a→M (.ref a)):M v:=by
 obtain⟨a,vs,n,rfl,e,y⟩:=x;exact k a ⟨_,vs.toArray,n,e,rfl,rfl,Ka y⟩
theorem UM(x:nM g h ι es xs):es.map (·.1)=(xs.map (·.1)).map PK.tup:=by rw[tR];exact x.eqs fun _ _ r=>r.1
theorem Kp(x:nM g h ι es xs): ∀y∈xs,(iJ g).is h y.1 y.2.1:=fun y m=>x.mem m fun a _ r=>by
 have r:=r.2.1;generalize hv:aR y.2.1=v at r;revert hv;exact zZ r fun a t e=>by cases e;exact t
theorem Fa{ds:List fM}(b:XZ es=true)(x:lH g h ι es ds): ∃xs,nM g h ι es xs∧ds=xs.map (entryOfKey (iJ g)):=by
 induction x with
 |nil=>exact⟨[],.nil,rfl⟩| @cons e d r s x1 t ih=>
  obtain⟨k,p⟩:=e;obtain⟨d1,d2,d3⟩:=d;have b:=eY.mp (show(_&&_)=true from b);obtain⟨xs,z1,z2⟩:=ih b.2;revert x1;refine PK.cases k (fun a b=>absurd b (by cases a<;>exact lG)) (fun l _ x=>?_) b.1;obtain⟨y1,y2,y3⟩:=x;revert y2;dsimp only at y1;subst y1;refine fun y2=>zZ (M:=fun d2=>dH g h [] (PK.tup l).val d2→∃xs,nM g h ι ((PK.tup l,p)::r) xs∧(⟨TL g (.tup l),d2,d3⟩::s:List fM)=xs.map (entryOfKey (iJ g))) y2 (fun a _ y2=>?_) y2;exact⟨(l,a,d3)::xs,.cons ⟨rfl,y2,y3⟩ z1,by rw[dU,←z2];rfl⟩
theorem Fb(x:nM g h ι es xs):lH g h ι es (xs.map (entryOfKey (iJ g))):=by
 have:=x.map (f:=id) (k:=entryOfKey (iJ g)) (R':=ZJ g h ι) fun e y r=>⟨by rw[id,r.1];rfl,by rw[id,r.1];exact r.2.1,r.2.2⟩
 rwa [List.map_id]at this
@[elab_as_elim] theorem Hx.V.KJ(r:σ.V (.ref i) v)(e:σ.H[i]?=some (.dict es lk))(b:XZ es=true)(k: ∀a xs,σ.ι[i]?=some a→σ.s.heap.DictOfH (iJ g) a xs→nM g σ.s.heap σ.ι es xs→(es.map (·.1)).Nodup→M (.ref a)):M v:=
 r.dict e fun a ds n ea e2 y nd=>by
  obtain⟨xs,z1,z2⟩:=Fa b y;exact k a xs ea ⟨_,ds.toArray,n,e2,⟨rfl,rfl,rfl⟩,rfl,z2,Kp z1,VO (UM z1▸nd)⟩ z1 nd
theorem Nk(n:(es.map (·.1)).Nodup)(d:h'.DictOfH (iJ g) b xs)(x:nM g h ι es xs)(k: ∀o,h'.get? b=some o→fO g h ι (.dict es lk) o→P):P:=by
 obtain⟨o,ds,ep,e1,c,e3,e4,e5,e6⟩:=d;exact Ec (ds:=ds.toList) e1 c (by rw[Sb];exact e3) n (e4▸Fb x) k
theorem aAI{l':List PA}:decide (PK.tup l'=PK.tup l)=decide (l'=l):=by
 by_cases q:l'=l
 ·rw[q,cC rfl,cC rfl]
 ·rw[iW q,iW fun e=>q (PK.tup.inj e)]
theorem LY(x:nM g h ι es xs)(kn:bZ es (.tup l)=none→atKey xs l=none→P)(ks: ∀p q,bZ es (.tup l)=some p→atKey xs l=some q→dH g h ι p q.2→P):P:=
 x.find (p:=fun e=>decide (e.1= .tup l)) (q:=fun y=>decide (y.1=l)) (fun e y r=>by rw[r.1];exact aAI)
  (fun h1 h2=>kn (by rw[FO,h1];rfl) (by unfold atKey;rw[h2];rfl)) fun e y h1 h2 r=>ks e.2 y.2 (by rw[FO,h1];rfl) (by unfold atKey;rw[h2];rfl) r.2.2
theorem J5{k:PK}:(bZ es k).isSome=decide (k∈es.map (·.1)):=by
 rw[FO,Vu];by_cases q:k∈es.map (·.1)
 ·rw[cC q,Ah]
  obtain⟨e,he,rfl⟩:=dY.mp q;exact⟨e,he,cC rfl⟩
 ·rw[iW q,Si,ne_eq,Ah]
  exact fun⟨e,he,z⟩=>q (cK z▸lN he)
theorem Kq(x:nM g h ι es xs):PK.tup l∈es.map (·.1)↔(atKey xs l).isSome=true:=by
 rw[←decide_eq_true_iff (p:=PK.tup l∈es.map (·.1)),←J5];exact LY x (l:=l) (fun h1 h2=>by rw[h1,h2];exact Iff.rfl) fun p q h1 h2 _=>by rw[h1,h2];exact⟨fun _=>rfl,fun _=>rfl⟩
theorem Kr(n:(es.map (·.1)).Nodup)(rk:dH g h [] (PK.tup l).val (.ref b))(rv:dH g h ι p v)(x:nM g h ι es xs):nM g h ι (bT es (.tup l) p) (storedH xs l b v):=by
 rw[SA n];unfold storedH;by_cases q:PK.tup l∈es.map (·.1)
 ·rw[aV q,aV ((Kq x).mp q)]
  refine x.map fun e y r=>?_;unfold PySem.putAt;by_cases z:y.1=l
  ·rw[aV z,aV (r.1.trans (bN _ z))];exact⟨r.1,r.2.1,rv⟩
  ·rw[aN z,aN fun h=>z (PK.tup.inj (r.1.symm.trans h))];exact r
 ·rw[aN q,aN fun e=>q ((Kq x).mpr e)]
  exact x.append (.cons ⟨rfl,rk,rv⟩ .nil)
theorem oP{a:Addr}(O:g.Ok)(e:σ.ι[i]?=some a):(a==sysModules)=false:=by
 obtain⟨o,_,_,e',_⟩:=O.T.g;exact dC.mpr fun q=>absurd (JQ (fI e') (q▸(σ.X.dis a (σ.X.mem e)).2.2)) (by decide)
end
section
variable{α β:Type}{P:Prop}
theorem or_eq{o u:Option α}{a:α}(e:o.or u=some a)(k1:o=some a→P)(k2:u=some a→P):P:=by
 cases o with
 |none=>exact k2 e|some b=>exact k1 e
theorem nH{b:Bool}{a c:α}{M:α→Prop}(e:og b a=some c)(k:b=true→M a):M c:=by
 cases b with
 |false=>exact dB e|true=>injection e with e;subst e;exact k rfl
theorem EV{x:PV}{l:List PV}(h:vY x=some l):x= .tup l:=by
 cases x with
 |tup b=>injection h with h;subst h;rfl
 |_=>injection h
end
section
variable{g:Gl}{σ:Hx g}{A:cH}{E Q:aF→aL→Prop}{x y:PV}{a b v:aF}{r:Bool}{P:Prop}
structure AM(h:Heap)(n:Nat)(v:aF)(d:PyData):Prop where
 r: ∃as,Reads h v d as
 c:d.canLay0=true
 d:d.depth≤n
theorem Os{n:Nat}{f:PV→Option PyData}(ih: ∀p v d,f p=some d→σ.V p v→AM σ.s.heap n v d){l:List PV}{vs:List aF}{ds:List PyData}(e:rP f l=some ds)(x:σ.Vs l vs):
  (∃as,ReadsAll σ.s.heap vs ds as)∧Wa ds=true∧Wc ds≤n:=by
 induction l generalizing vs ds with
 |nil=>injection e with e;subst e;exact bE.nG x ⟨⟨[],.nil⟩,rfl,lK _⟩
 |cons p r cg=>
  refine bE.kN x fun v s y z=>?_;unfold rP at e;refine bQ fun G_ aQ=>?_;cases hd:f p with
  |none=>rw[hd]at e;refine aQ ?_;exact dB e|some d=>
   cases nV:rP f r with
   |none=>rw[hd,nV]at e;refine aQ ?_;exact dB e|some ds=>
    rw[hd,nV]at e;injection e with e;subst e;obtain⟨⟨as,a1⟩,a2,a3⟩:=ih _ _ _ hd y;obtain⟨⟨bs,b1⟩,b2,b3⟩:=cg nV z;refine aQ ?_;exact⟨⟨_,.cons a1 b1⟩,by unfold Wa;rw[a2,b2];rfl,by unfold Wc;exact Nat.max_le.mpr ⟨a3,b3⟩⟩
theorem Cn{n:Nat}{p:PV}{d:PyData}(e:RE p=some d)(x:σ.V p v):AM σ.s.heap n v d:=by
 induction p using PV.casesOn with
 |none=>injection e with e;subst e;rw[x.none];exact⟨⟨_,.none⟩,rfl,lK _⟩
 |bool b=>injection e with e;subst e;rw[x.bool];exact⟨⟨_,.bool b⟩,rfl,lK _⟩
 |int b=>injection e with e;subst e;exact x.int fun t=>⟨⟨_,.int b t⟩,rfl,lK _⟩
 |str b=>exact nH (M:=fun d=>AM σ.s.heap n v d) e fun q=>x.str fun t=>⟨⟨_,.str b t⟩,q,lK _⟩
 |_=>exact dB e
theorem Ot(n:Nat)(p:PV)(v:aF)(d:PyData)(e:toPy σ.H n p=some d)(x:σ.V p v):AM σ.s.heap n v d:=by
 induction n generalizing p v d with
 |zero=>exact Cn e x|succ n ih=>
  refine or_eq (show Option.or _ _=_ from e) (fun e=>Cn e x) fun e=>or_eq e (fun e=>cY e fun l h1 e=>?_) fun e=>cY e fun q h1 e=>?_
  ·refine kA (M:=fun d=>AM σ.s.heap (n+1) v d) e fun ds nV=>?_
   exact(EV h1▸x:σ.V (.tup l) v).tup fun a vs k ea y=>by
    obtain⟨⟨as,b1⟩,b2,b3⟩:=Os ih nV y;exact⟨⟨_,.tuple ea rfl rfl b1⟩,b2,tX b3⟩
  ·refine kA (M:=fun d=>AM σ.s.heap (n+1) v d) e fun ds nV=>?_
   exact x.listAt h1 fun a vs k _ _ ei ea y=>by
    obtain⟨⟨as,b1⟩,b2,b3⟩:=Os ih nV y;exact⟨⟨_,.list ea rfl rfl b1⟩,b2,tX b3⟩
theorem xm{prog:Program}{w:World}{A:cH}{E:aF→aL→Prop}{s:aL}{nm:String}{a b:Addr}{ds:List fM}{n k:Nat}{Q:Bool→aL→Prop}(ha:(a==sysModules)=false)(hb:(b==sysModules)=false)
  (da:s.heap.get? a=some (fJ ds n)) (db:s.heap.get? b=some (fJ [] k)) (h:Q ds.isEmpty s):aP (aM prog w) A (Sq nm a b) Q E s:=by
 unfold Sq IW;rw[aN (show¬(a==sysModules)=true by rw[ha];exact lG),aN (show¬(b==sysModules)=true by rw[hb];exact lG)];refine aO (bA (aO (bA (aO (xW da rfl ?_)))));dsimp only;refine aO (xW db rfl ?_)
 induction ds using List.casesOn with
 |nil=>
  rw[aN (by simp)];refine aO (NY da rfl ?_);simp;exact bA (by simpa using h)
 |cons e r=>
  rw[aV (by simp)];exact aO (wpAny_rule (bA h))
theorem mz{prog:Program}{w:World}{s:aL}{a b:Addr}{ds:List fM}{n k:Nat}{Q:aF→aL→Prop}(ha:(a==sysModules)=false)(hb:(b==sysModules)=false)
  (da:s.heap.get? a=some (fJ ds n)) (db:s.heap.get? b=some (fJ [] k)) (hu:A.units<cLine) (h:Q (.bool (!ds.isEmpty)) s):aP (aM prog w) A (compareOp .NotEq (.ref a) (.ref b)) Q E s:=by
 have ta:s.TypeIs (.ref a) "dict":=⟨_,da,rfl⟩;have tb:s.TypeIs (.ref b) "dict":=⟨_,db,rfl⟩;refine wpAny_richCompare_same_room (op:= .NotEq) ta tb Wu (rR Wu ta PySem.F.entry_dict_ne ?_ (PySem.F.args_dict_ne_2 _ _)) hu;show aP _ _ (Sp "__ne__" ⟨[.ref a,.ref b],[]⟩>>=_) _ _ s;unfold Sp;refine aO (aO (YQ ta ?_));show aP _ _ (pure (aR a,aR b)) _ _ s;refine bA (aO (Rc (T:= "dict") tb PySem.F.sub_dict_dict ?_));simp only[Sl,xZ,if_false];refine aO (bA (aO (bA (aO (xm ha hb da db ?_)))));refine bA ⟨_,rfl,?_,?_⟩
 ·exact fun x=>MH Xk x rfl
 ·simpa using h
theorem str_beq(x y:Str):(x==y)=(x.cps.toList==y.cps.toList):=by
 by_cases q:x=y
 ·rw[q,fG,fG]
 ·rw[dC.mpr q,dC.mpr fun z=>q (by cases x;cases y;simpa using z)]
theorem Ob(hu:A.units+10<cLine)(ra:σ.V x a)(rb:σ.V y b)(e:xP σ.H x y=some r):(Q (.bool r) σ.s→aP (aM g.prog g.w) A (compareOp .Eq a b) Q E σ.s)∧(Q (.bool !r) σ.s→aP (aM g.prog g.w) A (compareOp .NotEq a b) Q E σ.s):=by
 refine or_eq e (fun e=>cY e fun i h1 e=>kA (M:=fun r=>(Q (.bool r) σ.s→aP (aM g.prog g.w) A (compareOp .Eq a b) Q E σ.s)∧(Q (.bool !r) σ.s→aP (aM g.prog g.w) A (compareOp .NotEq a b) Q E σ.s)) e fun j h2=>?_) fun e=>
  or_eq e (fun e=>cY e fun i h1 e=>kA (M:=fun r=>(Q (.bool r) σ.s→aP (aM g.prog g.w) A (compareOp .Eq a b) Q E σ.s)∧(Q (.bool !r) σ.s→aP (aM g.prog g.w) A (compareOp .NotEq a b) Q E σ.s)) e fun j h2=>?_) fun e=>
   cY e fun d h1 e=>kA (M:=fun r=>(Q (.bool r) σ.s→aP (aM g.prog g.w) A (compareOp .Eq a b) Q E σ.s)∧(Q (.bool !r) σ.s→aP (aM g.prog g.w) A (compareOp .NotEq a b) Q E σ.s)) e fun d' h2=>?_
 ·exact(iV h1▸ra:σ.V (.int i) a).int fun t=>(iV h2▸rb:σ.V (.int j) b).int fun u=>⟨fun h=>aC5 h,fun h=>aDC h⟩
 ·rw[str_beq]
  exact(pJ h1▸ra:σ.V (.str i) a).str fun t=>(pJ h2▸rb:σ.V (.str j) b).str fun u=>⟨fun h=>P.eq_str h,fun h=>P.ne_str h⟩
 ·refine bQ fun G_ aQ=>?_
  obtain⟨⟨as,r1⟩,c1,q1⟩:=Ot 6 _ _ _ h1 ra;obtain⟨⟨bs,r2⟩,c2,q2⟩:=Ot 6 _ _ _ h2 rb;have uO:A.units+min d.depth d'.depth<cLine:=tW (vR (bW (Az _ _) (bW q1 (by decide))) _) hu;refine aQ ?_;exact⟨fun h=>SeqAt.compareEq_reads r1 r2 c1 c2 uO h,fun h=>SeqAt.compareNe_reads r1 r2 c1 c2 uO h⟩
end
section
variable{g:Gl}{S:Sc}{σ τ:Hx g}{A:cH}{E Q:aF→aL→Prop}{x y:PV}{a b v:aF}{r:Bool}{P:Prop}{h:Heap}{ι:List Addr}{s:aL}{pos:Pos}
noncomputable def kv:PA→Tok→aF
 | .int i,t=> .int i t| .str i,t=> .str i t
noncomputable def rQ:PA→aF→Bool
 | .int a,.int i _=>i==a| .str a,.str i _=>i==a|_,_=>false
theorem PA.Co(i j:Int):(i==j)=((PA.int i)== .int j):=by
 by_cases q:i=j
 ·rw[q,fG,fG]
 ·rw[dC.mpr q,dC.mpr fun z=>q (PA.int.inj z)]
theorem PA.Zd(i j:Str):(i==j)=((PA.str i)== .str j):=by
 by_cases q:i=j
 ·rw[q,fG,fG]
 ·rw[dC.mpr q,dC.mpr fun z=>q (PA.str.inj z)]
theorem N4{p k:PA}{t:Tok}(r:dH g h ι p.val v):Xh A s v (kv k t) (rQ k v)∧rQ k v=(p==k):=by
 cases p with
 |int i=>
  obtain⟨u,rfl⟩: ∃u,v= .int i u:=r;cases k with
  |int j=>exact⟨aDO _ _ _ _,PA.Co i j⟩|str j=>exact⟨Xi _ _ _ _,rfl⟩
 |str i=>
  obtain⟨u,rfl⟩: ∃u,v= .str i u:=r;cases k with
  |int j=>exact⟨Xj _ _ _ _,rfl⟩|str j=>exact⟨aDP _ _ _ _,PA.Zd i j⟩
theorem SH{k:PA}{t:Tok}{ps:List PA}{vs:List aF}(x:bE g h ι (ps.map PA.val) vs):(∀y∈vs,Xh A s y (kv k t) (rQ k y))∧vs.any (rQ k)=ps.any (· ==k)∧vs.countP (rQ k)=ps.countP (· ==k):=by
 induction ps generalizing vs with
 |nil=>exact x.nG ⟨fun y hy=>(nomatch hy),rfl,rfl⟩|cons p ps ih=>
  refine bE.kN x fun v r y z=>?_;have e:=N4 (A:=A) (s:=s) (k:=k) (t:=t) y;exact⟨Uk.mpr ⟨e.1,(ih z).1⟩,by rw[Aa,Aa,(ih z).2.1,e.2],by rw[Uc,Uc,(ih z).2.2,e.2]⟩
noncomputable def yE(g:Gl)(A:cH)(a b:aF)(r:Bool)(s:aL):Prop:= ∀(Q E:aF→aL→Prop),((∀tk,Q (.bool r) {s with toks:=tk})→aP (aM g.prog g.w) A (compareOp .In a b) Q E s)∧((∀tk,Q (.bool !r) {s with toks:=tk})→aP (aM g.prog g.w) A (compareOp .NotIn a b) Q E s)
theorem cn(ra:σ.V x a)(rb:σ.V y b)(e:UD x y=some r):yE g A a b r σ.s:=by
 refine cY e fun w h1 e=>cY e fun l h2 e=>kA (M:=fun r=>yE g A a b r σ.s) e fun ps h3 Q E=>?_;refine(pJ h1▸ra:σ.V (.str w) a).str fun t=>(EV h2▸rb:σ.V (.tup l) b).tup fun u vs n eu ru=>?_;have k:=SH (A:=A.in1) (s:=σ.s) (k:= .str w) (t:=t) (WN h3▸ru:σ.Vs (ps.map PA.val) vs);rw[←k.2.1];exact⟨fun h=>SeqAt.in_tupleAt (items:=vs.toArray) (rQ (.str w)) ⟨_,eu,rfl,_,rfl⟩ (fun y hy=>k.1 y (by simpa using hy)) (by simpa using h σ.s.toks),fun h=>SeqAt.notIn_tupleAt (items:=vs.toArray) (rQ (.str w)) ⟨_,eu,rfl,_,rfl⟩ (fun y hy=>k.1 y (by simpa using hy)) (by simpa using h σ.s.toks)⟩
theorem in_list(ra:σ.V x a)(rb:σ.V y b)(e:Iy σ.H x y=some r):yE g A a b r σ.s:=by
 refine cY e fun w h1 e=>cY e fun q h2 e=>kA (M:=fun r=>yE g A a b r σ.s) e fun ps h3 Q E=>?_;refine(iV h1▸ra:σ.V (.int w) a).int fun t=>rb.listAt h2 fun u vs n _ _ _ eu ru=>?_;have k:=SH (A:=A.in1) (s:=σ.s) (k:= .int w) (t:=t) (WN h3▸ru:σ.Vs (ps.map PA.val) vs);rw[←k.2.1];exact⟨fun h=>SeqAt.in_listAt (items:=vs.toArray) (rQ (.int w)) ⟨_,eu,rfl,_,rfl⟩ (fun y hy=>k.1 y (by simpa using hy)) (by simpa using h σ.s.toks),fun h=>SeqAt.notIn_listAt (items:=vs.toArray) (rQ (.int w)) ⟨_,eu,rfl,_,rfl⟩ (fun y hy=>k.1 y (by simpa using hy)) (by simpa using h σ.s.toks)⟩
theorem in_dict(O:g.Ok)(hu:A.units+10<cLine)(ra:σ.V x a)(rb:σ.V y b)(e:inDict σ.H x y=some r):yE g A a b r σ.s:=by
 refine cY e fun q h1 e=>cY e fun k h2 e=>nH (M:=fun r=>yE g A a b r σ.s) e fun hd Q E=>?_;obtain⟨rfl,i1⟩:=sJ h1;rw[CK h2]at ra;revert ra hd;refine PK.cases k (fun k ra hd=>?_) fun l ra hd=>?_
 ·refine rb.BG i1 (BH hd) fun d eK ed dd kv=>?_
  rw[show(bZ q.2.1 k.key).isSome=(valueAt eK k).isSome from GY kv (a:=k) (fun e1 e2=>by rw[e1,e2];rfl) fun p v e1 e2 _=>by rw[e1,e2];rfl];exact⟨fun h=>wpAny_in_of (uQ ra) (oP O ed) dd.mapOf (h _),fun h=>wpAny_notIn_of (uQ ra) (oP O ed) dd.mapOf (h _)⟩
 ·refine rb.KJ i1 (FS hd) fun d xs ed dd kv nd=>?_
  rw[show(bZ q.2.1 (.tup l)).isSome=(atKey xs l).isSome from LY kv (l:=l) (fun e1 e2=>by rw[e1,e2];rfl) fun p v e1 e2 _=>by rw[e1,e2];rfl];have uO:A.in1.units<cLine:=tW (vR (by decide) _) hu;exact zZ (M:=fun a=>((∀tk,Q (.bool (atKey xs l).isSome) {σ.s with toks:=tk})→aP (aM g.prog g.w) A (compareOp .In a (.ref d)) Q E σ.s)∧((∀tk,Q (.bool !(atKey xs l).isSome) {σ.s with toks:=tk})→aP (aM g.prog g.w) A (compareOp .NotIn a (.ref d)) Q E σ.s)) ra fun t hk=>
   ⟨fun h=>wpAny_in_heap (knd:=iJ g) uO hk (oP O ed) dd (h _),fun h=>wpAny_notIn_heap (knd:=iJ g) uO hk (oP O ed) dd (h _)⟩
theorem Ja(O:g.Ok)(hu:A.units+10<cLine)(ra:σ.V x a)(rb:σ.V y b)(e:isIn σ.H x y=some r):yE g A a b r σ.s:=
 or_eq e (cn ra rb) fun e=>or_eq e (in_dict O hu ra rb) (in_list ra rb)
noncomputable def BV(_:Hx g)(b:Bool)(v:aF):Prop:=v= .bool b
theorem MT{fi:Int→Int→Bool}{fs:Str→Str→Bool}(ra:σ.V x a)(rb:σ.V y b)(e:HR fi fs x y=some r)(ki: ∀i j t u,r=fi i j→a= .int i t→b= .int j u→P)(ks: ∀i j t u,r=fs i j→a= .str i t→b= .str j u→P):P:=
 or_eq e (fun e=>cY e fun i h1 e=>by
  obtain⟨j,h2,e⟩:=lO.mp e;exact(iV h1▸ra:σ.V (.int i) a).int (M:=fun a'=>a=a'→P) (fun t ea=>(iV h2▸rb:σ.V (.int j) b).int (M:=fun b'=>b=b'→P) (fun u eb=>ki i j t u e.symm ea eb) rfl) rfl) fun e=>cY e fun i h1 e=>by
  obtain⟨j,h2,e⟩:=lO.mp e;exact(pJ h1▸ra:σ.V (.str i) a).str (M:=fun a'=>a=a'→P) (fun t ea=>(pJ h2▸rb:σ.V (.str j) b).str (M:=fun b'=>b=b'→P) (fun u eb=>ks i j t u e.symm ea eb) rfl) rfl
theorem my(O:g.Ok)(hu:A.units+10<cLine)(ra:σ.V x a)(rb:σ.V y b)(e:Mh σ.H x y=some r)(h:Q (.bool r) σ.s):aP (aM g.prog g.w) A (compareOp .NotEq a b) Q E σ.s:=by
 revert h;refine cY e fun p h1 e=>cY e fun q h2 e=>nH (M:=fun r=>Q (.bool r) σ.s→aP (aM g.prog g.w) A (compareOp .NotEq a b) Q E σ.s) e fun hq h=>?_;obtain⟨rfl,i1⟩:=sJ h1;obtain⟨rfl,i2⟩:=sJ h2;refine ra.dict i1 fun d ds n ea e1 y1 _=>rb.dict i2 fun d' BI n' eb e2 y2 _=>?_;have z: ∀{es:cA} {ds:List fM},lH g σ.s.heap σ.ι es ds→es.isEmpty=ds.isEmpty:=fun x=>by cases x<;>rfl
 have e3:BI=[]:=JK.mp ((z y2).symm.trans hq);subst e3;exact mz (oP O ea) (oP O eb) e1 e2 (tW (EJ _ _) hu) (z y1▸h)
theorem BD{op:CmpOp}(O:g.Ok)(hu:A.units+10<cLine)(ra:σ.V x a)(rb:σ.V y b)(p:σ.bD BV (dE op x y σ.H) Q E):aP (aM g.prog g.w) A (compareOp op a b) Q E σ.s:=by
 refine p.ob fun r e p=>?_;have h:Q (.bool r) σ.s:=p.now rfl;have hk: ∀tk,Q (.bool r) {σ.s with toks:=tk}:=fun tk=>p.tok rfl;clear p
 induction op using PySem.CmpOp.casesOn with
 |Eq=>exact(Ob hu ra rb e).1 h|NotEq=>
  refine or_eq e (fun e=>my O hu ra rb e h) fun e=>?_;obtain⟨r',h2,rfl⟩:=lO.mp e;exact(Ob hu ra rb h2).2 h
 |Lt=>exact MT ra rb e (fun i j t u h1 h2 h3=>by subst h1 h2 h3;exact Wf h) fun i j t u h1 h2 h3=>by subst h1 h2 h3;exact P.lt_str h
 |LtE=>exact MT ra rb e (fun i j t u h1 h2 h3=>by subst h1 h2 h3;exact aC9 h) fun i j t u h1 h2 h3=>by subst h1 h2 h3;exact P.le_str h
 |Gt=>exact MT ra rb e (fun i j t u h1 h2 h3=>by subst h1 h2 h3;exact aC8 h) fun i j t u h1 h2 h3=>by subst h1 h2 h3;exact P.gt_str h
 |GtE=>exact MT ra rb e (fun i j t u h1 h2 h3=>by subst h1 h2 h3;exact aC7 h) fun i j t u h1 h2 h3=>by subst h1 h2 h3;exact P.ge_str h
 |In=>exact(Ja O hu ra rb e Q E).1 hk|NotIn=>
  obtain⟨r',h2,rfl⟩:=lO.mp e;exact(Ja O hu ra rb h2 Q E).2 hk
 |_=>exact dB e
theorem Ev.tE{env:Env}{C:dI}{rest:bY}(V:Ev g S env A C rest):A.units+10<cLine:=tW (vR (by decide) _) V.units
theorem BV.V{x:Bool}{u:aF}(r:BV σ x u):σ.V (.bool x) u:=by unfold BV at r;subst r;exact pG
theorem BV.t{Q:Bool→aL→Prop}{x:Bool}{u:aF}(r:BV σ x u)(p:σ.bD BR (.ok x σ.H) Q E):aP (aM g.prog g.w) A (truthy u) Q E σ.s:=by unfold BV at r;subst r;exact YR (p.now rfl)
theorem zu{l r:Expr}{a b:D}{op:CmpOp}(ha:bK g S l a)(hb:bK g S r b)(hm:behindInMarks op r=false):bK g S (.Compare l [op] [r] pos) (bB op a b):=fun env A C rest V fr σ F Q E p=>
 Qw (ha env A C rest V fr σ F _ E (p.bind fun x u τ l r p=>hb env A C rest V fr τ (F.le l) _ E (p.bind fun y w υ k t p=>BD V.ok V.tE (r.le k) t (p.bind fun z c φ _ q p=>p.now q.V)))) hm
theorem XO{env:Env}{M:Model}{l r:Expr}{op:CmpOp}{whole:Sem aF}{Q:Bool→aL→Prop}(hm:behindInMarks op r=false)
  (h:aP M A (eval l env) (fun a s₁=>aP M A (eval r env) (fun b s₂=>aP M A (compareOp op a b) (fun c s₃=>aP M A (truthy c) Q E s₃) E s₂) E s₁) E s):aP M A (isTrue (.Compare l [op] [r] pos) env whole) Q E s:=by
 rw[isTrue_Compare1,markedBehindIn_of_false hm];exact aO (rS h (fun a s₁ h₁=>aO (mV (rS h₁ (fun b s₂ h₂=>aO (xX (aO (wpAny_operate' (rS h₂ (fun c s₃ h₃=>mV h₃) fun _ _ x=>x))))) fun _ _ x=>x))) fun _ _ x=>x)
theorem zd{l r:Expr}{a b:D}{op:CmpOp}(ha:bK g S l a)(hb:bK g S r b)(hm:behindInMarks op r=false):iN g S (.Compare l [op] [r] pos) (bF (bB op a b)):=fun env A C rest V fr σ F Q E p=>
 XO hm (ha env A C rest V fr σ F _ E (p.pK fun x u τ l r p=>hb env A C rest V fr τ (F.le l) _ E (p.pK fun y w υ k t p=>BD V.ok V.tE (r.le k) t (p.pK fun z c φ _ q p=>q.t p))))
theorem zf{l:Expr}{a:D}{q:Pos}{k:Nat}(ha:bK g S l a):iN g S (.Compare l [.Is] [.Constant .none k q] pos) (bF (rI a)):=fun env A C rest V fr σ F Q E p=>
 XO rfl (ha env A C rest V fr σ F _ E (p.pK fun x u τ l r p=>by
  cases e:MK x with
  |none=>unfold uP at p;rw[e]at p;exact p.elim|some b=>unfold uP at p;rw[e]at p;exact NX (is_none (by rw[ML e r];exact XY pG p))))
theorem zg{l:Expr}{a:D}{q:Pos}{k:Nat}(ha:bK g S l a):iN g S (.Compare l [.IsNot] [.Constant .none k q] pos) (bF (xK a)):=fun env A C rest V fr σ F Q E p=>
 XO rfl (ha env A C rest V fr σ F _ E (p.pK fun x u τ l r p=>by
  cases e:MK x with
  |none=>unfold uP at p;rw[e]at p;exact p.elim|some b=>unfold uP at p;rw[e]at p;exact NX (isNot_none (by rw[ML e r];exact XY pG p))))
theorem Lf{oA kY:CmpOp}{a b:Expr}(h:behindInMarks kY b=false):lastMarks [oA,kY] [a,b]=false:=h
theorem zv{l r₁ r₂:Expr}{a b c:D}{oA kY:CmpOp}(ha:bK g S l a)(hb:bK g S r₁ b)(hc:bK g S r₂ c)(hm:behindInMarks kY r₂=false):bK g S (.Compare l [oA,kY] [r₁,r₂] pos) (vA oA kY a b c):=fun env A C rest V fr σ F Q E p=>
 Compare_chain (ha env A C rest V fr σ F _ E (p.bind fun x u τ l r p=>chain_link (hb env A C rest V fr τ (F.le l) _ E (p.bind fun y w υ k t p=>BD V.ok V.tE (r.le k) t (p.bind fun z c φ i q p=>by
  unfold BV at q;subst q;refine YR ?_
  induction z using Bool.casesOn with
  |false=>exact p.now pG|true=>exact chain_last (hc env A C rest V fr φ (((F.le l).le k).le i) _ E (p.bind fun y' u' ψ j t' p=>BD V.ok V.tE ((t.le i).le j) t' (p.bind fun z c χ _ q p=>p.now q.V)))))))) (Lf hm)
theorem ze{l r₁ r₂:Expr}{a b c:D}{oA kY:CmpOp}(ha:bK g S l a)(hb:bK g S r₁ b)(hc:bK g S r₂ c)(hm:behindInMarks kY r₂=false):iN g S (.Compare l [oA,kY] [r₁,r₂] pos) (bF (vA oA kY a b c)):=fun env A C rest V fr σ F Q E p=>
 isTrue_chain (ha env A C rest V fr σ F _ E (p.pK fun x u τ l r p=>test_link (hb env A C rest V fr τ (F.le l) _ E (p.pK fun y w υ k t p=>BD V.ok V.tE (r.le k) t (p.pK fun z c φ i q p=>by
  unfold BV at q;subst q;refine YR ?_
  induction z using Bool.casesOn with
  |false=>exact p.now rfl|true=>exact test_last (hc env A C rest V fr φ (((F.le l).le k).le i) _ E (p.pK fun y' u' ψ j t' p=>BD V.ok V.tE ((t.le i).le j) t' (p.pK fun z c χ _ q p=>q.t p)))))))) (Lf hm)
end
section
variable{g:Gl}{S:Sc}{σ τ:Hx g}{A:cH}{E Q:aF→aL→Prop}{x y:PV}{a b v:aF}{P:Prop}{s:aL}{pos:Pos}{prog:Program}{w:World}{value slice:Expr}
set_option tactic.hygienic true in
theorem x8{o i:aF}(k: ∀ops,subscripted slice false o i=operate ops (getItem o i)→P):P:=by
 cases slice<;>try exact k _ rfl
 rename_i a b c d;cases c<;>exact k _ rfl
theorem tD{T:String}{o i:aF}(hT:s.TypeIs o T)(hl:T= "list"∨T= "tuple"∨T= "dict")(h:aP (aM prog w) A (getItem o i) Q E s):aP (aM prog w) A (subscriptTail value slice o i) Q E s:=
 x8 (slice:=slice) (o:=o) (i:=i) fun ops hs=>by
  rcases hl with rfl|rfl|rfl
  ·exact tail_any hT slot_list_getitem.lookup h hs
  ·exact tail_any hT slot_tuple_getitem.lookup h hs
  ·exact tail_any hT PySem.F.slot_dict_getitem.lookup h hs
theorem jp{b:Bool}{Q:Option Int→aL→Prop}(h:Q (some (cond b 1 0)) s):aP (aM prog w) A (OB (.bool b)) Q E s:=by
 unfold OB;refine aO (wpAny_specialOf (T:= "bool") (s:=s) (show s.TypeIs (.bool b) "bool" from rfl) PySem.F.slot_bool_index.lookup ?_);show aP _ _ (asIndex (.bool b)>>=_) _ _ s;cases b<;>exact aO (wpAny_of_eq rfl (bA h))
theorem U6{l:Addr}{items:Array aF}{b:Bool}{x:aF}(hl:s.heap.IsList l items)(hx:items[cond b 1 0]?=some x)(h:Q x s):aP (aM prog w) A (getItem (.ref l) (.bool b)) Q E s:=by
 obtain⟨o,ho,hc,ne,hd⟩:=id hl;unfold getItem
 try with_reducible refine mV ?_
 first|refine aO (bA ?_)|skip
 refine aO (Rj hl.typeIs (by decide) (aO (IU (name:=aA "__getitem__") hl.typeIs slot_list_getitem (rR slot_list_getitem hl.typeIs entry_list_getitem ?_ (args_list_getitem _ _)))));show aP _ _ (OB (.bool b)>>=_) _ _ s;refine aO (jp ?_);rw[show(cond b (1:Int) 0)=((cond b 1 0:Nat):Int) by cases b<;>rfl];show aP _ _ ((seqItemAt l (cond b 1 0)>>=fun r=>pure (r.map (cond b 1 0,·)))>>=_) _ _ s;refine aO (aO (aBW ho hd (bA ?_)));rw[hx]
 first
  |exact aO (bA (bA ⟨x,rfl,bA h⟩))|exact bA ⟨x,rfl,bA h⟩
theorem XD{l:List PV}{i:Int}{p:PV}(e:iI l i=some p)(k1:l.length≤8000→0≤i→l[i.toNat]?=some p→P)(k2:l.length≤8000→i<0→ -(l.length:Int)≤i→l[(i+l.length).toNat]?=some p→P):P:=by
 unfold iI at e;by_cases hl:aJ<l.length
 ·rw[aV hl]at e;exact dB e
 ·have hl:=Vf hl
  rw[aN (Vl hl)]at e;by_cases h0:0≤i
  ·rw[aV h0]at e;exact k1 hl h0 e
  ·rw[aN h0]at e
   by_cases h1: -(l.length:Int)≤i
   ·rw[aV h1]at e;exact k2 hl (Int.lt_of_not_ge h0) h1 e
   ·rw[aN h1]at e;exact dB e
theorem Mk{n:Nat}{i:Int}(h0:i<0)(h1: -(n:Int)≤i):seqIndex? i n=some (i+n).toNat:=by
 unfold seqIndex?;rw[aV h0,aV];simp;exact⟨jX 2171877619204227096 rfl h1,jX 270218505247401241 rfl h0⟩
theorem JX{vs:List aF}{i:Nat}(h:vs[i]?=some v):vs.toArray[i]?=some v:=by rw[Am];exact h
theorem U5{l:Addr}{vs:List aF}{n:Nat}{i:Int}{t:Tok}{ps:List PV}{p:PV}(et:σ.s.heap.get? l=some (cQ vs n))(rt:σ.Vs ps vs)(e:iI ps i=some p)(h: ∀v,σ.V p v→Q v σ.s):aP (aM g.prog g.w) A (getItem (.ref l) (.int i t)) Q E σ.s:=
 have hl:σ.s.heap.IsList l vs.toArray:=⟨_,et,rfl,_,rfl⟩
 XD e (fun hn h0 hx=>rt.get hx fun v hv r=>by
  have:=(eF.mp hx).1;exact wpAny_getItem_list hl (jH 1056081119871000 rfl h0) (Lv h0 this hn) (JX hv) (h v r)) fun hn h0 h1 hx=>rt.get hx fun v hv r=>by
  exact kde_getNeg hl h0 (jX 10793777993133627661194058498868281979443096 rfl h1 hn) (rt.length.symm▸Mk h0 h1) hv (h v r)
theorem U7{l:Addr}{vs:List aF}{n:Nat}{i:Int}{t:Tok}{ps:List PV}{p:PV}(et:σ.s.heap.get? l=some (fV vs n))(rt:σ.Vs ps vs)(e:iI ps i=some p)(h: ∀v,σ.V p v→Q v σ.s):aP (aM g.prog g.w) A (getItem (.ref l) (.int i t)) Q E σ.s:=
 have hl:IsTup σ.s.heap l vs.toArray:=⟨_,et,rfl,_,rfl⟩
 XD e (fun hn h0 hx=>rt.get hx fun v hv r=>by
  have:=(eF.mp hx).1;exact Wd hl (jH 2435157267492617003470512914962328 rfl h0) (Lv h0 this hn) (j:=i.toNat) (by unfold seqIndex?;rw[aN (AK.mpr h0),aV];rw[fN,rt.length];simp;omega) (JX hv) (h v r)) fun hn h0 h1 hx=>rt.get hx fun v hv r=>by
  exact Wd hl (jX 10793777993133627661194058498868281979443096 rfl h1 hn) (jH 304236515195001678050365404168345 rfl h0) (by rw[fN,rt.length];exact Mk h0 h1) (JX hv) (h v r)
theorem bt(hu:A.units+10<cLine)(ra:σ.V x a)(rb:σ.V y b)(p:σ.bD Hx.V (nF x y σ.H) Q E):aP (aM g.prog g.w) A (subscriptTail value slice a b) Q E σ.s:=
 p.ob fun r e p=>by
  have h: ∀v,σ.V r v→Q v σ.s:=fun v r=>p.now r;have hk: ∀v tk,σ.V r v→Q v {σ.s with toks:=tk}:=fun v tk r=>p.tok r;clear p;refine or_eq e (fun e=>cY e fun l h1 e=>cY e fun i h2 e=>?_) fun e=>or_eq e (fun e=>cY e fun q h1 e=>cY e fun i h2 e=>?_) fun e=>cY e fun q h1 e=>cY e fun k h2 e=>cY e fun _ hd eg=>?_
  ·exact(EV h1▸ra:σ.V (.tup l) a).tup fun t vs n et rt=>(iV h2▸rb:σ.V (.int i) b).int fun u=>tD ⟨_,et,rfl⟩ (.inr (.inl rfl)) (U7 et rt e h)
  ·refine ra.listAt h1 fun t vs n _ _ _ et rt=>tD ⟨_,et,rfl⟩ (.inl rfl) ?_
   induction y using PV.casesOn with
   |int k=>cases h2;exact rb.int fun u=>U5 et rt e h
   |bool c=>
    cases h2;rw[rb.bool];exact XD e (fun _ _ hx=>rt.get hx fun v hv r=>U6 (items:=vs.toArray) ⟨_,et,rfl,_,rfl⟩ (JX (by cases c<;>exact hv)) (h v r)) fun _ h0=>absurd h0 (by cases c<;>decide)
   |_=>exact dB h2
  ·have hd:cZ q.2.1 k=true:=nH (M:=fun _=>cZ q.2.1 k=true) hd id
   obtain⟨rfl,i1⟩:=sJ h1;rw[CK h2]at rb;refine PK.cases k (fun k rb hd eg=>?_) (fun l rb hd eg=>?_) rb hd eg
   ·refine ra.BG i1 (BH hd) fun d eK ed dd kv=>tD dd.typeIs (.inr (.inr rfl)) (GY kv (a:=k) (fun e1 _=>MI (eg.symm.trans e1)) fun p v e1 e2 r=>?_)
    cases eg.symm.trans e1;exact wpAny_getItem_of (uQ rb) dd.mapOf e2 (hk _ _ r)
   ·refine ra.KJ i1 (FS hd) fun d xs ed dd kv nd=>tD dd.typeIs (.inr (.inr rfl)) (LY kv (l:=l) (fun e1 _=>MI (eg.symm.trans e1)) fun p v e1 e2 r=>?_)
    cases eg.symm.trans e1;exact zZ (M:=fun b=>aP (aM g.prog g.w) A (getItem (.ref d) b) Q E σ.s) rb fun t gU=>wpAny_getItem_heap (knd:=iJ g) (show A.in1.units<cLine from tW (vR (by decide) _) hu) gU dd e2 (hk _ _ r)
theorem d8{o i:Expr}{d e:D}(ho:bK g S o d)(hi:bK g S i e):bK g S (.Subscript o i pos) (bC d e):=fun env A C rest V fr σ F Q E p=>
 Subscript_ (ho env A C rest V fr σ F _ E (p.bind fun x u τ l r p=>hi env A C rest V fr τ (F.le l) _ E (p.bind fun y w υ k t p=>bt V.tE (r.le k) t p)))
end
section
variable{prog:Program}{w:World}{A:cH}{E Q:aF→aL→Prop}{s:aL}
theorem XG{v:aF}{o:Option Int}{Q:Option Int→aL→Prop}(p:IsPart v o)(h:Q o s):aP (aM prog w) A (aCF v) Q E s:=by
 cases p with
 |none=>exact slicePart_none h|int i t=>exact slicePart_int h
theorem yg{sl:Addr}{vl vu vs:aF}{lo hi st:Option Int}{n:Nat}{Q:Int×Int×Nat→aL→Prop}(hs:s.heap.IsSliceOf sl vl vu vs)(pl:IsPart vl lo)(pu:IsPart vu hi)(ps:IsPart vs st)
  (h0:(st.getD 1==0)=false) (h:Q ((jS lo hi (st.getD 1) n).1,st.getD 1,yB (jS lo hi (st.getD 1) n).1 (jS lo hi (st.getD 1) n).2 (st.getD 1)) s):
  aP (aM prog w) A (Sv (.ref sl) (pure (n:Int))) Q E s:=by
 obtain⟨os,GM,Hs,nV⟩:=id hs;unfold Sv aCE;refine aO (aO (vG GM nV (x:=vl) rfl (aO (vG GM nV (x:=vu) rfl (aO (vG GM nV (x:=vs) rfl (bA ?_)))))));refine aO (XG ps ?_);show aP _ _ (if(st.getD 1==0)=true then _ else _) _ _ s;rw[aN (by rw[h0];exact lG)];refine aO (XG pl (aO (XG pu (aO (bA ?_)))));exact bA h
theorem TJ{t sl:Addr}{items:Array aF}{vl vu vs:aF}{lo hi st:Option Int}{lo':Int}{k:Nat}(ht:IsTup s.heap t items)(hs:s.heap.IsSliceOf sl vl vu vs)
  (pl:IsPart vl lo) (pu:IsPart vu hi) (ps:IsPart vs st) (h0:(st.getD 1==0)=false) (e1:(jS lo hi (st.getD 1) items.size).1=lo')
  (e2:yB (jS lo hi (st.getD 1) items.size).1 (jS lo hi (st.getD 1) items.size).2 (st.getD 1)=k) (hk:k≤sizeLine)
  (h1:(lo'==0&&st.getD 1==1&&k==items.size)=true→Q (.ref t) s)
  (h:Q (.ref s.heap.objs.size) {s with heap:=s.heap.push {cls:= .type "tuple",data:= .seq ((fP k).filterMap fun(k:Nat)=>items[(lo'+(k:Int)*st.getD 1).toNat]?).toArray}}):
  aP (aM prog w) A (getItem (.ref t) (.ref sl)) Q E s:=by
 obtain⟨os,GM,Hs,nV⟩:=id hs;unfold getItem
 try with_reducible refine mV ?_
 first|refine aO (bA ?_)|skip
 refine aO (Rj ht.typeIs (by decide) ?_);refine aO (IU (name:=aA "__getitem__") ht.typeIs slot_tuple_getitem
  (rR slot_tuple_getitem ht.typeIs entry_tuple_getitem ?_ (args_tuple_getitem _ _)))
 show aP _ _ (aCI (.ref t)>>=_) _ _ s;refine aO (tupleItemsOf_ ht ?_);refine aO (aBY (⟨os,GM,Hs⟩) ?_);rw[aV (by decide)];refine aO (yg hs pl pu ps h0 ?_);rw[e2,e1];dsimp only;have KZ:sizeOk (.seq ((fP k).filterMap fun(k:Nat)=>items[(lo'+(k:Int)*st.getD 1).toNat]?).toArray):=by
  show((fP k).filterMap _).toArray.size≤sizeLine;rw[fN];exact bW (List.length_filterMap_le _ _) (by rw[EF];exact hk)
 by_cases GK:(lo'==0&&st.getD 1==1&&k==items.size)=true
 ·rw[aV GK]
  refine aO (m:=aCH _) (aO (aBY ht.typeIs (bA ?_)));rw[aV (by decide)];exact aO (wpAny_rule (bA ⟨_,rfl,bA (h1 GK)⟩))
 ·rw[aN GK]
  first
   |exact aO (m:=OC _) (vH (bA ⟨_,rfl,bA h⟩) KZ)|exact aO (m:=OC _) (vH (aO (bA (bA ⟨_,rfl,bA h⟩))) KZ)|exact aO (aO (m:=OC _) (vH (bA (bA ⟨_,rfl,bA h⟩)) KZ))|exact aO (aO (m:=OC _) (vH (bA ⟨_,rfl,bA h⟩) KZ))
theorem Gq{α β:Type}{f k:α→Option β}: ∀l:List α,(∀x∈l,f x=k x)→l.filterMap f=l.filterMap k
 | [],_=>rfl|a::r,h=>by rw[EA,EA,h a (.head _),Gq r fun x hx=>h x (.tail _ hx)]
theorem UI{h:Heap}{t:Addr}{vs:List aF}{n:Nat}(e:h.get? t=some (fV vs n)):IsTup h t vs.toArray:=⟨_,e,rfl,_,rfl⟩
theorem aAJ{t sl:Addr}{xs:List aF}{a:Nat}{u:Tok}(ht:IsTup s.heap t xs.toArray)(hs:s.heap.IsSliceOf sl (.int a u) .none .none)(hn:xs.length≤aJ)
  (h1:xs.drop a=xs→Q (.ref t) s) (h:Q (.ref s.heap.objs.size) {s with heap:=s.heap.push (fV (xs.drop a) 0)}):aP (aM prog w) A (getItem (.ref t) (.ref sl)) Q E s:=by
 rw[vO]at hn;have e1:jS (some (a:Int)) none 1 (xs.length:Int)=(((min a xs.length:Nat):Int),(xs.length:Int)):=by
  unfold jS;have: ¬(a:Int)<0:=by exact aS 125829276 rfl
  simp[this];omega
 refine TJ (k:=xs.length-min a xs.length) (lo':=((min a xs.length:Nat):Int)) ht hs (.int _ _) .none .none rfl ?_ ?_ ?_ ?_ ?_
 ·rw[fN];show(jS (some (a:Int)) none 1 (xs.length:Int)).1=_;rw[e1]
 ·rw[fN];show yB (jS (some (a:Int)) none 1 (xs.length:Int)).1 (jS (some (a:Int)) none 1 (xs.length:Int)).2 1=_;rw[e1,(places_from _ _ (Ba _ _))]
 ·exact bW (Be _ _) (bW hn (by decide))
 ·intro hw
  simp only[mW,beq_iff_eq,fN]at hw;refine h1 ?_;have:min a xs.length=0:=by exact fE (aS 1055532454510736 rfl hw.1.1) (aS 125894672 rfl)
  by_cases q:a=0
  ·subst q;rfl
  ·have:xs.length=0:=by omega
   have:=JM.mp this;subst this;simp
 ·have:=pick_from xs.toArray (min a xs.length) (by rw[fN];exact Ba _ _)
  rw[fN]at this;show Q _ {s with heap:=s.heap.push {cls:= .type "tuple",data:= .seq ((fP (xs.length-min a xs.length)).filterMap fun(k:Nat)=>xs.toArray[(((min a xs.length:Nat):Int)+(k:Int)*1).toNat]?).toArray}};rw[this];have e3:xs.toArray.toList.drop (min a xs.length)=xs.drop a:=by
   rw[show xs.toArray.toList=xs from rfl];by_cases q:a≤xs.length
   ·rw[Vi q]
   ·rw[Vj (by exact aX 66007517511824 rfl q),List.drop_length,List.drop_of_length_le (by exact aX 66007517511824 rfl q)]
  rw[e3];exact h
theorem aAL{t sl:Addr}{xs:List aF}{b:Nat}{u:Tok}(ht:IsTup s.heap t xs.toArray)(hs:s.heap.IsSliceOf sl .none (.int b u) .none)(hn:xs.length≤aJ)
  (h1:xs.take b=xs→Q (.ref t) s) (h:Q (.ref s.heap.objs.size) {s with heap:=s.heap.push (fV (xs.take b) 0)}):aP (aM prog w) A (getItem (.ref t) (.ref sl)) Q E s:=by
 rw[vO]at hn;have e1:jS none (some (b:Int)) 1 (xs.length:Int)=((0:Int),((min b xs.length:Nat):Int)):=by
  unfold jS;have: ¬(b:Int)<0:=by exact aS 125829276 rfl
  simp[this];omega
 have e2:yB 0 ((min b xs.length:Nat):Int) 1=min b xs.length:=by
  have:=places_from 0 (min b xs.length) (lK _);simpa using this
 refine TJ (k:=min b xs.length) (lo':=0) ht hs .none (.int _ _) .none rfl ?_ ?_ ?_ ?_ ?_
 ·rw[fN];show(jS none (some (b:Int)) 1 (xs.length:Int)).1=_;rw[e1]
 ·rw[fN];show yB (jS none (some (b:Int)) 1 (xs.length:Int)).1 (jS none (some (b:Int)) 1 (xs.length:Int)).2 1=_;rw[e1,e2]
 ·exact bW (Ba _ _) (bW hn (by decide))
 ·intro hw
  simp only[mW,beq_iff_eq,fN]at hw;exact h1 (Uy (by omega))
 ·have:=pick_run xs.toArray 0 (min b xs.length)
  rw[Ug]at this;show Q _ {s with heap:=s.heap.push {cls:= .type "tuple",data:= .seq ((fP (min b xs.length)).filterMap fun(k:Nat)=>xs.toArray[((0:Int)+(k:Int)*1).toNat]?).toArray}};have e0:(fun(k:Nat)=>xs.toArray[((0:Int)+(k:Int)*1).toNat]?)=((fun x=>xs.toArray[x]?)∘fun x=>0+x):=by
   funext k
   have:((0:Int)+(k:Int)*1).toNat=0+k:=by omega
   simp[this]
  rw[e0,this];have e3:(xs.toArray.toList.drop 0).take (min b xs.length)=xs.take b:=by
   rw[show xs.toArray.toList=xs from rfl,OW];by_cases q:b≤xs.length
   ·rw[Vi q]
   ·rw[Vj (by exact aX 66007517511824 rfl q),List.take_length,Uy (by exact aX 66007517511824 rfl q)]
  rw[e3];exact h
theorem aAK{t sl:Addr}{xs:List aF}{u:Tok}(ht:IsTup s.heap t xs.toArray)(hs:s.heap.IsSliceOf sl .none .none (.int (-1) u))(hn:xs.length≤aJ)
  (h:Q (.ref s.heap.objs.size) {s with heap:=s.heap.push (fV xs.reverse 0)}):aP (aM prog w) A (getItem (.ref t) (.ref sl)) Q E s:=by
 rw[vO]at hn;have e1:jS none none (-1) (xs.length:Int)=((xs.length:Int)-1,-1):=by
  unfold jS;simp
 have e2:yB ((xs.length:Int)-1) (-1) (-1)=xs.length:=by
  unfold yB;by_cases q:(xs.length:Int)-1> -1
  ·have e:((xs.length:Int)-1- -1-1)/(- -1)+1=(xs.length:Int):=by
    rw[show(- -1:Int)=1 by decide,Int.ediv_one];exact tO (aS 70872968320284386842904 rfl) (aS 70909428646857738584216 rfl)
   simp only[(show¬((-1:Int)>0) by decide),if_false,q,if_true,e,ZX]
  ·have:xs.length=0:=by exact fE (aS 34623735584346079376 rfl q) (aS 125894672 rfl)
   simp[this]
 refine TJ (k:=xs.length) (lo':=(xs.length:Int)-1) ht hs .none .none (.int _ _) rfl ?_ ?_ ?_ ?_ ?_
 ·rw[fN];show(jS none none (-1) (xs.length:Int)).1=_;rw[e1]
 ·rw[fN];show yB (jS none none (-1) (xs.length:Int)).1 (jS none none (-1) (xs.length:Int)).2 (-1)=_;rw[e1,e2]
 ·exact bW hn (by decide)
 ·intro hw
  simp only[Vr,mW]at hw;exact absurd hw.1.2 (by decide)
 ·show Q _ {s with heap:=s.heap.push {cls:= .type "tuple",data:= .seq ((fP xs.length).filterMap fun(k:Nat)=>xs.toArray[((xs.length:Int)-1+(k:Int)* -1).toNat]?).toArray}}
  have e0:(fP xs.length).filterMap (fun(k:Nat)=>xs.toArray[((xs.length:Int)-1+(k:Int)* -1).toNat]?)=xs.reverse:=by
   have h2:=krv_all xs.toArray;have h3:((fP xs.length).map (fun k=>xs.length-1-k)).filterMap (fun k=>xs.toArray[k]?)=xs.reverse:=by
    rw[(krv_range xs.length),List.filterMap_reverse];rw[fN]at h2;rw[h2]
   rw[Ug]at h3;rw[←h3];refine Gq _ ?_;intro k hk;have:=Ap.mp hk;rw[(show((xs.length:Int)-1+(k:Int)* -1).toNat=xs.length-1-k by omega)];rfl
  rw[e0];exact h
end
noncomputable abbrev lE(l u st:aF):Obj:={cls:= .type "slice",data:= .fields #[l,u,st]}
section
variable{g:Gl}{S:Sc}{σ τ:Hx g}{A:cH}{E Q:aF→aL→Prop}{o lo hi:PV}{a v vl vu:aF}{P:Prop}{pos:Pos}{value slice:Expr}{t:Addr}{vs:List aF}{n:Nat}{l l':List PV}
theorem PM{x:PV}{u:Unit}(h:BB x=some u):x= .none:=by
 cases x with
 |none=>rfl|_=>injection h
theorem Dt(e:cut l lo hi=some l')(rl:σ.V lo vl)(ru:σ.V hi vu){M:aF→aF→List PV→Prop}(h1: ∀(k:Nat) u,M (.int k u) .none (l.drop k))(h2: ∀(k:Nat) u,M .none (.int k u) (l.take k)):M vl vu l':=by
 refine or_eq e (fun e=>cY e fun i i1 e=>cY e fun _ i2 e=>?_) fun e=>cY e fun _ i2 e=>cY e fun i i1 e=>?_
 ·refine nH (M:=M vl vu) e fun q=>?_
  obtain⟨k,rfl⟩:=AJ (cK q);rw[(PM i2▸ru:σ.V .none vu).none];exact(iV i1▸rl:σ.V (.int k) vl).int fun u=>h1 k u
 ·refine nH (M:=M vl vu) e fun q=>?_
  obtain⟨k,rfl⟩:=AJ (cK q);rw[(PM i2▸rl:σ.V .none vl).none];exact(iV i1▸ru:σ.V (.int k) vu).int fun u=>h2 k u
theorem Du(rl:σ.V lo vl)(ru:σ.V hi vu)(hl:σ.s.heap.IsList t vs.toArray)(rt:σ.Vs l vs)(hn:l.length≤aJ)(hc:cut l lo hi=some l')(p:σ.bD Hx.V (iG l' σ.H) Q E):
  aP (aM g.prog g.w) A (subscriptTail value slice (.ref t) (.ref σ.s.heap.objs.size)) Q E {σ.s with heap:=σ.s.heap.push (lE vl vu .none)}:=by
 have LI:vs.toArray.size≤sizeLine:=by rw[fN,rt.length];exact bW hn pC
 revert p;refine Dt (M:=fun vl vu l'=>σ.bD Hx.V (iG l' σ.H) Q E→aP (aM g.prog g.w) A (subscriptTail value slice (.ref t) (.ref σ.s.heap.objs.size)) Q E {σ.s with heap:=σ.s.heap.push (lE vl vu .none)}) hc rl ru (fun k u p=>?_) fun k u p=>?_
 ·have q:=Hx.bD.newList (σ:=σ.push (lE (.int k u) .none .none) σ.s.toks) (p.le (σ.kZ _ _)) (bE.drop (rt.le (σ.kZ _ _)) k)
  refine tD (hl.push _).typeIs (.inl rfl) (Rb (hl.push _) (JA σ.s.heap _ _ _) (.int _ _) .none .none (by simp) ?_ LI);rw[slicePick_from'];exact q.2
 ·have q:=Hx.bD.newList (σ:=σ.push (lE .none (.int k u) .none) σ.s.toks) (p.le (σ.kZ _ _)) (bE.take (rt.le (σ.kZ _ _)) k)
  refine tD (hl.push _).typeIs (.inl rfl) (Rb (hl.push _) (JA σ.s.heap _ _ _) .none (.int _ _) .none (by simp) ?_ LI);rw[slicePick_upto'];exact q.2
theorem Hx.bD.Qh{l:List PV}{vs ws:List aF}{t:Addr}{n:Nat}(p:σ.bD Hx.V (.ok (.tup l) σ.H) Q E)(et:σ.s.heap.get? t=some (fV vs n))(r:σ.Vs l ws)(o:Obj):(ws=vs→Q (.ref t) {σ.s with heap:=σ.s.heap.push o})∧Q (.ref (σ.s.heap.push o).objs.size) {σ.s with heap:=(σ.s.heap.push o).push (fV ws 0)}:=
 have p:=p.le (σ.kZ o σ.s.toks);have r:=r.le (σ.kZ o σ.s.toks)
 ⟨fun e=>Hx.bD.now (σ:=σ.push o σ.s.toks) p (JW (eJ o et) (e▸r)),p _ ((σ.push o σ.s.toks).push (fV ws 0) σ.s.toks) (Hx.kZ _ _) rfl (JW (jM _ rfl) (r.le (Hx.kZ _ _)))⟩
theorem I5(rl:σ.V lo vl)(ru:σ.V hi vu)(et:σ.s.heap.get? t=some (fV vs n))(rt:σ.Vs l vs)(hl:l.length≤aJ)(hc:cut l lo hi=some l')(p:σ.bD Hx.V (.ok (.tup l') σ.H) Q E):
  aP (aM g.prog g.w) A (subscriptTail value slice (.ref t) (.ref σ.s.heap.objs.size)) Q E {σ.s with heap:=σ.s.heap.push (lE vl vu .none)}:=by
 rw[←rt.length]at hl;revert p;refine Dt (M:=fun vl vu l'=>σ.bD Hx.V (.ok (.tup l') σ.H) Q E→aP (aM g.prog g.w) A (subscriptTail value slice (.ref t) (.ref σ.s.heap.objs.size)) Q E {σ.s with heap:=σ.s.heap.push (lE vl vu .none)}) hc rl ru (fun k u p=>?_) fun k u p=>?_
 ·have wG:=eJ (lE (.int k u) .none .none) et
  have q:=p.Qh et (bE.drop rt k) (lE (.int k u) .none .none);exact tD (T:= "tuple") ⟨_,wG,rfl⟩ (.inr (.inl rfl)) (aAJ (UI wG) (JA σ.s.heap _ _ _) hl q.1 q.2)
 ·have wG:=eJ (lE .none (.int k u) .none) et
  have q:=p.Qh et (bE.take rt k) (lE .none (.int k u) .none);exact tD (T:= "tuple") ⟨_,wG,rfl⟩ (.inr (.inl rfl)) (aAL (UI wG) (JA σ.s.heap _ _ _) hl q.1 q.2)
theorem I4(ra:σ.V o a)(rl:σ.V lo vl)(ru:σ.V hi vu)(p:σ.bD Hx.V (yY o lo hi σ.H) Q E):aP (aM g.prog g.w) A (subscriptTail value slice a (.ref σ.s.heap.objs.size)) Q E {σ.s with heap:=σ.s.heap.push (lE vl vu .none)}:=by
 have key:σ.bD Hx.V (Mine.ob (listAt σ.H o) fun p=>Mine.ob (cut p.2 lo hi) fun l'=>Mine.cB (decide (p.2.length≤aJ)) (iG l' σ.H)) Q E→aP (aM g.prog g.w) A (subscriptTail value slice a (.ref σ.s.heap.objs.size)) Q E {σ.s with heap:=σ.s.heap.push (lE vl vu .none)}:=fun p=>
  p.ob fun q e p=>p.ob fun l' hc p=>p.cB fun hl p=>ra.listAt e fun t vs n _ _ _ et rt=>Du rl ru ⟨_,et,rfl,_,rfl⟩ rt (cK hl) hc p
 induction o using PV.casesOn with
 |fl l=>exact p.ob fun l' hc p=>p.cB fun hl p=>ra.fl fun t vs hb rt=>Du rl ru (by obtain⟨o,ho,r⟩:=hb;exact⟨o,σ.X.stays _ _ ho,r⟩) rt (bW (cK hl) (by decide)) hc p
 |tup l=>exact p.ob fun l' hc p=>p.cB fun hl p=>ra.tup fun t vs n et rt=>I5 rl ru et rt (cK hl) hc p
 |_=>exact key p
theorem vt{u:Tok}(ra:σ.V o a)(p:σ.bD Hx.V (IB o σ.H) Q E):aP (aM g.prog g.w) A (subscriptTail value slice a (.ref σ.s.heap.objs.size)) Q E {σ.s with heap:=σ.s.heap.push (lE .none .none (.int (-1) u))}:=by
 have sl:=JA σ.s.heap .none .none (.int (-1) u);have L:=σ.kZ (lE .none .none (.int (-1) u)) σ.s.toks;have key:σ.bD Hx.V (Mine.ob (listAt σ.H o) fun p=>iG p.2.reverse σ.H) Q E→aP (aM g.prog g.w) A (subscriptTail value slice a (.ref σ.s.heap.objs.size)) Q E {σ.s with heap:=σ.s.heap.push (lE .none .none (.int (-1) u))}:=fun p=>
  p.ob fun q e p=>ra.listAt e fun t vs n _ _ _ et rt=>by
   have hl:(σ.s.heap.push (lE .none .none (.int (-1) u))).IsList t vs.toArray:=⟨_,eJ _ et,rfl,_,rfl⟩;have q:=Hx.bD.newList (σ:=σ.push (lE .none .none (.int (-1) u)) σ.s.toks) (p.le L) (bE.reverse (rt.le L));rw[Up]at q;refine tD hl.typeIs (.inl rfl) (Rb hl sl .none .none (.int _ _) (by simp) ?_ (by rw[fN];exact bW q.1 (by decide)));rw[krv_pick];exact q.2
 induction o using PV.casesOn with
 |tup l=>
  refine ra.tup fun t vs n et rt=>?_;have wG:=eJ (lE .none .none (.int (-1) u)) et;have q:=Hx.bD.CV (σ:=σ.push (lE .none .none (.int (-1) u)) σ.s.toks) (p.le L) (bE.reverse (rt.le L));rw[Up]at q;exact tD (T:= "tuple") ⟨_,wG,rfl⟩ (.inr (.inl rfl)) (aAK (UI wG) sl q.1 q.2.1)
 |_=>exact key p
noncomputable def JJ(g:Gl)(S:Sc):Option Expr→D→Prop
 |none,d=>d=aB .none|some e,d=>bK g S e d
theorem Px{e:Option Expr}{d:D}(h:JJ g S e d){env:Env}{C:dI}{rest:bY}(V:Ev g S env A C rest){fr:aW}(F:At g S env rest fr σ)(p:σ.bD Hx.V (d C fr σ.H) Q E):aP (aM g.prog g.w) A (evalPart e env) Q E σ.s:=by
 cases e with
 |none=>subst h;exact bA (p.now AS)|some e=>exact h env A C rest V fr σ F Q E p
theorem zx{o:Expr}{lo hi:Option Expr}{d a b:D}{q:Pos}(ho:bK g S o d)(hl:JJ g S lo a)(hh:JJ g S hi b):bK g S (.Subscript o (.Slice lo hi none q) pos) (qH d a b):=fun env A C rest V fr σ F Q E p=>
 Subscript_ (ho env A C rest V fr σ F _ E (p.bind fun x u τ l r p=>wpAny_Slice (Px hl V (F.le l) (p.bind fun y w υ k r2 p=>Px hh V ((F.le l).le k) (p.bind fun z t φ i r3 p=>(evalPart_none env).symm▸bA (I4 ((r.le k).le i) (r2.le i) r3 p))))))
theorem j5{o:Expr}{d:D}{k:Int}{j:Nat}{q p1 p2:Pos}(ho:bK g S o d)(hk:k=1):bK g S (.Subscript o (.Slice none none (some (.UnaryOp .USub (.Constant (.int k) j p1) p2)) q) pos) (zP d):=by
 intro env A C rest V fr σ F Q E p;subst hk;refine Subscript_ (ho env A C rest V fr σ F _ E (p.bind fun x u τ l r p=>wpAny_Slice ?_));rw[evalPart_none];refine bA (bA ?_);rw[evalPart_some];exact aBJ (aBH (Wg (vt (σ:=τ.tok _) (r.le (τ.AA _)) (p.le (τ.AA _)))))
end
section
variable{g:Gl}{S:Sc}{σ τ:Hx g}{A:cH}{E Q:aF→aL→Prop}{a v:aF}{P:Prop}{pos:Pos}{i d:Nat}{es:List (Nat×PV)}{c:Addr}{M:aF→Prop}{x:Str}{p:PV}
theorem ka{α β:Type} [DecidableEq α](es:List (α×β))(n:α):es.lookup n=(es.find? fun e=>decide (e.1=n)).map (·.2):=by
 induction es with
 |nil=>rfl|cons e r ih=>
  rw[gG,jU,ih];by_cases q:n=e.1
  ·rw[←q,fG,cC rfl];rfl
  ·rw[dC.mpr q,iW fun h=>q h.symm]
theorem My{h:Heap}{ι:List Addr}{n:Nat}(hx:g.attrs[n]?=some x)(nd:g.attrs.Nodup){e:Nat×PV}{d:fM}(r:Bh g h ι e d):decide (e.1=n)=d.key.isStr x:=by
 obtain⟨⟨y,t,hy,hk⟩,_⟩:=r;rw[hk];show _=(y==x);by_cases q:e.1=n
 ·rw[q,hx]at hy;cases hy;rw[q,cC rfl,fG]
 ·rw[iW q,dC.mpr fun z=>q ?_]
  subst z;exact(yJ (eF.mp hy).1 nd).mp (hy.trans hx.symm)
theorem Mx{h:Heap}{ι:List Addr}{n:Nat}{ds:List fM}(hx:g.attrs[n]?=some x)(nd:g.attrs.Nodup)(y:nO g h ι es ds)(e:es.lookup n=some p)(k: ∀v,getL x ds=some (some v)→dH g h ι p v→P):P:=by
 rw[ka]at e;refine y.find (p:=fun e=>decide (e.1=n)) (q:=fun d=>d.key.isStr x) (fun e d r=>My hx nd r) (fun h1 _=>by rw[h1]at e;exact dB e) fun a b h1 h2 r=>?_;rw[h1]at e;injection e with e;subst e;exact k b.val (by unfold getL;rw[h2]) r.2
theorem VQ{H:PH}(e:HJ H d=some es):H[d]?=some (.ns es):=by
 obtain⟨r,o,h1,h2,h3⟩:=qG e;cases h1;cases o with
 |ns l=>injection h3 with h3;subst h3;exact h2
 |_=>exact dB h3
theorem Hx.ns{dx:Addr}(e:σ.H[d]?=some (.ns es))(ed:σ.ι[d]?=some dx)(k: ∀ds n,σ.s.heap.get? dx=some (dictOf ds n)→nO g σ.s.heap σ.ι es ds→(es.map (·.1)).Nodup→P):P:=
 σ.at e ed fun o h x=>by obtain⟨ds,n,rfl,y,nd⟩:=x;exact k ds n h y nd
@[elab_as_elim] theorem Hx.V.inst(r:σ.V (.ref i) v)(e:σ.H[i]?=some (.inst c d))(e2:σ.H[d]?=some (.ns es))(k: ∀a dx ds n,σ.ι[d]?=some dx→InstAt σ.s.heap a (instObj c dx) c (some (dictOf ds n))→σ.s.heap.get? dx=some (dictOf ds n)→nO g σ.s.heap σ.ι es ds→(es.map (·.1)).Nodup→DR g c→M (.ref a)):M v:=
 r.ref fun a ea=>σ.at e ea fun o ho x=>by
  obtain⟨dx,ed,rfl,hc⟩:=x;exact Hx.ns e2 ed fun ds n h y nd=>k a dx ds n ed ⟨ho,rfl,rfl,h⟩ h y nd hc
@[elab_as_elim] theorem Hx.V.exc(r:σ.V (.ref i) v)(e:σ.H[i]?=some (.exc c d))(e2:σ.H[d]?=some (.ns es))(k: ∀a ox ds n,InstAt σ.s.heap a ox c (some (dictOf ds n))→nO g σ.s.heap σ.ι es ds→tJ g c→M (.ref a)):M v:=
 r.ref fun a ea=>σ.at e ea fun o ho x=>by
  obtain⟨dx,vs,ed,h1,h2,h3,hc⟩:=x;exact Hx.ns e2 ed fun ds n h y nd=>k a o ds n ⟨ho,h1,by unfold notCls;rw[h3],by rw[h2];exact h⟩ y hc
theorem Bx(r:σ.V p v)(hp:HI p=true):handedIn v=true:=by
 cases p with
 |aE x=>exact uX hp|none=>rw[r.none];rfl|bool b=>rw[r.bool];rfl|int b=>exact r.int fun _=>rfl
 |str b=>exact r.str fun _=>rfl
 |tup b=>exact r.tup fun _ _ _ _ _=>rfl
 |ref b=>exact r.ref fun _ _=>rfl
 |fl b=>exact r.fl fun _ _ _ _=>rfl
theorem Ze(self:aF):bindSpecial (.builtin "BaseException.__getattribute__") self=pure (.builtin "BaseException.__getattribute__",[self]):=
 Wo.ga.bind self
theorem V0{prog:Program}{w:World}{A:cH}{E:aF→aL→Prop}{s:aL}{K:Frag}{x C:Addr}{ox:Obj}{od:Option Obj}{name:Str}{expr:Bool}{Q:aF→aL→Prop}{v:aF}(X:K.In s.heap)(I:InstAt s.heap x ox C od)
  (Y3:findIn K (.ref C) "__getattribute__"=some (some (.builtin "BaseException.__getattribute__"))) (hk:findIn K (.ref C) "__getattr__"=some none) (hs:mroIn K C (.type "BaseException")=some true) (hf:findObj K C od name=some (.value v)) (hh:handedIn v=true) (h:Q v {s with toks:=s.toks+1}):
  aP (aM prog w) A (getAttr (.ref x) name expr) Q E s:=by
 have L0:=I.type (M:=aM prog w);unfold getAttr getAttrBy;refine aO (aBT (mV (aO (L0.here (s:={s with toks:=s.toks+1}) (aO ((looks_findIn (M:=aM prog w) X Y3).here (s:={s with toks:=s.toks+1}) ?_))))));dsimp only;rw[show(onTheHeap (aR C)&&JU "BaseException.__getattribute__"==JU "object.__getattribute__")=false from by rw[show(JU "BaseException.__getattribute__"==JU "object.__getattribute__")=false from by decide+kernel,NZ],aN (by decide)];unfold getAttrByItsOwn hookBefore;rw[aV (show onTheHeap (aR C)=true from rfl)];refine aO ((looks_findIn (M:=aM prog w) X hk).here (s:={s with toks:=s.toks+1}) (aO (Ra (mV ?_))));unfold callGetattribute;rw[show(expr&&onTheHeap (JU "BaseException.__getattribute__"))=false from NZ _,aN (by decide)];unfold boundAndCalled;rw[Ze];refine aO (bA ?_);show aP _ _ (call (.builtin "BaseException.__getattribute__") [.ref x,.str name s.toks]) _ _ _;refine DP ?_;refine codeAny_call_builtin Wo.ga.plain PySem.F.entry_bexc_ga ?_;refine @check_slot (aM prog w) _ _ {s with toks:=s.toks+1} "BaseException.__getattribute__" "BaseException" "__getattribute__" (.ref x) [.str name s.toks] [] _ (by decide+kernel) (by decide+kernel) (L0.andThen (looks_mroIn X hs)) (PySem.F.args_bexc_ga (.ref x) (.str name s.toks)) ?_;unfold Builtin.«object.__getattribute__»;refine aO (bA (aO (bA (aO (L0.here (s:={s with toks:=s.toks+1}) (aO ((looks_find (M:=aM prog w) X I hf).here (s:={s with toks:=s.toks+1}) ?_)))))));refine bA ?_;show aP _ _ (handedOut v) _ _ _;rw[handedOut_of hh];exact bA h
theorem Cj{o:PV}{k:Nat}{ex:Bool}(O:g.Ok)(nd:g.attrs.Nodup)(hx:g.attrs[k]?=some x){L:Addr}{m:Str→Option aF}(fr:Fr g.base L σ.s.heap m)(ra:σ.V o a)(p:σ.bD Hx.V (yV o k σ.H) Q E):aP (aM g.prog g.w) A (getAttr a x ex) Q E σ.s:=
 p.ob fun d hd p=>p.ob fun es he p=>p.ob fun v hv p=>p.cB fun hi p9=>by
  have he:=VQ he;refine or_eq hd (fun hd=>?_) fun hd=>?_
  ·obtain⟨r,o,rfl,h2,h3⟩:=qG hd
   cases o with
   |inst c d'=>
    injection h3 with h3;subst h3;exact ra.inst h2 he fun a dx ds n _ I _ y _ hc=>Mx hx nd y hv fun u hu ru=>get_own fr O.X I (hc.2 k x hx).1 hc.1.1 (hc.2 k x hx).2 rfl hu (Bx (σ:=σ) ru hi) (p9.tok (show(σ.tok _).V _ _ from ru))
   |_=>exact dB h3
  ·obtain⟨r,o,rfl,h2,h3⟩:=qG hd
   cases o with
   |exc c d'=>
    injection h3 with h3;subst h3;exact ra.exc h2 he fun a ox ds n I y hc=>Mx hx nd y hv fun u hu ru=>V0 (O.X.keeps σ.X.stays) I hc.1.2.1 hc.1.2.2.1 hc.1.2.2.2 (findObj_own hc.1.1 (hc.2 k x hx) rfl hu) (Bx (σ:=σ) ru hi) (p9.tok (show(σ.tok _).V _ _ from ru))
   |_=>exact dB h3
theorem yU{o:Expr}{x:Str}{env:Env}{t:Sem aF}(h:sS o=false):attributeBase o x env t=t:=by
 induction o using PySem.Expr.casesOn with
 |Call f as gu pos=>cases f with
  |Name y p=>induction as using List.casesOn with
   |nil=>induction gu using List.casesOn with
    |nil=>injection h|cons a r=>rfl
   |cons a r=>rfl
  |_=>rfl
 |_=>rfl
theorem zl{o:Expr}{k:Nat}{d:D}(hc:sS o=false)(hx:S.attr x=some k)(ho:bK g S o d):bK g S (.Attribute o x pos) (eR d k):=fun env A C rest V fr σ F Q E p=>
 Attribute_any_ (ho env A C rest V fr σ F _ E (p.bind fun y u τ l r p=>(F.le l).frm fun m f=>Cj V.ok V.sc.attrs (V.sc.attr _ _ hx) f r p)) (by rw[arm_eval_Attribute,yU hc])
noncomputable def BO:List (aF×aF)→List aF
 | []=>[]|(k,v)::r=>k::v::BO r
noncomputable def OK(σ:Hx g)(p:List PV)(v:List (aF×aF)):Prop:=σ.Vs p (BO v)
noncomputable def EN(g:Gl)(S:Sc)(ks:List (Option Expr))(es:List Expr)(d:Ds):Prop:= ∀(pos:Pos) (env:Env) (A:cH) (C:dI) (rest:bY),Ev g S env A C rest→∀(fr:aW) (σ:Hx g),At g S env rest fr σ→
 ∀(Q:List (aF×aF)→aL→Prop) (E:aF→aL→Prop),σ.bD OK (d C fr σ.H) Q E→aP (aM g.prog g.w) A (evalPairs (pairTrees ks es env pos)) Q E σ.s
theorem za:EN g S [] [] aH:=fun _ _ _ _ _ _ _ σ _ _ _ p=>evalPairs_nil (p.now (show σ.Vs [] []from bE.nil))
theorem yz{k v:Expr}{ks:List (Option Expr)}{vs:List Expr}{dk dv:D}{ds:Ds}(hk:bK g S k dk)(hv:bK g S v dv)(h:EN g S ks vs ds):EN g S (some k::ks) (v::vs) (aC dk (aC dv ds)):=by
 intro pos env A C rest V fr σ F Q E p;refine evalPairs_cons (hk env A C rest V fr σ F _ E (p.bind fun x u τ l r p=>?_));refine aO (hv env A C rest V fr τ (F.le l) _ E (Hx.bD.pK p fun y w υ k r2 p=>aO (xX (bA ?_))));exact h pos env A C rest V fr υ ((F.le l).le k) _ E (Hx.bD.pK (R₁:=OK) p fun z t φ j r3 p=>p.now (bE.cons ((r.le k).le j) (bE.cons (r2.le j) r3)))
end
section
variable{g:Gl}{S:Sc}{σ τ:Hx g}{A:cH}{E:aF→aL→Prop}{pos:Pos}{i:Nat}{a:Addr}{es pT:cA}{k:PK}{p:PV}{kv v:aF}
theorem Kn{h:Heap}{ι:List Addr}{k:PK}{v:aF}(r:dH g h ι k.val v):dH g h [] k.val v:=by
 induction k using PK.casesOn with
 |int i=>exact r|str i=>exact r|tup l=>
  refine bQ fun G_ aQ=>?_;obtain⟨a,vs,n,e1,e2,y⟩:=r;refine aQ ?_;exact qM a ⟨vs,n,e1,e2,fq (Ka y)⟩
theorem J6{Q:Unit→aL→Prop}(hu:A.units+10<cLine)(e:σ.H[i]?=some (.dict es false))(ea:σ.ι[i]?=some a)(hd:cZ es k=true)(hn:es.length<aJ)(rk:σ.V k.val kv)(rv:σ.V p v)
  (h: ∀τ,σ.Le τ→τ.ι=σ.ι→τ.H=σ.H.set i (.dict (bT es k p) false)→Q () τ.s):aP (aM g.prog g.w) A (dictSet a kv v) Q E σ.s:=by
 have hz:es.length≤sizeLine:=bW (sA hn) pC;have fin: ∀h' tk,tK a σ.s.heap h'→∀o',h'.get? a=some o'→fO g σ.s.heap σ.ι (.dict (bT es k p) false) o'→Q () {σ.s with heap:=h',toks:=tk}:=fun h' tk hs o' ho r=>
  let x:=σ.X.upd e ea rfl hs ho r
  h ⟨{σ.s with heap:=h',toks:=tk},σ.nss,σ.ι,σ.H.set i (.dict (bT es k p) false),x.1⟩ ⟨rfl,x.2,.refl _,rfl⟩ rfl rfl
 have nd:(es.map (·.1)).Nodup:=σ.at e ea fun o _ x=>by obtain⟨_,_,_,_,nd⟩:=x;exact nd
 have rr:σ.V (.ref i) (.ref a):=AT ea;generalize hw:aR a=w at rr;revert hw;refine PK.cases k (fun k rk hd fin=>?_) (fun l rk hd fin=>?_) rk hd fin
 ·exact rr.BG e (BH hd) fun b eK _ dd GX hw=>by
   cases hw;exact wpAny_dictSet_pairs (uQ rk) dd (fun h' d' hs=>MP (FU nd) d' (UP nd rv GX) (fin h' _ hs)) (by rw[GX.length];exact hz)
 ·exact rr.KJ e (FS hd) fun b xs _ dd GX _ hw=>by
   cases hw;exact zZ (M:=fun kv=>dH g σ.s.heap σ.ι (PK.tup l).val kv→aP (aM g.prog g.w) A (dictSet a kv v) Q E σ.s) rk (fun t gU rk=>wpAny_dictSet_heap (knd:=iJ g) (tW (EJ _ _) hu) gU dd (fun h' d' hs=>Nk (FU nd) d' (Kr nd (Kn rk) rv GX) (fin h' _ hs)) (by rw[GX.length];exact hz)) rk
theorem u8(hu:A.units+10<cLine)(vs:List (aF×aF)){ps:List PV}{Q:PUnit→aL→Prop}(ea:σ.ι[i]?=some a)(e:σ.H[i]?=some (.dict es false))(hp:pairUp ps es=some pT)(r:σ.Vs ps (BO vs))
  (h: ∀τ,σ.Le τ→τ.ι=σ.ι→τ.H=σ.H.set i (.dict pT false)→Q () τ.s):aP (aM g.prog g.w) A (storeAll a vs) Q E σ.s:=by
 induction vs generalizing ps es σ with
 |nil=>
  have:ps=[]:=JM.mp r.length.symm;subst this;injection hp with hp;subst hp;unfold storeAll;rw[Al];exact bA (h σ .refl rfl (by obtain⟨h1,h2⟩:=eF.mp e;rw[←h2];exact(List.set_getElem_self h1).symm))
 |cons kv vs ih=>
  obtain⟨kv,v⟩:=kv
  match ps,hp,r with
  | [],hp,r=>exact nomatch r.length| [p],hp,r=>exact absurd r.length (by show¬(BO vs).length+2=1;exact fun fK=>aS 17311907379910017046 rfl fK)|p::p'::ps,hp,r=>
   refine cY hp fun k hk hp=>cY hp fun _ q hp=>?_;have q:cZ es k=true∧es.length<aJ:=nH (M:=fun _=>cZ es k=true∧es.length<aJ) q fun q=>⟨(eY.mp q).1,cK (eY.mp q).2⟩;unfold storeAll;rw[PB];refine bE.kN (M:=fun l=>l=kv::v::BO vs→_) r (fun v1 l1 r1 r eq=>?_) rfl;refine bE.kN (M:=fun l=>v1::l=kv::v::BO vs→_) r (fun v2 l2 r2 r eq=>?_) eq;cases eq;refine aO (aO (J6 hu e ea q.1 q.2 (CK hk▸r1) r2 fun τ l eι eH=>bA ?_));refine ih (σ:=τ) (by rw[eι];exact ea) (by rw[eH,vP (eF.mp e).1]) hp (Hx.Vs.le r l) fun υ k O8 mK=>h υ (l.trans k) (O8.trans eι) (by rw[mK,eH,vQ])
theorem zy{ks:List (Option Expr)}{vs:List Expr}{ds:Ds}(h0:ks≠[])(hl:ks.length=vs.length)(hs:ks.all (·.isSome)=true)(hn:ks.length≤15)(h:EN g S ks vs ds):bK g S (.Dict ks vs pos) (mM ds):=by
 intro env A C rest V fr σ F Q E p;have L:σ.Le (σ.new (fJ [] 0) (.dict [] false) σ.s.toks rfl ⟨[],0,rfl,.nil,mD⟩):=σ.xI;have ev:(σ.new (fJ [] 0) (.dict [] false) σ.s.toks rfl ⟨[],0,rfl,.nil,mD⟩).V (.ref σ.H.length) (.ref σ.s.heap.objs.size):=σ.HG;refine wpAny_Dict_any hs hl h0 hn (h pos env A C rest V fr _ (F.le L) _ E (Hx.bD.bind (R₁:=OK) (p.le L) fun xs ws τ l r p=>p.ob fun _ he p=>p.ob fun pT hp p=>?_));refine cY he fun q h1 he=>?_;have he:q.2.1=[]∧q.2.2=false:=nH (M:=fun _=>q.2.1=[]∧q.2.2=false) he fun q=>⟨JK.mp (eY.mp q).1,(yA _).mp (eY.mp q).2⟩;refine bQ fun G_ aQ=>?_;obtain⟨eq,h1⟩:=sJ h1;injection eq with eq;rw[he.1,he.2,←eq]at h1;have ev:=ev.le l;obtain⟨b,ea,eb⟩:=ev;cases eb;refine aQ ?_;exact u8 V.tE ws ea h1 hp r fun υ k eι eH=>p _ υ k eH (AT (by rw[eι];exact ea))
theorem zz:bK g S (.Dict [] [] pos) (mM aH):=by
 intro env A C rest V fr σ F Q E p;refine wpAny_Dict_empty (Hx.bD.ob (σ:=σ) (R:=Hx.V) p fun _ _ p=>p.ob fun es he p=>?_);injection he with he;subst he;exact p _ _ (show σ.Le (σ.new (fJ [] 0) (.dict [] false) σ.s.toks rfl ⟨[],0,rfl,.nil,mD⟩)from σ.xI) (by rw[Uw _ _ (fQ _),yQ];rfl) σ.HG
end
section
variable{g:Gl}{S:Sc}{σ τ:Hx g}{env:Env}{A:cH}{C:dI}{rest:bY}{fr:aW}{E:aF→aL→Prop}{P:Prop}{v:aF}{x:Str}{np pos apos:Pos}{es:List Expr}{ds:Ds}{i:Nat}
inductive nN(g:Gl)(S:Sc):List Expr→Ds→Prop
 |nil:nN g S [] aH|cons {e:Expr} {r:List Expr} {d:D} {ds:Ds}:isStar e=false→bK g S e d→nN g S r ds→nN g S (e::r) (aC d ds)
theorem nN.sound(x:nN g S es ds):AN g S es ds:=by
 induction x with
 |nil=>exact yy|cons a b _ ih=>exact Pr a b ih
theorem nN.xS(x:nN g S es ds):(backTo pos (starEach es env)).any (·.1)=false:=by
 induction x with
 |nil=>rfl|cons a _ _ ih=>rw[XN a];exact ih
theorem ET(x:nN g S es ds)(V:Ev g S env A C rest){f:aF}{Q:Args→aL→Prop}(F:At g S env rest fr σ)(p:σ.bD Hx.Vs (ds C fr σ.H) (fun vs=>Q ⟨vs,[]⟩) E):
  aP (aM g.prog g.w) A (evalArgs f true (backTo pos (starEach es env)) []) Q E σ.s:=by
 cases x with
 |nil=>exact Bu (p.now bE.nil)|cons a b c=>
  have:=Pr a b c.sound pos env A C rest V fr σ F _ E p;rw[XN a]at this⊢;exact evalArgs_plain (x:=eval _ env) this
theorem Lz(hn:es.length<20)(h:(backTo pos (starEach es env)).any (·.1)=false):methodCallForm (es.length+([]:List Keyword).length) (backTo pos (starEach es env)) (backToKw pos (keywordEach [] env))=true:=by
 unfold methodCallForm;rw[show(backTo pos (starEach es env)).all (fun x=>!x.1)=true by rw[List.all_eq_not_any_not];simpa using h];exact(cC (JQ hn (by decide)):decide (es.length<30)=true)
theorem Hx.stays(O:g.Ok)(σ:Hx g):g.K.In σ.s.heap:=O.X.keeps σ.X.stays
theorem zq{a:Addr}(hs:S.slot x=some (i,aY))(hv:S.glob x=some (.aE (.ref a)))(lU:nN g S es ds):bK g S (.Call (.Name x np) es [] pos) (aZ (aB (.aE (.ref a))) ds):=by
 intro env A C rest V fr σ F Q E p;refine bQ fun G_ aQ=>?_;obtain⟨hs,hd,hc⟩:=Sc.slot_of hs;obtain⟨u,hu,r,LD⟩:=V.sc.glob x _ hv;have r0:σ.V (.aE (.ref a)) u:=(r _ σ.X.stays).mono σ.X.dZ (.refl _ _) (Pre.nil _);cases r0.aE;refine aQ ?_;refine F.frm fun m f=>Call_Name (trees:=backTo pos (starEach es env)) rfl (nameG_K f V.ok.X (topRead_of V.ok.T) hu ?_ V.eo.glob V.eo.kind ((V.eo.names x i _ hs).elim id fun q=>nomatch q.1) hd);exact callWith_of (P:=g.K.In) (first:=[]) (by rw[lU.xS];rfl) (keeps_K (LD a rfl)) (ET lU V F (Hx.bD.bind (R₁:=Hx.Vs) p fun xs vs τ l r p=>⟨τ.stays V.ok,V.call τ (l.nss▸F.ls) _ xs _ vs Q E (r0.le l) r p⟩))
theorem iw{r:PV}{u:Unit}(e:lX σ.H r Js=some u)(rv:σ.V r v)(k: ∀a,v= .ref a→FnAt a σ.s.heap→P):P:=by
 obtain⟨n,o,rfl,h2,h3⟩:=qG e;cases o with
 |lam b sc fr=>
  revert k;refine rv.ref fun a ea k=>σ.at h2 ea fun o ho x=>?_;obtain⟨q,oM,c,lR,rfl,_⟩:=x;exact k a rfl ⟨_,_,_,_,ho⟩
 |_=>exact dB h3
theorem zt(hs:S.slot x=some (i,.local)):bK g S (.Call (.Name x np) [] [] pos) (DA (aD i)):=by
 intro env A C rest V fr σ F Q E p;refine Call_Name (trees:=[]) rfl ((Pw (by unfold wE;rw[hs])) env A C rest V fr σ F _ E (Hx.bD.bind (R₁:=Hx.V) p fun y v τ l r p=>p.ob fun _ e p=>iw e r fun a ev hf=>?_));subst ev;exact callWith_F0 (env:=env) hf (V.call τ (l.nss▸F.ls) _ [] _ [] Q E r bE.nil p)
theorem pa{h:Heap}{ι:List Addr}(hx: ∀k:Nat,g.attrs[k]?≠some x){es:List (Nat×PV)}{ds:List fM}(y:nO g h ι es ds):getL x ds=some none:=by
 have key: ∀d∈ds,d.key.isStr x=false∧d.refKey=false:=fun d hd=>by
  refine y.mem hd fun e _ he=>?_;obtain⟨⟨z,t,hz,hk⟩,_⟩:=he;exact⟨by rw[hk];exact dC.mpr fun q=>hx _ (by rw[hz,q]),by unfold Td;rw[hk]⟩
 unfold getL;rw[show ds.find? (·.key.isStr x)=none from OY.mpr fun d hd=>by rw[(key d hd).1];decide,show ds.any (·.refKey)=false from AP.mpr fun d hd=>by rw[(key d hd).2];decide];rfl
theorem i6{o:Expr}{d:D}{c f:Addr}(hc:sS o=false)(hl:(apos.endLine==pos.line)=true)(hx:S.xF x=some (c,f))(hn:es.length<20)(ho:bK g S o d)(lU:nN g S es ds):
  bK g S (.Call (.Attribute o x apos) es [] pos) (fC c f d ds):=by
 intro env A C rest V fr σ F Q E p;rw[arm_eval_Call,yU hc];refine aO (ho env A C rest V fr σ F _ E (Hx.bD.bind (R₁:=Hx.V) p fun y v τ l r p=>p.ob fun dn e1 p=>p.ob fun ns e2 p9=>?_));have M:=V.sc.xF x c f hx;refine bQ fun G_ aQ=>?_;obtain⟨n,o,rfl,h2,h3⟩:=qG e1;cases o with
 |inst c' d'=>
  obtain⟨rfl,rfl⟩:=nH (M:=fun q=>c'=c∧d'=q) h3 fun h=>⟨cK h,rfl⟩;have r0:=r;refine aQ ?_;revert r0;refine r.inst h2 (VQ e2) fun a dx dl n _ I _ yn _ _ r0=>?_;refine aO (xX (aO (mV ?_)));unfold calleeOf methodCallPos;rw[show methodCallForm (es.length+([]:List Keyword).length) (backTo pos (starEach es env)) (backToKw pos (keywordEach [] env))=true from Lz hn lU.xS];refine(F.le l).frm fun m fr'=>method_inst (s:=τ.s) fr' V.ok.X I M.2.1 M.1 M.2.2.2.1 (pa M.2.2.1 yn) (aO ?_);rw[aV (by rw[hl];rfl)];refine bA (callWith_of (P:=g.K.In) (by rw[lU.xS];rfl) (keeps_K M.2.2.2.2) (ET lU V (F.le l) (Hx.bD.bind (R₁:=Hx.Vs) p9 fun xs vs υ k r' p=>⟨υ.stays V.ok,?_⟩)));exact V.call υ ((l.trans k).nss▸F.ls) _ _ _ (.ref a::vs) Q E JV (bE.cons (r0.le k) r') p
 |_=>refine aQ ?_;exact dB h3
end
noncomputable def BM.T:BM→String
 | .qD=> "list"| .append=> "list"| .extend=> "list"| .count=> "list"| .get=> "dict"| .pN=> "dict"| .join=> "str"| .rM=> "dict"
noncomputable def BM.nm:BM→String
 | .qD=> "pop"| .append=> "append"| .extend=> "extend"| .count=> "count"| .get=> "get"| .pN=> "pop"| .join=> "join"| .rM=> "setdefault"
noncomputable def BM.id:BM→String
 | .qD=> "list.pop"| .append=> "list.append"| .extend=> "list.extend"| .count=> "list.count"| .get=> "dict.get"| .pN=> "dict.pop"| .join=> "str.join"| .rM=> "dict.setdefault"
section
variable{g:Gl}{S:Sc}{σ τ:Hx g}{A:cH}{E Q:aF→aL→Prop}{x y z:PV}{a b c v:aF}{P:Prop}{h:Heap}{ι:List Addr}{s:aL}{l m:List PV}{vs ws:List aF}{r:Nat}
theorem Hx.NU{ad:Addr}{n t:Nat}(f:Array aF→Array aF)(e:σ.H[r]?=some (.list l))(ea:σ.ι[r]?=some ad)(et:σ.s.heap.get? ad=some (cQ vs n))(hf:f vs.toArray=ws.toArray)(rv:σ.Vs m ws)
  (k: ∀τ:Hx g,σ.Le τ→τ.s={σ.s with heap:=σ.s.heap.update ad (mE f),toks:=t}→τ.H=σ.H.set r (.list m)→P):P:=
 have hk: ∃j,mE f (cQ vs n)=cQ ws j:=⟨_,by rw[show ws=(f vs.toArray).toList by rw[hf]];rfl⟩
 hk.elim fun j hk=>σ.upd (po':= .list m) (o':=cQ ws j) e ea rfl (tL ..) (by rw[rY _ et (by rw[hk];rfl),hk]) ⟨ws,j,rfl,rv⟩ t k
theorem Hx.bD.upd{α β:Type}{R:Hx g→α→β→Prop}{Q:β→aL→Prop}{p:α}{u:β}{H:PH}{s:aL}(q:σ.bD R (.ok p H) Q E)(l:σ.Le τ)(es:τ.s=s)(eH:τ.H=H)(r:R τ p u):Q u s:=es▸q u τ l eH r
@[elab_as_elim] theorem bE.two{M:List aF→Prop}(r:bE g h ι [x,y] vs)(k: ∀a b,dH g h ι x a→dH g h ι y b→M [a,b]):M vs:=
 r.kN fun a l ra r=>r.kN fun b l rb r=>r.nG (k a b ra rb)
@[elab_as_elim] theorem bE.WG{M:List aF→Prop}(r:bE g h ι [x] vs)(k: ∀a,dH g h ι x a→M [a]):M vs:=
 r.kN fun a l ra r=>r.nG (k a ra)
theorem Xp(ra:σ.V x a)(rb:σ.V y b)(p:σ.bD Hx.V (Ca x y σ.H) Q E):aP (aM g.prog g.w) A (call (.builtin "list.append") [a,b]) Q E σ.s:=
 p.ob fun q e p=>p.cB fun hl p=>ra.listAt e fun t vs n _ e' ei et rt=>
  call_meets Br (T:= "list") ⟨_,et,rfl⟩ Wm (Wi _ _) (Se t vs.toArray n b (by rw[fN,rt.length];exact bW (sA (cK hl)) pC))
   ⟨et,Hx.NU (ws:=vs++[b]) (fun x=>x.push b) e' ei et (by simp) (rt.append (bE.cons rb bE.nil)) fun τ l es eH=>p.upd l es eH AS⟩
theorem Fj(rt:σ.Vs l vs)(ID:σ.Vs m ws)(hl:decide (l.length+m.length≤aJ)=true):
  ¬(!vs.toArray.isEmpty&&ZA (vs.toArray.size+ws.toArray.size))=true∧vs.toArray.size≤sizeLine∧vs.toArray.size+ws.toArray.size≤sizeLine+1:=by
 have hl:=cK hl;rw[←rt.length,←ID.length]at hl;have h3:=tW hl (show aJ<sizeLine by decide);rw[fN,fN];refine⟨?_,bW (EJ _ _) (sA h3),yO (sA h3)⟩;rw[mW,not_and];intro _;unfold ZA;simp;exact sA h3
@[elab_as_elim] theorem lm{M:aF→Prop}(e:VG σ.H r y=some m)(rb:σ.V y b)(h1: ∀u ws k,σ.s.heap.get? u=some (fV ws k)→σ.Vs m ws→M (.ref u))(h2: ∀u ws k,σ.s.heap.get? u=some (cQ ws k)→σ.Vs m ws→M (.ref u)):M b:=by
 induction y using PV.casesOn with
 |tup l=>injection e with e;subst e;exact rb.tup h1
 |ref j=>
  refine cY e fun q e1 e2=>rb.listAt e1 fun u ws k _ _ _ eu ru=>?_;revert e2
  induction j==r using Bool.casesOn with
  |true=>exact nofun|false=>exact fun e2=>h2 u ws k eu (gQ e2▸ru)
 |_=>exact dB e
theorem O7(ra:σ.V x a)(rb:σ.V y b)(p:σ.bD Hx.V (Fi x y σ.H) Q E):aP (aM g.prog g.w) A (call (.builtin "list.extend") [a,b]) Q E σ.s:=
 p.ob fun q e p=>p.ob fun m em p=>p.cB fun hl p=>ra.listAt e fun t vs n _ e' ei et rt=>by
  have fin: ∀ws,σ.Vs m ws→Q .none {σ.s with heap:=σ.s.heap.update t (mE fun x=>x++ws.toArray),toks:=σ.s.toks}:=fun ws ID=>
   Hx.NU (ws:=vs++ws) (fun x=>x++ws.toArray) e' ei et (by simp) (rt.append ID) fun τ l es eH=>p.upd l es eH AS
  refine lm em rb (fun u ws k eu ru=>?_) (fun u ws k eu ru=>?_)
  ·exact(Fj rt ru hl).elim fun k1 k=>call_meets Bt (T:= "list") ⟨_,et,rfl⟩ Wn (Wj _ _) (aB4 t vs.toArray n u ws.toArray _ k1 k.1 k.2) ⟨et,eu,fin ws ru⟩
  ·exact(Fj rt ru hl).elim fun k1 k=>call_meets Bt (T:= "list") ⟨_,et,rfl⟩ Wn (Wj _ _) (aB3 t vs.toArray n u ws.toArray _ k1 k.1 k.2) ⟨et,eu,fin ws ru⟩
theorem bE.last{p:PV}(r:bE g h ι l vs)(e:l.getLast?=some p)(k: ∀v,vs[vs.length-1]?=some v→dH g h ι p v→bE g h ι l.dropLast vs.dropLast→P):P:=by
 have hlen:=r.length;rw[Um]at e;refine r.get e fun v hv rv=>k v (by rw[hlen];exact hv) rv ?_;rw[Ue,Ue,hlen];exact r.take _
theorem N7{u:aF}(hu:vs[vs.length-1]?=some u):vs.toArray.eraseIdxIfInBounds (vs.toArray.size-1)=vs.dropLast.toArray:=by
 have:vs≠[]:=fun q=>by rw[q]at hu;injection hu
 rw[←List.dropLast_concat_getLast this];simp[YV,List.eraseIdx_append_of_length_le]
theorem tr(ra:σ.V x a)(p:σ.bD Hx.V (Oc x σ.H) Q E):aP (aM g.prog g.w) A (call (.builtin "list.pop") [a]) Q E σ.s:=
 p.ob fun q e p=>p.cB fun hl p=>p.ob fun v hv p=>ra.listAt e fun t vs n _ e' ei et rt=>bE.last rt hv fun u hu ru rd=>
  call_meets Wy (T:= "list") ⟨_,et,rfl⟩ PySem.F.entry_list_pop (PySem.F.args_list_pop_1 _) (aCW t vs.toArray n u (by simpa using hu) (by rw[fN,rt.length];exact bW (cK hl) pC))
   ⟨et,Hx.NU (fun xs=>xs.eraseIdxIfInBounds (vs.toArray.size-1)) e' ei et (N7 hu) rd fun τ l es eH=>p.upd l es eH (Hx.V.le (show σ.V v u from ru) l)⟩
theorem Jk: ∀{l:List PV} {ns:List Int},intsOf l=some ns→l=(ns.map PA.int).map PA.val
 | [],_,e=>by injection e with e;subst e;rfl
 |p::r,ns,e=>cY e fun a e1 e=>kA (M:=fun ns=>p::r=(ns.map PA.int).map PA.val) e fun l e2=>by rw[iV e1,Jk e2];rfl
theorem G6{k:Int}{ns:List Int}:(ns.map PA.int).countP (· == .int k)=ns.count k:=by
 rw[List.countP_map];exact List.countP_congr fun i _=>by rw[Tp,←PA.Co]
theorem G7(ra:σ.V x a)(rb:σ.V y b)(p:σ.bD Hx.V (Dq x y σ.H) Q E):aP (aM g.prog g.w) A (call (.builtin "list.count") [a,b]) Q E σ.s:=
 p.ob fun q e p=>p.ob fun k ek p=>p.ob fun ns dA p=>ra.listAt e fun t vs n _ e' ei et rt=>(iV ek▸rb:σ.V (.int k) b).int fun u=>by
  have h:=SH (A:=A.in1) (s:=σ.s) (k:= .int k) (t:=u) (Jk dA▸rt);refine call_meets Wx (T:= "list") ⟨_,et,rfl⟩ PySem.F.entry_list_count (PySem.F.args_list_count_2 _ _) (SeqAt.list_countAt t vs.toArray n none #[] (.int k u) (rQ (.int k))) ⟨et,fun y hy=>h.1 y (by simpa using hy),?_⟩;exact(p.tok (t:=σ.s.toks+1) (b:= .int (vs.countP (rQ (.int k))) σ.s.toks) (by rw[←G6,←h.2.2];exact mX))
theorem Hx.V.Eb{es:cA}{lk:Bool}{k:aF}{j:PK}{M:aF→Prop}(rv:σ.V (.ref r) v)(e:σ.H[r]?=some (.dict es lk))(hj:plainKey y=some j)(hd:cZ es j=true)(rk:σ.V y k)
  (f: ∀(i:PA) d eK,j=i.key→i.is k=true→σ.ι[r]?=some d→σ.s.heap.DictOf (kD g.prog g.w) d eK→pA g σ.s.heap σ.ι es eK→M (.ref d)):M v:=by
 have hj:=tj hj;rw[CK hj.1]at rk;have nt:=hj.2;revert rk hd nt f;clear hj;refine PK.cases j (fun i hd rk f nt=>?_) fun l _ _ _ nt=>(nt l rfl).elim;exact rv.BG e (BH hd) fun d eK ed dd kv=>f i d eK rfl (uQ rk) ed dd kv
theorem U8(O:g.Ok)(ra:σ.V x a)(rb:σ.V y b)(p:σ.bD Hx.V (getOp x y σ.H) Q E):aP (aM g.prog g.w) A (call (.builtin "dict.get") [a,b]) Q E σ.s:=
 p.ob fun q e p=>p.ob fun j hj p=>p.cB fun hd p=>by
  obtain⟨rfl,e2⟩:=sJ e;refine ra.Eb (M:=fun a=>aP (aM g.prog g.w) A (call (.builtin "dict.get") [a,b]) Q E σ.s) e2 hj hd rb fun i d eK ej ib ed dd kv=>?_;subst ej;refine call_meetsIn Wr dd.typeIs PySem.F.entry_dict_get (PySem.F.args_dict_get_2 _ _) (meets_dict_get (kD g.prog g.w) d ib (oP O ed)) ⟨_,dd.mapOf,p.tok (GY kv (a:=i) (fun h1 h2=>?_) fun p v h1 h2 r=>?_)⟩
  ·rw[h1,h2];exact AS
  ·rw[h1,h2];exact r
theorem yb(O:g.Ok)(ra:σ.V x a)(rb:σ.V y b)(rc:σ.V z c)(p:σ.bD Hx.V (Pm x y z σ.H) Q E):aP (aM g.prog g.w) A (call (.builtin "dict.setdefault") [a,b,c]) Q E σ.s:=
 p.ob fun q e p=>p.ob fun j hj p=>p.cB fun hd p=>by
  obtain⟨rfl,e2⟩:=TF e;obtain⟨hd,hn⟩:=eY.mp hd;refine ra.Eb (M:=fun a=>aP (aM g.prog g.w) A (call (.builtin "dict.setdefault") [a,b,c]) Q E σ.s) e2 hj hd rb fun i d eK ej ib ed dd kv=>?_;subst ej;refine call_meetsIn Wv dd.typeIs PySem.F.entry_dict_setdefault (PySem.F.args_dict_setdefault_3 _ _ _) (kt_meets_setdefault (kD g.prog g.w) d ib (oP O ed) c) ⟨eK,dd,by rw[kv.length];exact bW (sA (cK hn)) pC,?_⟩;refine GY kv (a:=i) (fun h1 h2=>?_) fun u w h1 h2 ru=>?_
  ·rw[h1]at p
   refine⟨fun v hv=>(dB (h2.symm.trans hv)),fun hv h' d' hs=>σ.at e2 ed fun _ _ x=>?_⟩;obtain⟨_,_,_,_,nd⟩:=x;exact MP (lk:=false) (FU nd) d' (UP (a:=i) nd rc kv) fun o ho ro=>σ.upd e2 ed rfl hs ho ro (σ.s.toks+1) fun τ l es eH=>p.upd l es eH (rc.le l)
  ·rw[h1]at p
   refine⟨fun v hv=>?_,fun hv=>MI (h2.symm.trans hv)⟩;cases h2.symm.trans hv;exact p.tok ru
theorem V5{sep u v:Str}(h:sep.length=0):ZC sep [u,v]=u++v:=by
 unfold ZC;simp[(Array.eq_empty_of_size_eq_zero h)];rfl
theorem str_len(u v:Str):(u++v).length=u.length+v.length:=by
 show(u.cps++v.cps).size=_;rw[Array.size_append];rfl
theorem fw(ra:σ.V x a)(rb:σ.V y b)(p:σ.bD Hx.V (Kg x y σ.H) Q E):aP (aM g.prog g.w) A (call (.builtin "str.join") [a,b]) Q E σ.s:=
 p.ob fun sep es p=>p.ob fun q e p=>p.ob fun k ek p=>p.ob fun u eu p=>p.ob fun v ev p=>p.cB fun hq p=>rb.listAt e fun t vs n _ _ _ et rt=>(pJ es▸ra:σ.V (.str sep) a).str fun ts=>by
  obtain⟨hs,hl⟩:=eY.mp hq;have hl:=bW (cK hl) pC;rw[DM ek,pJ eu,pJ ev]at rt;revert et;refine bE.two rt fun a b ra rb=>Hx.V.str (σ:=σ) ra fun t1=>Hx.V.str (σ:=σ) rb fun t2 et=>?_;refine call_meets Wz (T:= "str") rfl PySem.F.entry_str_join (PySem.F.args_str_join_2 _ _) (meets_str_join_list sep ts t [(u,t1),(v,t2)] ?_) ⟨⟨_,et,rfl,_,rfl⟩,?_⟩
  ·unfold aCG
   have:=eq_of_beq hs;simp;exact dM 808806023328601158495723630451647478032736338404186400255886789527824 rfl hl this
  ·show(Made.str (ZC sep [u,v])).post _ _
   rw[V5 (eq_of_beq hs)];exact⟨by rw[str_len];exact hl,p.tok ON⟩
end
section
variable{g:Gl}{S:Sc}{σ τ:Hx g}{A:cH}{E Q:aF→aL→Prop}{x y:PV}{a b v w:aF}{P:Prop}{h:Heap}{ι:List Addr}{s:aL}{r j:Nat}{es:cA}{xs:List (List PA×Addr×aF)}{l:List PA}{p:PV}{ds:List fM}{n:Nat}{d:Addr}
theorem Fg{α β:Type}{f:α→β}: ∀(l:List α) (j:Nat),(l.map f).eraseIdx j=(l.eraseIdx j).map f
 | [],_=>rfl|_::_,0=>rfl|a::r,j+1=>bN (f a:: ·) (Fg r j)
theorem I9{k:PK}(h:k∉es.map (·.1)):iD es k=es:=
 Ui.mpr fun e he=>cC fun q=>h (q▸lN he)
theorem gj{q:Addr×aF}(x:nM g h ι es xs)(nd:(es.map (·.1)).Nodup)(e:xs[j]?=some (l,q)):nM g h ι (iD es (.tup l)) (xs.eraseIdx j):=by
 induction x generalizing j with
 |nil=>exact dB e| @cons e1 x1 es xs r t ih=>
  rw[dU,hA]at nd;unfold iD
  induction j using Nat.casesOn with
  |zero=>
   cases e;rw[AR (by simp[r.1]),show es.filter _=es from I9 (r.1▸nd.1)];exact t
  |succ j=>
   have e:xs[j]?=some (l,q):=e;rw[AU (by
    refine cC fun z=>nd.1 ?_;rw[z,UM t];exact dY.mpr ⟨_,lN (fD e),rfl⟩)]
   exact .cons r (ih nd.2 e)
theorem z7{a:Addr}{k:List PA}{Q:Option fM→aL→Prop}(hu:A.units<cLine)(gU:IsTupleKey (kD g.prog g.w) s.heap k a)(ho:s.heap.get? d=some (fJ ds n))(hm:s.heap.DictOfH (iJ g) d xs)
  (he:ds=xs.map (entryOfKey (iJ g))) {q:Addr×aF} (hj:xs[j]?=some (k,q)) (gC:xs.length≤aJ)
  (h: ∀tk,Q (some (entryOfKey (iJ g) (k,q))) {s with heap:=s.heap.update d (PS fun es=>es.eraseIdxIfInBounds j),toks:=tk}):aP (aM g.prog g.w) A (Sr d (.ref a)) Q E s:=by
 refine bQ fun G_ aQ=>?_;obtain⟨o,es,ep,jI,_,hd,iE,Y9,hn⟩:=hm;rw[ho]at jI
 (injection jI with jI;subst jI)
 (injection hd with hd;subst hd)
 refine aQ ?_;unfold Sr;refine mV ?_;refine aO ((iJ g).pyHash (k:=k) hu gU ?_);refine aO (wpAny_dictFind_heap (knd:=iJ g) (s:={s with toks:=s.toks+(iJ g).draws k}) hu gU ho rfl iE Y9 hn ?_ ?_)
 ·intro GK
  exact absurd hj (GK j q)
 ·intro i p hi
  have LB:i=j:=by
   have h1:(xs.map (·.1))[i]?=some k:=by rw[fW,hi];rfl
   exact(yJ (eF.mp h1).1 hn).mp (h1.trans (show(xs.map (·.1))[j]?=some k by rw[fW,hj];rfl).symm)
  subst LB;rw[hj]at hi;cases hi;refine aO (xW (s:={s with toks:=s.toks+(iJ g).draws k}) ho rfl ?_);rw[entry_at iE i,hj];refine aO (wpAny_updateDictKeys (s:={s with toks:=s.toks+(iJ g).draws k}) ho rfl (bA (h _)) ?_ ?_)
  ·rw[fN,he,cR]
   exact bW gC (by decide)
  ·unfold YV
   split
   ·rw[Array.size_eraseIdx]
    exact yO (Be _ _)
   ·exact aS 128983400592 rfl
theorem C4{a:Addr}{k:List PA}(hu:A.units+5<cLine)(gU:IsTupleKey (kD g.prog g.w) s.heap k a)(ho:s.heap.get? d=some (fJ ds n))(hm:s.heap.DictOfH (iJ g) d xs)
  (he:ds=xs.map (entryOfKey (iJ g))) {q:Addr×aF} (hj:xs[j]?=some (k,q)) (gC:xs.length≤aJ)
  (h: ∀tk,Q q.2 {s with heap:=s.heap.update d (PS fun es=>es.eraseIdxIfInBounds j),toks:=tk}):
  aP (aM g.prog g.w) A (call (.builtin "dict.pop") [.ref d,.ref a]) Q E s:=by
 refine rR Bo hm.typeIs Wk ?_ (Wh _ _);unfold Builtin.«dict.pop»;refine aO ?_;unfold aB6;refine aO (YQ hm.typeIs ?_);show aP _ _ (pure (d,aR a,none)) _ _ s;refine bA ?_;dsimp only;have eP:ds.toArray.isEmpty=false:=by
  rw[he]
  induction xs using List.casesOn with
  |nil=>simp at hj|cons=>rfl
 refine aO ?_;refine xW ho rfl ?_;refine aO (bA ?_);rw[eP];simp only[xZ,if_false];refine aO (z7 (show A.in1.units<cLine by dsimp only;exact aS 1207322622321968962371323153 rfl hu) gU ho hm he hj gC fun tk=>?_);simp only[Option.isNone_some,xZ,if_false];exact aO (Rf (bA ⟨_,rfl,h tk⟩))
theorem gk(kx:nM g h ι es xs)(hv:bZ es (.tup l)=some p)(k: ∀(j:Nat) (q:Addr×aF),xs[j]?=some (l,q)→dH g h ι p q.2→P):P:=
 LY kx (l:=l) (fun h1 _=>dB (h1.symm.trans hv)) fun p' q h1 hq rq=>by
  cases h1.symm.trans hv;unfold atKey at hq;obtain⟨z,hf,hq⟩:=lO.mp hq;obtain⟨j,hj⟩:=AW (PJ hf);exact k j q (by rw[hj,← (cK (OZ hf:)),←hq]) rq
theorem N6{q:List PA×Addr×aF}(hx:ds=xs.map (entryOfKey (iJ g)))(hj:xs[j]?=some q):(ds.toArray.eraseIdxIfInBounds j).toList=(xs.eraseIdx j).map (entryOfKey (iJ g)):=by
 unfold YV;rw[dif_pos (by rw[fN,hx,cR];exact(eF.mp hj).1),Array.toList_eraseIdx];show ds.eraseIdx j=_;rw[hx];exact Fg xs j
theorem K0{i:PA}(e:σ.H[r]?=some (.dict es false))(ra:σ.V (.ref r) a)(rb:σ.V i.key.val b)(hd:cZ es i.key=true)(hl:es.length≤aJ)(hv:bZ es i.key=some p)
  (q:σ.bD Hx.V (.ok p (σ.H.set r (.dict (iD es i.key) false))) Q E):aP (aM g.prog g.w) A (call (.builtin "dict.pop") [a,b]) Q E σ.s:=
 ra.BG e (BH hd) fun d eK ed dd kv=>GY kv (a:=i) (fun h1 _=>dB (h1.symm.trans hv)) fun p' u h1 bc ru=>by
  cases h1.symm.trans hv;have ac:(keyPart b).isSome=true:=by
   induction i using PA.casesOn with
   |int i=>exact Hx.V.int rb fun t=>rfl
   |str i=>exact Hx.V.str rb fun t=>rfl
  refine call_meetsIn Bo dd.typeIs Wk (Wh _ _) (meets_dict_pop_there (kD g.prog g.w) d (uQ rb) [] (.inl rfl) ac) ⟨eK,u,dd,by rw[kv.length];exact bW hl pC,bc,fun h' d' hs=>σ.at e ed fun _ _ x=>?_⟩;obtain⟨_,_,_,_,nd⟩:=x;exact MP (lk:=false) (Dx nd) d' (gr (a:=i) kv) fun o ho ro=>σ.upd e ed rfl hs ho ro (σ.s.toks+1) fun τ l es eH=>q.upd l es eH (Hx.V.le (show σ.V _ u from ru) l)
theorem J8(hu:A.units+10<cLine)(e:σ.H[r]?=some (.dict es false))(ra:σ.V (.ref r) a)(rb:σ.V (PK.tup l).val b)(hd:cZ es (.tup l)=true)(hl:es.length≤aJ)(hv:bZ es (.tup l)=some p)
  (q:σ.bD Hx.V (.ok p (σ.H.set r (.dict (iD es (.tup l)) false))) Q E):aP (aM g.prog g.w) A (call (.builtin "dict.pop") [a,b]) Q E σ.s:=
 ra.dict e fun d ds n ed e2 ye nd=>by
  obtain⟨xs,kx,hx⟩:=Fa (FS hd) ye;refine zZ rb fun t gU=>gk kx hv fun j u hj rq=>C4 (aS 1207322668438829146649396497 rfl hu) gU e2 (⟨_,ds.toArray,n,e2,⟨rfl,rfl,rfl⟩,rfl,by simpa using hx,Kp kx,VO (UM kx▸nd)⟩) hx hj (by rw[kx.length];exact hl) fun tk=>?_;obtain⟨k',eM⟩:=(show∃k,PS (fun es=>es.eraseIdxIfInBounds j) (fJ ds n)=fJ ((xs.eraseIdx j).map (entryOfKey (iJ g))) k from⟨_,by rw[←N6 hx hj];rfl⟩);exact σ.upd (h':=σ.s.heap.update d (PS fun es=>es.eraseIdxIfInBounds j)) (po':= .dict (iD es (.tup l)) false) e ed rfl (tL ..) (by rw[rY _ e2 (by rw[eM];rfl),eM]) ⟨_,k',rfl,Fb (gj kx nd hj),Dx nd⟩ tk
   fun τ l es eH=>q.upd l es eH (Hx.V.le (show σ.V _ u.2 from rq) l)
theorem J9(O:g.Ok)(hu:A.units+10<cLine)(ra:σ.V x a)(rb:σ.V y b)(p:σ.bD Hx.V (Eg x y σ.H) Q E):aP (aM g.prog g.w) A (call (.builtin "dict.pop") [a,b]) Q E σ.s:=
 p.ob fun q e p=>p.ob fun k hk p=>p.cB fun hd p=>p.ob fun v hv p9=>by
  obtain⟨rfl,e9⟩:=TF e;obtain⟨W9,hl⟩:=eY.mp hd;rw[CK hk]at rb;exact PK.cases k (fun k rb hd hv p=>K0 e9 ra rb hd (cK hl) hv p) (fun l rb hd hv p=>J8 hu e9 ra rb hd (cK hl) hv p) rb W9 hv p9
noncomputable def Kd.T:Kd→String
 | .list=> "list"| .dict=> "dict"| .str=> "str"
theorem Jr{k:Kd}(r:σ.V x v)(e:GV k x σ.H=true):σ.s.TypeIs v k.T∧∀a,v= .ref a→∃ob,σ.s.heap.get? a=some ob∧ob.dict=none:=by
 cases k with
 |list=>
  obtain⟨q,e⟩:=vU.mp e;exact r.listAt e fun a vs n _ _ _ et _=>⟨⟨_,et,rfl⟩,fun a' q=>by injection q with q;subst q;exact⟨_,et,rfl⟩⟩
 |dict=>
  obtain⟨q,e⟩:=vU.mp e;obtain⟨rfl,e3⟩:=sJ e;exact r.dict e3 fun a ds n _ et _ _=>⟨⟨_,et,rfl⟩,fun a' q=>by injection q with q;subst q;exact⟨_,et,rfl⟩⟩
 |str=>
  obtain⟨q,e⟩:=vU.mp e;exact(pJ e▸r:σ.V (.str q) v).str fun t=>⟨rfl,fun a q=>MH Xk q rfl⟩
theorem BM.plain(b:BM):PlainAttrs b.T:=by cases b<;>first|exact PySem.F.plainAttrs_list|exact Bm|exact PySem.F.plainAttrs_str
theorem BM.slot(b:BM):Slot b.T (aA b.nm) b.id:=by
 cases b
 ·exact Wy
 ·exact Br
 ·exact Bt
 ·exact Wx
 ·exact Wr
 ·exact Bo
 ·exact Wz
 ·exact Wv
theorem BM.ty(b:BM):typeOf (.builtin b.id)=pure (.type "method_descriptor"):=by
 cases b
 ·exact PySem.F.type_list_pop
 ·exact PySem.F.type_list_append
 ·exact PySem.F.type_list_extend
 ·exact PySem.F.type_list_count
 ·exact PySem.F.type_dict_get
 ·exact PySem.F.type_dict_pop
 ·exact PySem.F.type_str_join
 ·exact PySem.F.type_dict_setdefault
theorem BM.Uf(b:BM):b.kd.T=b.T:=by cases b<;>rfl
theorem Zl: ∀p∈RG,p.2=p.1.nm:=fun p h=>cK (jT.mp (show(RG.all fun p=>decide (p.2=p.1.nm))=true from rfl) p h)
theorem Zk{m:Str}{n:Nat}{b:BM}(h:KA m n=some b):m=aA b.nm:=by
 unfold KA at h;cases q:jG m "pop"&&decide (n=0)with
 |true=>rw[q]at h;injection h with h;subst h;exact cK (eY.mp q).1
 |false=>
  rw[q]at h;obtain⟨p,e,h⟩:=lO.mp h;subst h;rw[←Zl p (PJ e)];have e:=OZ e;exact cK e
theorem wf{b:BM}{ps:List PV}{vs:List aF}(O:g.Ok)(hu:A.units+10<cLine)(ra:σ.V x v)(rs:σ.Vs ps vs)(p:σ.bD Hx.V (b.run x ps σ.H) Q E):aP (aM g.prog g.w) A (call (.builtin b.id) (v::vs)) Q E σ.s:=by
 have one: ∀{y:PV} {id:String},oneOf ps=some y→(∀u,σ.V y u→aP (aM g.prog g.w) A (call (.builtin id) [v,u]) Q E σ.s)→aP (aM g.prog g.w) A (call (.builtin id) (v::vs)) Q E σ.s:=fun {y id} e k=>
  bE.WG (M:=fun vs=>aP (aM g.prog g.w) A (call (.builtin id) (v::vs)) Q E σ.s) (MS e▸rs:σ.Vs [y] vs) k
 induction b using BM.casesOn with
 |qD=>exact p.ob fun u e p=>bE.nG (M:=fun vs=>aP (aM g.prog g.w) A (call (.builtin "list.pop") (v::vs)) Q E σ.s) (oi e▸rs:σ.Vs [] vs) (tr ra p)
 |append=>exact p.ob fun y e p=>one e fun u ru=>Xp ra ru p
 |extend=>exact p.ob fun y e p=>one e fun u ru=>O7 ra ru p
 |count=>exact p.ob fun y e p=>one e fun u ru=>G7 ra ru p
 |get=>exact p.ob fun y e p=>one e fun u ru=>U8 O ra ru p
 |pN=>exact p.ob fun y e p=>one e fun u ru=>J9 O hu ra ru p
 |join=>exact p.ob fun y e p=>one e fun u ru=>fw ra ru p
 |rM=>exact p.ob fun y e p=>bE.two (M:=fun vs=>aP (aM g.prog g.w) A (call (.builtin "dict.setdefault") (v::vs)) Q E σ.s) (DM e▸rs:σ.Vs [y.1,y.2] vs) fun u w ru ID=>yb O ra ru ID p
theorem zo{o:Expr}{x:Str}{apos pos:Pos}{es:List Expr}{d:D}{ds:Ds}{b:BM}(hc:sS o=false)(hl:(apos.endLine==pos.line)=true)(hx:KA x es.length=some b)(hn:es.length<20)(ho:bK g S o d)(lU:nN g S es ds):
  bK g S (.Call (.Attribute o x apos) es [] pos) (hV b d ds):=by
 intro env A C rest V fr σ F Q E p;rw[Zk hx];exact Qv (yU hc) (Lz hn lU.xS) hl (ho env A C rest V fr σ F _ E (Hx.bD.bind (R₁:=Hx.V) p fun y v τ l r p=>p.cB fun hk p=>
  ⟨b.T,b.id,b.plain,b.slot,b.ty,b.Uf▸(Jr r hk).1,(Jr r hk).2,callWith_builtin lU.xS (ET lU V (F.le l) (Hx.bD.bind (R₁:=Hx.Vs) p fun xs vs υ k r' p=>wf V.ok V.tE (r.le k) r' p))⟩))
end
section
variable{prog:Program}{w:World}{A:cH}{E:aF→aL→Prop}{s:aL}{it d v:Addr}{ds:List fM}{n i:Nat}
theorem keysIter{Q:aF→aL→Prop}(hd:(d==sysModules)=false)(ho:s.heap.get? d=some (fJ ds n))
  (hQ:Q (.ref s.heap.objs.size) {s with heap:=s.heap.push {cls:= .type "dict_keyiterator",data:= .fields #[.ref d,.int 0 0,.int ds.length 0,.int n 0]}}):aP (aM prog w) A (pyIter (.ref d)) Q E s:=by
 have hT:s.TypeIs (.ref d) "dict":=⟨_,ho,rfl⟩;refine aBU hT Ws (rR Ws hT PySem.F.entry_dict_iter ?_ (PySem.F.args_dict_iter_1 _));unfold Builtin.«dict.__iter__»;refine aO ?_;unfold aB5;refine aO (YQ hT (bA ?_));show aP _ _ (IW d>>=_) _ _ s;unfold IW;rw[aN (by rw[hd];exact lG)];refine aO (bA (aO (xW ho rfl (aO (NY ho rfl ?_)))));refine aO (vH (bA ⟨_,rfl,"dict_keyiterator",_,⟨_,jM _ rfl,rfl⟩,Bn.lookup,?_⟩));simpa[rawInt]using hQ
theorem Kb{o:Obj}{fs:Array aF}{P:Xb→aL→Prop}(hh:A.handled=none)(ho:s.heap.get? it=some o)(hd:o.data= .fields fs)(hn:0<fs.size)
  (h: ∀h' e,rX it s.heap h'→({s with heap:=h'}:aL).TypeIs (.ref e) "StopIteration"→E (.ref e) {s with heap:=h'}):
  aP (aM prog w) A.in1 (do setField (.ref it) 0 .none;raiseNew (←newExc (.type "StopIteration") [])) P E s:=by
 refine aO (AG ho hd hn ?_);refine aO ?_;simp only[newExc,newTuple];refine aO (vH ?_ (by size_fits));refine aO (m:=firstArgMember _ _) (wpAny_of_eq (a:=fR) (by first|rfl|(simp only[firstArgMember];rfl)) ?_);refine vH ?_ (by size_fits);exact aBV hh (h _ _ (((tL ..).extBut.push _).push _) ⟨_,jM _ rfl,rfl⟩)
theorem LX{Q:Option aF→aL→Prop}(hh:A.handled=none)(hit:s.heap.IsKeyIter it d i ds.length n)(ho:s.heap.get? d=some (fJ ds n))
  (hi: ∀e,ds[i]?=some e→∀h',h'.IsKeyIter it d (i+1) ds.length n→tK it s.heap h'→Q (some e.key) {s with heap:=h'}) (hQ:ds[i]?=none→∀h',rX it s.heap h'→Q none {s with heap:=h'}):aP (aM prog w) A (pyNext (.ref it)) Q E s:=by
 obtain⟨o,jI,hc,rA⟩:=id hit;unfold pyNext;refine aO (Ra (IU (name:=aA "__next__") hit.typeIs Bn
  (rR Bn hit.typeIs PySem.F.entry_dict_keyiterator_next ?_ (PySem.F.args_dict_keyiterator_next_1 _))))
 refine aO (bA (aO (aO ?_)));refine aO (Rk hit.typeIs (bA (aO (aBO jI rA ?_))));rw[show YY "dict_keyiterator"=false by decide];dsimp only;show aP _ _ (if(aR d==fR)=true then _ else _) _ _ s;rw[aN (show¬((aR d==fR)=true)from lG)];refine aO (bA (aO (xW ho rfl ?_)));rw[aN (by simp)];refine aO (bA (aO (NY ho rfl ?_)));rw[aN (by simp)];refine bA ?_;have hx:ds.toArray[i]?=ds[i]?:=Am;dsimp only;rw[show(if(i:Int)<0 then none else ds.toArray[(i:Int).toNat]?)=ds[i]? from(aN (AK.mpr (JB i))).trans hx];cases hx:ds[i]? with
 |some e=>
  refine aO (aO (Rk hit.typeIs (bA (aO (aBP hit.typeIs ?_)))));show aP _ _ (setField (.ref it) 1 (rawInt ((i:Int)+1))>>=_) _ _ s;refine aO (AG jI rA (by simp) ?_);have iZ:(s.heap.update it (nP (·.setIfInBounds 1 (rawInt ((i:Int)+1))))).IsKeyIter it d (i+1) ds.length n:=
   ⟨_,rY _ jI (Bi (PQ rA _)),(Vp ..).trans hc,by rw[PQ rA];simp[rawInt]⟩
  refine aO (mV (aO (aBP (s:={s with heap:=s.heap.update it (nP (·.setIfInBounds 1 (rawInt ((i:Int)+1))))}) iZ.typeIs ?_)));show aP _ _ (pure e.key) _ _ _;exact bA (bA ⟨_,rfl,bA (hi e hx _ iZ (tL ..))⟩)
 |none=>
  refine aO (aO (Rk hit.typeIs (bA ?_)));refine Kb hh jI rA (by simp) fun h' e he hT=>?_;exact aO (Rc (T:= "StopIteration") (b:=true) hT isSubtype_stop (bA (hQ hx _ he)))
theorem Qn{Q:Option aF→aL→Prop}(hh:A.handled=none)(hit:s.heap.IsValIter it d i ds.length n)(ho:s.heap.get? d=some (fJ ds n))
  (hi: ∀e,ds[i]?=some e→∀h',h'.IsValIter it d (i+1) ds.length n→tK it s.heap h'→Q (some e.val) {s with heap:=h'}) (hQ:ds[i]?=none→∀h',rX it s.heap h'→Q none {s with heap:=h'}):aP (aM prog w) A (pyNext (.ref it)) Q E s:=by
 obtain⟨o,jI,hc,rA⟩:=id hit;unfold pyNext;refine aO (Ra (IU (name:=aA "__next__") hit.typeIs Bp
  (rR Bp hit.typeIs PySem.F.entry_dict_valueiterator_next ?_ (PySem.F.args_dict_valueiterator_next_1 _))))
 refine aO (bA (aO (aO ?_)));refine aO (Rl hit.typeIs (bA (aO (aBO jI rA ?_))));rw[show YY "dict_valueiterator"=false by decide];dsimp only;show aP _ _ (if(aR d==fR)=true then _ else _) _ _ s;rw[aN (show¬((aR d==fR)=true)from lG)];refine aO (bA (aO (xW ho rfl ?_)));rw[aN (by simp)];refine aO (bA (aO (NY ho rfl ?_)));rw[aN (by simp)];refine bA ?_;have hx:ds.toArray[i]?=ds[i]?:=Am;dsimp only;rw[show(if(i:Int)<0 then none else ds.toArray[(i:Int).toNat]?)=ds[i]? from(aN (AK.mpr (JB i))).trans hx];cases hx:ds[i]? with
 |some e=>
  refine aO (aO (Rl hit.typeIs (bA (aO (Rd hit.typeIs ?_)))));show aP _ _ (setField (.ref it) 1 (rawInt ((i:Int)+1))>>=_) _ _ s;refine aO (AG jI rA (by simp) ?_);have iZ:(s.heap.update it (nP (·.setIfInBounds 1 (rawInt ((i:Int)+1))))).IsValIter it d (i+1) ds.length n:=
   ⟨_,rY _ jI (Bi (PQ rA _)),(Vp ..).trans hc,by rw[PQ rA];simp[rawInt]⟩
  refine aO (mV (aO (Rd (s:={s with heap:=s.heap.update it (nP (·.setIfInBounds 1 (rawInt ((i:Int)+1))))}) iZ.typeIs (aO (Rd (s:={s with heap:=s.heap.update it (nP (·.setIfInBounds 1 (rawInt ((i:Int)+1))))}) iZ.typeIs ?_)))));show aP _ _ (pure e.val) _ _ _;exact bA (bA ⟨_,rfl,bA (hi e hx _ iZ (tL ..))⟩)
 |none=>
  refine aO (aO (Rl hit.typeIs (bA ?_)));refine Kb hh jI rA (by simp) fun h' e he hT=>?_;exact aO (Rc (T:= "StopIteration") (b:=true) hT isSubtype_stop (bA (hQ hx _ he)))
theorem Qm{Q:aF→aL→Prop}(hv:s.heap.IsValuesView v d)(ho:s.heap.get? d=some (fJ ds n))
  (hQ:Q (.ref s.heap.objs.size) {s with heap:=s.heap.push {cls:= .type "dict_valueiterator",data:= .fields #[.ref d,.int 0 0,.int ds.length 0,.int n 0]}}):aP (aM prog w) A (pyIter (.ref v)) Q E s:=by
 obtain⟨ov,LO,TN,LA⟩:=id hv;refine aBU hv.typeIs Ww (rR Ww hv.typeIs PySem.F.entry_dict_values_iter ?_ (PySem.F.args_dict_values_iter_1 _));unfold Builtin.«dict_values.__iter__»;refine aO (bA (aO ?_));unfold aB9;refine aO (vG LO LA (x:= .ref d) rfl (bA (aO ?_)));unfold aCA;refine aO (xW ho rfl (aO (NY ho rfl ?_)));simp only[show YY "dict_valueiterator"=false by decide,xZ,if_false];refine vH (bA ⟨_,rfl,"dict_valueiterator",_,⟨_,jM _ rfl,rfl⟩,Bp.lookup,?_⟩);simpa[rawInt]using hQ
theorem Qo{Q:aF→aL→Prop}(hd:(d==sysModules)=false)(ho:s.heap.get? d=some (fJ ds n))(h:Q (.ref s.heap.objs.size) {s with heap:=s.heap.push {cls:= .type "dict_values",data:= .fields #[.ref d]}}):
  aP (aM prog w) A (call (.builtin "dict.values") [.ref d]) Q E s:=by
 have hT:s.TypeIs (.ref d) "dict":=⟨_,ho,rfl⟩;refine rR Bq hT PySem.F.entry_dict_values ?_ (PySem.F.args_dict_values_1 _);unfold Builtin.«dict.values»;refine aO ?_;unfold aB7;refine aO (YQ hT (bA ?_));show aP _ _ (IW d>>=_) _ _ s;unfold IW;rw[aN (by rw[hd];exact lG)];exact aO (bA (aO (vH (bA ⟨_,rfl,h⟩))))
theorem jg{Q:aF→aL→Prop}(hd:(d==sysModules)=false)(ho:s.heap.get? d=some (fJ ds n))(hn:ds.length≤aJ)(h: ∀t tk,Q (.int ds.length t) {s with toks:=tk}):aP (aM prog w) A (call (.builtin "len") [.ref d]) Q E s:=by
 rw[vO]at hn;have hT:s.TypeIs (.ref d) "dict":=⟨_,ho,rfl⟩;refine ZF kind_len plain_len entry_len (args_len1 _) ?_;unfold Builtin.«len»;refine aO (m:=oneArg "len" _) (bA ?_);refine aO (m:=callSpecial? (.ref d) (aA "__len__")) (IU (name:=aA "__len__") hT Wt ?_);refine rR Wt hT PySem.F.entry_dict_len ?_ (PySem.F.args_dict_len_1 _);show aP _ _ (dictSize d>>=_) _ _ s;unfold dictSize;refine aO (aO (xW ho rfl (bA ?_)));show aP _ _ (aB8 d>>=_) _ _ s;refine aO (wpAny_pendingCount_other hd (wpAny_ret_mkInt ?_));rw[Nat.add_zero,fN];show aP _ _ _ _ _ {s with toks:=s.toks+1};refine aO (mV (bA ?_));refine aO (Rf ?_);show aP _ _ (if((ds.length:Nat):Int)<0 then _ else _) _ _ _;rw[aN (by exact aS 125829276 rfl)];show aP _ _ (if((ds.length:Nat):Int)≥2^63 then _ else _) _ _ _;rw[aN (by exact aS 80419912883002872007536458623615645 rfl hn)];exact aO (wpAny_mkInt (bA ⟨_,rfl,h _ _⟩))
theorem aA0(hh:A.handled=none)(I d:Addr)(eP:d≠I)(ds:List fM)(n:Nat):
  Walks prog w A I [I,d] [I] ds.length (fun i v=> ∃e,ds[i]?=some e∧v=e.key) (fun i h=>h.IsKeyIter I d i ds.length n∧h.get? d=some (fJ ds n))where
 sub:=fun b hb=>by simp at hb;simp[hb]
 frame:=fun _ _ _ st hk=>⟨st.1.at fun o e=>hk I (by simp) o e,hk d (by simp) _ st.2⟩
 item:=fun i s Q E hi st hQ=>LX hh st.1 st.2 (fun _ hx h' iZ hs'=>hQ _ h' s.toks ⟨_,hx,rfl⟩ ⟨iZ,(hs'.2 _ eP).trans st.2⟩ fun b o hb e=>(hs'.2 b fun q=>hb (eZ.mpr q)).trans e) fun hx=>absurd hi (yP.mpr (EC.mp hx))
 done:=fun s Q E st hQ=>LX hh st.1 st.2 (fun _ hx=>dB ((jN (fQ ds.length)).symm.trans hx)) fun _ h' iE=>hQ h' s.toks fun b o hb e=>iE b o (fun h=>hb (eZ.mpr h)) e
 self:=fun _ _ _ _ st hQ=>wpAny_pyIter_keyiter st.1 hQ
theorem Qq(hh:A.handled=none)(I d:Addr)(eP:d≠I)(ds:List fM)(n:Nat):
  Walks prog w A I [I,d] [I] ds.length (fun i v=> ∃e,ds[i]?=some e∧v=e.val) (fun i h=>h.IsValIter I d i ds.length n∧h.get? d=some (fJ ds n))where
 sub:=fun b hb=>by simp at hb;simp[hb]
 frame:=fun _ _ _ st hk=>⟨st.1.at fun o e=>hk I (by simp) o e,hk d (by simp) _ st.2⟩
 item:=fun i s Q E hi st hQ=>Qn hh st.1 st.2 (fun _ hx h' iZ hs'=>hQ _ h' s.toks ⟨_,hx,rfl⟩ ⟨iZ,(hs'.2 _ eP).trans st.2⟩ fun b o hb e=>(hs'.2 b fun q=>hb (eZ.mpr q)).trans e) fun hx=>absurd hi (yP.mpr (EC.mp hx))
 done:=fun s Q E st hQ=>Qn hh st.1 st.2 (fun _ hx=>dB ((jN (fQ ds.length)).symm.trans hx)) fun _ h' iE=>hQ h' s.toks fun b o hb e=>iE b o (fun h=>hb (eZ.mpr h)) e
 self:=fun _ _ _ _ st hQ=>wpAny_pyIter_valiter st.1 hQ
end
theorem k9{prog:Program}{w:World}{d:Addr}{ds:List fM}{n:Nat}(lo:(d==sysModules)=false):KdlSrc prog w "dict" d d ds.length (fun i v=> ∃e,ds[i]?=some e∧v=e.key) (fun h=>h.get? d=some (fJ ds n))where
 type:=fun _ hm=>⟨_,hm,rfl⟩
 there:=fun _ hm=>⟨fI hm,fI hm⟩
 keep:=fun _ _ hm hk=>hk d (.inl rfl) _ hm
 notList:=by decide
 notTuple:=by decide
 hint:=fun _ _ _ _ hm hq=>kdl_hint_dict ⟨_,hm,rfl⟩ hq
 iter:=fun _ _ hh hm=>⟨_,_,(fun _ _ hq=>keysIter lo hm hq),aA0 hh _ d (lJ (fI hm)) ds n,⟨⟨_,jM _ rfl,rfl,rfl⟩,eJ _ hm⟩⟩
theorem l9{prog:Program}{w:World}{r d:Addr}{ds:List fM}{n:Nat}:KdlSrc prog w "dict_values" r d ds.length (fun i v=> ∃e,ds[i]?=some e∧v=e.val) (fun h=>h.IsValuesView r d∧h.get? d=some (fJ ds n))where
 type:=fun _ hm=>hm.1.typeIs
 there:=fun _ hm=>⟨let⟨_,ho,_⟩:=hm.1;fI ho,fI hm.2⟩
 keep:=fun _ _ hm hk=>⟨let⟨o,ho,x⟩:=hm.1;⟨o,hk r (.inl rfl) o ho,x⟩,hk d (.inr rfl) _ hm.2⟩
 notList:=by decide
 notTuple:=by decide
 hint:=fun _ _ _ _ hm hq=>kdl_hint_values hm.1.typeIs hq
 iter:=fun _ _ hh hm=>⟨_,_,(fun _ _ hq=>Qm hm.1 hm.2 hq),Qq hh _ d (lJ (fI hm.2)) ds n,⟨⟨_,jM _ rfl,rfl,rfl⟩,eJ _ hm.2⟩⟩
section
variable{g:Gl}{S:Sc}{σ τ:Hx g}{A:cH}{E Q:aF→aL→Prop}{x y:PV}{a b v:aF}{P:Prop}{h h':Heap}{ι:List Addr}{s:aL}{es:cA}{ds:List fM}{n:Nat}{l:List PV}{vs:List aF}
theorem SG(x:lH g h ι es ds):bE g h ι (es.map (·.2)) (ds.map (·.val)):=by
 induction x with
 |nil=>exact bE.nil|cons r _ ih=>exact bE.cons r.2.2 ih
theorem Ez(x:lH g h ι es ds):bE g h [] (es.map (·.1.val)) (ds.map (·.key)):=by
 induction x with
 |nil=>exact bE.nil|cons r _ ih=>exact bE.cons r.2.1 ih
theorem Hx.bD.Lk(p:σ.bD Hx.V (iG l σ.H) Q E)(r:σ.Vs l vs):vs.length≤aJ:=(p.newList r).1
theorem Hx.bD.VJ{a:Addr}{t:Nat}(p:σ.bD Hx.V (iG l σ.H) Q E)(r:σ.Vs l vs)(k: ∀b o,σ.s.heap.get? b=some o→h'.get? b=some o)
  (ha:σ.s.heap.get? a=none) (hs:g.base.objs.size≤a) (ho:h'.get? a=some (cQ vs n)):Q (.ref a) {σ.s with heap:=h',toks:=t}:=by
 unfold iG at p;by_cases q:l.length≤aJ
 ·rw[aV q]at p
  have G:eA g σ.s.heap h':= .ext k;exact p (.ref a) ⟨{σ.s with heap:=h',toks:=t},σ.nss,σ.ι++[a],σ.H++[.list l],σ.X.alloc (po:= .list l) k ha hs ho ⟨vs,n,rfl,bE.mono σ.X.dZ G (.snoc _ _) _ r⟩⟩ ⟨rfl,G,.snoc _ _,rfl⟩ rfl (AT (by rw[←σ.X.len];exact Ul))
 ·rw[aN q]at p;exact p.elim
theorem zJ{i j:Int}(p:σ.bD Hx.V (.ok (.int i) σ.H) Q E)(h:j=i)(t:Tok)(tk:Nat):Q (.int j t) {σ.s with toks:=tk}:=by subst h;exact p.tok mX
theorem jl{k:Nat}(h:k≤aJ):(k:Int)<2^63:=by rw[vO]at h;exact aS 80419912884183463628253869927121049 rfl h
theorem jh(O:g.Ok)(ra:σ.V x a)(p:σ.bD Hx.V (fX x σ.H) Q E):aP (aM g.prog g.w) A (call (.builtin "len") [a]) Q E σ.s:=by
 refine p.ob fun n e p=>p.cB fun hl p=>?_;have hl:=cK hl;have hs:=jl hl
 induction x using PV.casesOn with
 |str s=>injection e with e;subst e;exact ra.str fun t=>P.len_str (aS 80419912883002872007536458623615645 rfl hl) (zJ p rfl _ _)
 |tup l=>
  injection e with e;subst e;refine ra.tup fun t vs n et rt=>?_;rw[←rt.length]at hs;exact P.len_tuple (items:=vs.toArray) et (OS.mpr hs) (zJ p (by rw[fN,rt.length]) _ _)
 |fl l=>
  injection e with e;subst e;refine ra.fl fun t vs et rt=>?_;obtain⟨o,ho,r⟩:=et;rw[←rt.length]at hs;exact call_len_list (items:=vs.toArray) ⟨o,σ.X.stays _ _ ho,r⟩ hs (zJ p (by rw[fN,rt.length]) _ _)
 |ref r=>
  refine cY e fun po e1 e=>?_;cases po with
  |list l=>
   injection e with e;subst e;refine ra.list e1 fun t vs n _ et rt=>?_;rw[←rt.length]at hs;exact call_len_list (items:=vs.toArray) ⟨_,et,rfl,_,rfl⟩ hs (zJ p (by rw[fN,rt.length]) _ _)
  |dict es lk=>
   injection e with e;subst e;refine ra.dict e1 fun t ds n ea et y _=>?_;rw[←y.length]at hl;exact jg (oP O ea) et hl fun t tk=>zJ p (by rw[y.length]) t tk
  |_=>exact dB e
 |_=>exact dB e
theorem Xl(ra:σ.V x a)(p:σ.bD Hx.V (pI x σ.H) Q E):aP (aM g.prog g.w) A (call (.builtin "abs") [a]) Q E σ.s:=
 p.ob fun i e p=>(iV e▸ra:σ.V (.int i) a).int fun t=>call_abs_int fun u tk=>zJ p (Int.casesOn (motive:=fun i=>(if i<0 then -i else i)=((i.natAbs:Nat):Int)) i (fun n=>aN (AK.mpr (JB n))) fun n=>aV (Int.negSucc_lt_zero n)) u tk
theorem dj(ra:σ.V x a)(p:σ.bD Hx.V (intOp x σ.H) Q E):aP (aM g.prog g.w) A (call (.type "int") [a]) Q E σ.s:=
 p.ob fun i e p=>by
  induction x using PV.casesOn with
  |bool b=>injection e with e;subst e;rw[ra.bool];exact call_int_bool (zJ p rfl _ _)
  |_=>exact dB e
theorem lj(hh:A.handled=none)(ra:σ.V x a)(rb:σ.V y b)(p:σ.bD Hx.V (xG x y σ.H) Q E):aP (aM g.prog g.w) A (call (.builtin "min") [a,b]) Q E σ.s:=
 p.ob fun i ei p=>p.ob fun j ej p=>(iV ei▸ra:σ.V (.int i) a).int fun t=>(iV ej▸rb:σ.V (.int j) b).int fun u=>min_two_ints hh fun h' tk k=>by
  have fin: ∀i u,σ.bD Hx.V (.ok (.int i) σ.H) Q E→Q (.int i u) {σ.s with heap:=h',toks:=tk}:=fun i u p=>p _ ⟨{σ.s with heap:=h',toks:=tk},σ.nss,σ.ι,σ.H,σ.X.ext k⟩ ⟨rfl,.ext k,.refl _,rfl⟩ rfl mX;by_cases q:j<i
  ·rw[aV q]at p⊢;exact fin _ _ p
  ·rw[aN q]at p⊢;exact fin _ _ p
theorem ty_tuple:typeOf (.type "tuple")=pure (.type "type"):=by rfl
theorem fk(ra:σ.V x a)(p:σ.bD Hx.V (zK x σ.H) Q E):aP (aM g.prog g.w) A (call (.builtin "isinstance") [a,.type "tuple"]) Q E σ.s:=
 p.ob fun b e p=>by
  induction x using PV.casesOn with
  |tup l=>cases e;exact ra.tup fun t vs n et _=>call_isinstance (isinstance_true (Tx:= "tuple") ty_tuple (by rw[isSubtype_type];kernel_rfl)) ⟨⟨_,et,rfl⟩,p.tok pG⟩
  |int i=>cases e;exact ra.int fun t=>call_isinstance (isinstance_false_int (by decide) ty_tuple (by rw[isSubtype_type];kernel_rfl)) (p.tok pG)
  |none=>cases e;rw[ra.none];exact call_isinstance (isinstance_false_none (by decide) ty_tuple (by rw[isSubtype_type];kernel_rfl)) (p.tok pG)|str i=>cases e;exact ra.str fun t=>call_isinstance (isinstance_false_str (by decide) ty_tuple (by rw[isSubtype_type];kernel_rfl)) (p.tok pG)
  |_=>exact dB e
theorem jt(ra:σ.V x a)(p:σ.bD Hx.V (zM x σ.H) Q E):aP (aM g.prog g.w) A (call (.type "list") [a]) Q E σ.s:=
 p.ob fun q e p=>ra.listAt e fun t vs n _ _ _ et rt=>
  call_list_seq t (T:= "list") (items:=vs.toArray) (.inl rfl) et rfl rfl (fun h' c' k ho=>p.VJ (t:=σ.s.toks) rt k (BQ _) σ.X.size ho) (bW (p.Lk rt) pC)
end
section
variable{g:Gl}{S:Sc}{σ τ:Hx g}{env:Env}{A:cH}{C:dI}{rest:bY}{fr:aW}{E Q:aF→aL→Prop}{v fv:aF}{x y:Str}{i j:Nat}{pos np ou apos nB:Pos}{es:List Expr}{ds:Ds}{e e' o:Expr}{d d':D}{P:Prop}
noncomputable def Cs:List (Str×aF):=[("len",.builtin "len"),("abs",.builtin "abs"),("int",.type "int"),("isinstance",.builtin "isinstance"),("list",.type "list"),("sorted",.builtin "sorted"),("set",.type "set"),("min",.builtin "min"),("range",.type "range"),("str",.type "str"),("tuple",.type "tuple")].map fun p=>(aA p.1,p.2)
noncomputable def qW(x:Str):Option aF:=Cs.lookup x
noncomputable def dy:aF→Bool
 | .builtin _=>true| .type _=>true|_=>false
theorem Ct: ∀p∈Cs,(bootBuiltins p.1=some p.2∧p.1∈RF∧p.1≠"__name__")∧dy p.2=true:=by decide+kernel
theorem Lo{α β:Type} [BEq α] [LawfulBEq α]{l:List (α×β)}{a:α}{b:β}(h:l.lookup a=some b):(a,b)∈l:=by
 obtain⟨x,y,e,_⟩:=List.lookup_eq_some_iff.mp h;rw[e];exact tS _ (.head _)
theorem Zj(h:qW x=some v):bootBuiltins x=some v∧x∈RF∧x≠"__name__":=(Ct _ (Lo h)).1
theorem HF(hs:S.slot x=some (i,aY))(hg:S.glob x=none)(hv:qW x=some v)(V:Ev g S env A C rest)(F:At g S env rest fr σ)(h:Q v σ.s):aP (aM g.prog g.w) A (eval (.Name x pos) env) Q E σ.s:=by
 obtain⟨hs,hd,hc⟩:=Sc.slot_of hs;obtain⟨h1,h2,h3⟩:=Zj hv;have T:=topRead_of V.ok.T;exact F.frm fun m f=>Sy V.eo.kind ((V.eo.names x i _ hs).elim id fun q=>nomatch q.1)
  (Ta (by rw[V.eo.glob];exact T.g.keeps f.keep) (mg_none_of V.ok.X T.g (V.sc.none_ x hg h2)) (by rw[V.eo.blt];exact T.b.keeps f.keep) ((T.builtins x h3).trans h1) h) hd
theorem C6{M:aF→Prop}(h:qW x=some v)(k1: ∀id,M (.builtin id))(k2: ∀T,M (.type T)):M v:=by
 have q:=(Ct _ (Lo h)).2
 induction v using PySem.Value.casesOn with
 |builtin id=>exact k1 id|type id=>exact k2 id|_=>exact uX q
theorem XJ{Q:aF→aL→Prop}(hs:S.slot x=some (i,aY))(hg:S.glob x=none)(hv:qW x=some fv)(lU:nN g S es ds)(V:Ev g S env A C rest)(F:At g S env rest fr σ)
  (p:σ.bD Hx.Vs (ds C fr σ.H) (fun vs s=>aP (aM g.prog g.w) A (call fv vs) Q E s) E):aP (aM g.prog g.w) A (eval (.Call (.Name x np) es [] pos) env) Q E σ.s:=by
 refine Call_Name (trees:=backTo pos (starEach es env)) rfl (HF hs hg hv V F ?_);revert p;exact C6 (M:=fun fv=>σ.bD Hx.Vs (ds C fr σ.H) (fun vs s=>aP (aM g.prog g.w) A (call fv vs) Q E s) E→aP (aM g.prog g.w) A (callWith pos fv [] (backTo pos (starEach es env)) []) Q E σ.s) hv
  (fun id p=>IX lU.xS (ET lU V F p)) fun T p=>Bl lU.xS (ET lU V F p)
noncomputable def vS(g:Gl)(fv:aF)(op:PV→PH→Out PV):Prop:= ∀(A:cH) (σ:Hx g) (Q E:aF→aL→Prop) (x:PV) (a:aF),A.handled=none→A.units+100<cLine→g.Ok→σ.V x a→σ.bD Hx.V (op x σ.H) Q E→aP (aM g.prog g.w) A (call fv [a]) Q E σ.s
theorem zm{op:PV→PH→Out PV}(hs:S.slot x=some (i,aY))(hg:S.glob x=none)(hv:qW x=some fv)(ho:vS g fv op)(lM:isStar e=false)(he:bK g S e d):bK g S (.Call (.Name x np) [e] [] pos) (p1 op d):=by
 intro env A C rest V fr σ F Q E p;refine XJ hs hg hv (.cons lM he .nil) V F ?_;have p':σ.bD Hx.V ((aC d aH C fr σ.H).bind fun vs H=>ob (oneOf vs) fun v=>op v H) Q E:=by
  unfold aC aH;rw[Out.bind_assoc];exact p
 exact p'.bind (R₁:=Hx.Vs) fun vs b τ l r p=>p.ob fun y e p=>bE.WG (M:=fun b=>aP (aM g.prog g.w) A (call fv b) Q E τ.s) (MS e▸r:τ.Vs [y] b) fun u ru=>ho A τ Q E _ u V.hand (tW (vR (by decide) _) V.units) V.ok ru p
theorem qu:vS g (.builtin "len") fX:=fun _ _ _ _ _ _ _ _ O ra p=>jh O ra p
theorem qr:vS g (.builtin "abs") pI:=fun _ _ _ _ _ _ _ _ _ ra p=>Xl ra p
theorem qt:vS g (.type "int") intOp:=fun _ _ _ _ _ _ _ _ _ ra p=>dj ra p
theorem qw:vS g (.type "list") zM:=fun _ _ _ _ _ _ _ _ _ ra p=>jt ra p
theorem qx:vS g fv VM:=fun _ _ _ _ _ _ _ _ _ _ p=>p.elim
theorem Pu{op:PV→PV→PH→Out PV}(hs:S.slot x=some (i,aY))(hg:S.glob x=none)(hv:qW x=some fv)
  (ho: ∀(A:cH) (σ:Hx g) (Q E:aF→aL→Prop) (x y:PV) (a b:aF),A.handled=none→σ.V x a→σ.V y b→σ.bD Hx.V (op x y σ.H) Q E→aP (aM g.prog g.w) A (call fv [a,b]) Q E σ.s)
  (lM:isStar e=false) (UA:isStar e'=false) (he:bK g S e d) (iE:bK g S e' d'):bK g S (.Call (.Name x np) [e,e'] [] pos) (p2 op d d'):=by
 intro env A C rest V fr σ F Q E p;refine XJ hs hg hv (.cons lM he (.cons UA iE .nil)) V F ?_;have p':σ.bD Hx.V ((aC d (aC d' aH) C fr σ.H).bind fun vs H=>ob (AC vs) fun q=>op q.1 q.2 H) Q E:=by
  unfold aC aH;rw[Out.bind_assoc];simp only[Out.bind_assoc,Out.eV];exact p
 exact p'.bind (R₁:=Hx.Vs) fun vs b τ l r p=>p.ob fun q e p=>bE.two (M:=fun b=>aP (aM g.prog g.w) A (call fv b) Q E τ.s) (DM e▸r:τ.Vs [q.1,q.2] b) fun a c ra rc=>ho A τ Q E _ _ a c V.hand ra rc p
theorem i7(hs:S.slot x=some (i,aY))(hg:S.glob x=none)(hx:x=aA "min")(lM:isStar e=false)(UA:isStar e'=false)(he:bK g S e d)(iE:bK g S e' d'):
  bK g S (.Call (.Name x np) [e,e'] [] pos) (p2 xG d d'):=
 Pu hs hg (fv:= .builtin "min") (by subst hx;decide) (fun _ _ _ _ _ _ _ _ hh ra rb p=>lj hh ra rb p) lM UA he iE
def Jw:PV→Option Unit
 | .aE v=>og (decide (v= .type "tuple")) ()|_=>none
theorem fg{y:PV}{u:Unit}(h:Jw y=some u):y= .aE (.type "tuple"):=by
 cases y with
 |aE v=>exact nH (M:=fun _=>PV.aE v= .aE (.type "tuple")) h fun q=>bN _ (cK q)
 |_=>exact dB h
theorem g0(hs:S.slot x=some (i,aY))(hg:S.glob x=none)(hx:x=aA "isinstance")(hs':S.slot y=some (j,aY))(TQ:S.glob y=none)(hy:y=aA "tuple")(lM:isStar e=false)(he:bK g S e d):
  bK g S (.Call (.Name x np) [e,.Name y ou] [] pos) (p1 zK d):=
 Pu (d':=aB (.aE (.type "tuple"))) hs hg (fv:= .builtin "isinstance") (by subst hx;decide) (op:=fun a y H=>ob (Jw y) fun _=>zK a H)
  (fun A σ Q E x y a b _ ra rb p=>p.ob fun _ q p=>by rw[(fg q▸rb:σ.V (.aE (.type "tuple")) b).aE];exact fk ra p) lM rfl he
  fun env A C rest V fr σ F Q E p=>HF (v:= .type "tuple") hs' TQ (by subst hy;decide) V F (p.now JV)
theorem Bz{ds:List fM}{f:fM→aF}{acc:Array aF}(h1:acc.size=ds.length)(h2: ∀(i:Nat) (v:aF),acc[i]?=some v→∃e,ds[i]?=some e∧v=f e):acc.toList=ds.map f:=by
 apply JG;intro i;rw[Ry,fW];cases q:acc[i]? with
 |some v=>obtain⟨e,h3,h4⟩:=h2 i v q;rw[h3,h4];rfl|none=>rw[jN (by rw[←h1];exact Array.getElem?_eq_none_iff.mp q)];rfl
theorem aAV{es:cA}{a v:Addr}{ds:List fM}{n:Nat}(hh:A.handled=none)(et:σ.s.heap.get? a=some (fJ ds n))(y:lH g σ.s.heap σ.ι es ds)(hv:σ.s.heap.IsValuesView v a)(p:σ.bD Hx.V (iG (es.map (·.2)) σ.H) Q E):
  aP (aM g.prog g.w) A (call (.type "list") [.ref v]) Q E σ.s:=by
 have hl:=p.Lk (SG y);rw[cR]at hl;refine kdl_call (l9 (n:=n)) hh ⟨hv,et⟩ (bW hl pC) fun h' tk acc c k ho hi=>?_;exact p.VJ (t:=tk) (SG y) k (BQ _) σ.X.size (show h'.get? σ.s.heap.objs.size=some (cQ (ds.map (·.val)) c) by rw[ho,←Bz (f:=aCL) hi.1 fun i v e=>hi.2 i v e])
theorem k7{m':Str}(hs:S.slot x=some (i,aY))(hg:S.glob x=none)(hx:x=aA "list")(hm:m'=aA "values")(hc:sS o=false)(hl:(apos.endLine==nB.line)=true)(he:bK g S o d):
  bK g S (.Call (.Name x np) [.Call (.Attribute o m' apos) [] [] nB] [] pos) (p1 AE d):=by
 intro env A C rest V fr σ F Q E p;subst hm;refine Call_Name (trees:=backTo pos (starEach [.Call (.Attribute o (aA "values") apos) [] [] nB] env)) rfl (HF hs hg (show qW x=some (.type "list") by subst hx;decide) V F ?_);refine Bl rfl (evalArgs_plain (x:=eval (.Call (.Attribute o (aA "values") apos) [] [] nB) env) (rest:=[]) (spliced_cons ?_));refine Qv (yU hc) rfl hl (he env A C rest V fr σ F _ E (Hx.bD.bind (R₁:=Hx.V) p fun y v τ l r p=>p.ob fun q e p9=>?_));obtain⟨rfl,e9⟩:=sJ e;refine r.dict e9 fun a ds nn ea et y _=>⟨"dict","dict.values",Bm,Bq,Xa,⟨_,et,rfl⟩,fun b q=>by injection q with q;subst q;exact⟨_,et,rfl⟩,?_⟩;refine IX rfl (Bu (Qo (s:=τ.s) (oP V.ok ea) et (spliced_nil ?_)));have G:=τ.kZ {cls:= .type "dict_values",data:= .fields #[.ref a]} τ.s.toks;exact aAV (σ:=τ.push {cls:= .type "dict_values",data:= .fields #[.ref a]} τ.s.toks) V.hand (eJ _ et) (lH.mono τ.X.dZ G.grow G.pre _ y) ⟨_,jM _ rfl,rfl,rfl⟩ (p9.le G)
end
section
variable{g:Gl}{S:Sc}{σ τ υ:Hx g}{env:Env}{A:cH}{C:dI}{rest rest':bY}{fr:aW}{E:aF→aL→Prop}{Q:Flow→aL→Prop}{v:aF}{x:Str}{i j:Nat}{pos np:Pos}{e:Expr}{d:D}{P:Prop}{p:PV}{t:Tg}
structure Hx.gF(env:Env)(rest:bY)(σ τ:Hx g):Prop where
 on: ∃m,τ.nss=rest.on env.locals m
 grow:eA g σ.s.heap τ.s.heap
 pre:Pre σ.ι τ.ι
 sh:τ.s={σ.s with heap:=τ.s.heap,toks:=τ.s.toks}
theorem At.on(F:At g S env rest fr σ): ∃m,σ.nss=rest.on env.locals m:=by
 cases F with
 |mk m on _=>exact⟨m,on⟩
theorem Hx.Le.toS(l:σ.Le τ)(F:At g S env rest fr σ):σ.gF env rest τ:=⟨F.on.imp fun _ h=>l.nss.trans h,l.grow,l.pre,l.sh⟩
theorem Hx.gF.trans(l:σ.gF env rest' τ)(k:τ.gF env rest υ):σ.gF env rest υ:=⟨k.on,l.grow.trans k.grow,l.pre.trans k.pre,by rw[k.sh,l.sh]⟩
theorem Hx.V.gD(r:σ.V p v)(l:σ.gF env rest' τ):τ.V p v:=dH.mono σ.X.dZ l.grow l.pre p r
noncomputable def Hx.cD(S:Sc)(env:Env)(rest:bY)(σ:Hx g)(o:Out (cO×aW))(Q:Flow→aL→Prop)(E:aF→aL→Prop):Prop:=match o with
 | .ok (.next,fr) H=> ∀τ,σ.gF env rest τ→τ.H=H→At g S env rest fr τ→Q .next τ.s| .ok (.ret p,_) H=> ∀v τ,σ.gF env rest τ→τ.H=H→τ.V p v→Q (.ret v) τ.s| .exc c d H=> ∀e τ,σ.gF env rest τ→τ.H=H→nK τ e c d→E (.ref e) τ.s| .fail=>False
noncomputable def Hx.iT(S:Sc)(env:Env)(rest:bY)(σ:Hx g)(o:Out aW)(Q:Unit→aL→Prop):Prop:=match o with
 | .ok fr H=> ∀τ,σ.gF env rest τ→τ.H=H→At g S env rest fr τ→Q () τ.s|_=>False
noncomputable def lQ(g:Gl)(S:Sc)(st:Stmt)(d:DS):Prop:= ∀(env:Env) (A:cH) (C:dI) (rest:bY),Ev g S env A C rest→∀(fr:aW) (σ:Hx g),At g S env rest fr σ→
 ∀(Q:Flow→aL→Prop) (E:aF→aL→Prop),σ.cD S env rest (d C fr σ.H) Q E→aP (aM g.prog g.w) A (exec st env) Q E σ.s
noncomputable def pF(g:Gl)(S:Sc)(b:List Stmt)(d:DS):Prop:= ∀(env:Env) (A:cH) (C:dI) (rest:bY),Ev g S env A C rest→∀(fr:aW) (σ:Hx g),At g S env rest fr σ→
 ∀(Q:Flow→aL→Prop) (E:aF→aL→Prop),σ.cD S env rest (d C fr σ.H) Q E→aP (aM g.prog g.w) A (execs b env) Q E σ.s
theorem Hx.cD.gD{o:Out (cO×aW)}(p:σ.cD S env rest o Q E)(l:σ.gF env rest' τ):τ.cD S env rest o Q E:=by
 cases o with
 |ok a H'=>
  obtain⟨f,fr⟩:=a;cases f with
  |next=>exact fun υ k=>p υ (l.trans k)
  |ret v=>exact fun v υ k=>p v υ (l.trans k)
 |exc c d H'=>exact fun e υ k=>p e υ (l.trans k)
 |fail=>exact p
theorem Hx.cD.bind{α β:Type}{R₁:Hx g→α→β→Prop}{o:Out α}{f:α→PH→Out (cO×aW)}{Q₁:β→aL→Prop}(p:σ.cD S env rest (o.bind f) Q E)(F:At g S env rest fr σ)
  (k: ∀a b τ,σ.Le τ→R₁ τ a b→At g S env rest fr τ→τ.cD S env rest (f a τ.H) Q E→Q₁ b τ.s):σ.bD R₁ o Q₁ E:=by
 cases o with
 |ok a H'=>exact fun b τ l e r=>k a b τ l r (F.le l) (e▸Hx.cD.gD (o:=f a H') p (l.toS F))
 |exc c d H'=>exact fun e τ l=>p e τ (l.toS F)
 |fail=>exact p
theorem Hx.cD.next(p:σ.cD S env rest (.ok (.next,fr) σ.H) Q E)(F:At g S env rest fr σ):Q .next σ.s:=p σ (Hx.Le.refl.toS F) rfl F
noncomputable def sH{α:Type}:Out α→Prop
 | .exc .. =>False|_=>True
theorem Hx.cD.store{o:Out aW}{f:aW→PH→Out (cO×aW)}{Q₁:Unit→aL→Prop}(p:σ.cD S env rest (o.bind f) Q E)(hc:sH o)(k: ∀fr τ,σ.gF env rest' τ→At g S env rest' fr τ→τ.cD S env rest (f fr τ.H) Q E→Q₁ () τ.s):σ.iT S env rest' o Q₁:=by
 cases o with
 |ok fr H'=>exact fun τ l e F=>k fr τ l F (e▸Hx.cD.gD (o:=f fr H') p l)
 |exc c d H'=>exact hc.elim|fail=>exact p
theorem Mp: ∀{l:List (Str×dK)},iQ l=true→(l.map (·.1)).Nodup
 | [],_=>mD|(x,k)::r,h=>by
  unfold iQ at h;rw[mW,yA,AP]at h;rw[dU,hA];refine⟨fun q=>?_,Mp h.2⟩;obtain⟨y,hy,e⟩:=dY.mp q;exact h.1 y hy (by simpa using e)
theorem yi{l:List (Str×dK)}(h:iQ l=true){i j:Nat}{x:Str}{k k':dK}(e:l[i]?=some (x,k))(e':l[j]?=some (x,k')):i=j:=by
 have h1:(l.map (·.1))[i]?=some x:=by rw[fW,e];rfl
 exact(yJ (eF.mp h1).1 (Mp h)).mp (h1.trans (show(l.map (·.1))[j]?=some x by rw[fW,e'];rfl).symm)
theorem jL.hp(x:jL S env):(env.scope.kind== .class||(env.scope.kind== .module&&env.locals !=env.globals))=false:=by rw[x.kind];rfl
theorem Hx.iT.ob{α:Type}{o:Option α}{f:α→Out aW}{Q:Unit→aL→Prop}(p:σ.iT S env rest (Mine.ob o f) Q)(k: ∀a,o=some a→σ.iT S env rest (f a) Q→P):P:=by
 cases o with
 |none=>exact p.elim|some a=>exact k a rfl p
@[elab_as_elim] theorem Dw{P:Tg→Prop}(h:nC S x=some t)(k1: ∀i,S.slot x=some (i,.local)→P (.loc i))(k2: ∀i,S.slot x=some (i,.cell)→P (.fS i)):P t:=by
 unfold nC at h;revert k1 k2 h;generalize S.slot x=o;cases o with
 |none=>exact fun h=>dB h
 |some q=>
  obtain⟨i,k⟩:=q
  induction k using dK.casesOn with
  |«local»=>exact fun h k1 k2=>gQ h▸k1 i rfl
  |cell=>exact fun h k1 k2=>gQ h▸k2 i rfl
  |_=>exact fun h=>dB h
theorem xQ(eo:jL S env)(ht:nC S x=some t){Q:Unit→aL→Prop}(F:At g S env rest fr σ)(rv:σ.V p v)(h:σ.iT S env rest (putAt t p fr σ.H) Q):aP (aM g.prog g.w) A (storeName env x v) Q E σ.s:=by
 obtain⟨m,on,F⟩:=F;have X:Cx g σ.s.heap (rest.on env.locals m) σ.ι σ.H:=on▸σ.X;revert h;refine Dw ht (fun i hs h=>?_) fun i hs h=>?_
 ·refine bQ fun G_ aQ=>?_
  obtain⟨hs,_,_⟩:=Sc.slot_of hs;unfold putAt at h;dsimp only at h;cases hi:decide (i<fr.length)with
  |false=>rw[hi]at h;exact h.elim|true=>
   rw[hi]at h;refine aQ ?_;refine aBX (m:=m) ((eo.names x i _ hs).elim id fun q=>nomatch q.1) (X.ns _ (.head _)) (fun h' hn oO=>?_) eo.hp;obtain⟨X',G⟩:=X.XE hn oO;refine h ⟨{σ.s with heap:=h',toks:=σ.s.toks+1},_,σ.ι,σ.H,X'⟩ ⟨⟨_,rfl⟩,G,.refl _,rfl⟩ rfl ⟨_,rfl,fun j y q e f=>?_,fun j y k q e eM f=>?_⟩
   ·refine bQ fun G_ aQ=>?_
    by_cases hj:i=j
    ·subst hj
     rw[vP (cK hi)]at f;cases f;rw[slot_get hs]at e;cases e;refine aQ ?_;exact⟨v,by simp,dH.mono X.dZ G (.refl _) _ rv⟩
    ·rw[qN hj]at f
     obtain⟨u,hu,ru⟩:=F.loc j y q e f;have eP:y≠x:=fun z=>hj (yi eo.jA (slot_get hs) (z▸e));refine aQ ?_;exact⟨u,by simp[eP,hu],dH.mono X.dZ G (.refl _) _ ru⟩
   ·have hj:i≠j:=fun z=>by
     subst z;rw[slot_get hs]at e;cases e;rcases eM with z|z<;>cases z
    rw[qN hj]at f;exact F.fS j y k q e eM f
 ·obtain⟨hs,_,_⟩:=Sc.slot_of hs
  refine h.ob fun y hv h=>h.ob fun k hk h9=>?_;refine bQ fun G_ aQ=>?_;obtain⟨r,o,rfl,h2,h3⟩:=qG hk;cases o with
  |cell v₀=>
   cases h3;obtain⟨c,wL,wP⟩:=F.fS i x _ k (slot_get hs) (.inl rfl) (UZ hv);refine aQ ?_;refine σ.at h2 wP fun o ho x=>?_;obtain⟨v',e3,_⟩:=x;refine wpAny_storeName_cell eo.kind ((eo.names _ i _ hs).elim id fun q=>nomatch q.1) wL (v₀:=v') ⟨o,ho,e3⟩ fun h' ⟨o',jI,uK⟩ oO=>?_;exact σ.upd (po':= .cell (some p)) h2 wP rfl oO jI ⟨some v,uK,v,rfl,rv⟩ σ.s.toks fun τ l es eH=>es▸h9 τ (l.toS ⟨m,on,F⟩) eH (At.le ⟨m,on,F⟩ l)
  |_=>refine aQ ?_;exact dB h3
theorem RM{α β:Type}{o:Option α}{f:α→Out β}(h: ∀a,sH (f a)):sH (Mine.ob o f):=by
 cases o with
 |none=>exact trivial|some a=>exact h a
theorem DB{H:PH}:sH (putAt t p fr H):=by
 cases t with
 |loc i=>unfold putAt;dsimp only;cases decide (i<fr.length)<;>exact trivial|fS i=>exact RM fun x=>RM fun n=>trivial
theorem Pt(ht:nC S x=some t)(hc:pY e=false)(he:bK g S e d):lQ g S (.Assign [.Name x np] e pos) (cW t d):=fun env A C rest V fr σ F Q E p=>
 aBG (he env A C rest V fr σ F _ E (p.bind (R₁:=Hx.V) F fun y v τ l r F p=>xQ V.eo ht F r (p.store DB fun fr υ l F p=>p.next F))) (by cases e<;>first|rfl|injection hc)
theorem b0(hc:pY e=false)(he:bK g S e d):lQ g S (.Expr e pos) (eN d):=fun env A C rest V fr σ F Q E p=>
 Qx (he env A C rest V fr σ F _ E (p.bind (R₁:=Hx.V) F fun y v τ l r F p=>p.next F)) (by unfold interactive;rw[V.eo.kind];rfl) (by cases e<;>first|rfl|injection hc)
theorem j4(he:bK g S e d):lQ g S (.Return (some e) pos) (bJ d):=fun env A C rest V fr σ F Q E p=>
 Qy (he env A C rest V fr σ F _ E (p.bind (R₁:=Hx.V) F fun y v τ l r F p=>p v τ (Hx.Le.refl.toS F) rfl r))
theorem d9{a b:List Stmt}{dt:DT}{da db:DS}(ht:iN g S e dt)(ha:pF g S a da)(hb:pF g S b db):lQ g S (.If e a b pos) (bR dt da db):=fun env A C rest V fr σ F Q E p=>
 wpAny_If (ht env A C rest V fr σ F _ E (p.bind (R₁:=BR) F fun y v τ l r F p=>by
  revert p;refine r.k (fun p=>?_) fun p=>?_
  ·exact ha env A C rest V fr τ F Q E p
  ·exact hb env A C rest V fr τ F Q E p))
end
section
variable{g:Gl}{S:Sc}{σ τ υ:Hx g}{env:Env}{A:cH}{E:aF→aL→Prop}{Q:Unit→aL→Prop}{a b v:aF}{x:Str}{i j k:Nat}{pos apos:Pos}{o e ie:Expr}{d di dv:D}{P:Prop}{p q:PV}{h:Heap}{ι:List Addr}{es:List (Nat×PV)}{ds:List fM}
theorem oz(y:nO g h ι es ds):ds.any (·.refKey)=false:=AP.mpr fun d hd=>y.mem hd fun e _ r=>by
 obtain⟨⟨z,t,_,hk⟩,_⟩:=r;unfold Td;rw[hk];exact lG
theorem pb{LQ:Int}{t:Tok}(hx:g.attrs[k]?=some x)(nd:g.attrs.Nodup)(rv:dH g h ι p v)(y:nO g h ι es ds):nO g h ι (nsSet es k p) (putL x LQ (.str x t) v ds):=by
 induction y with
 |nil=>exact .cons ⟨⟨x,t,hx,rfl⟩,rv⟩ .nil| @cons e d es ds r s ih=>
  have hi:=My hx nd r;unfold nsSet putL;by_cases hj:e.1=k
  ·rw[cC hj]at hi
   rw[aV hj,aV hi.symm];exact .cons ⟨r.1,rv⟩ s
  ·rw[iW hj]at hi
   rw[aN hj,aN (by rw[←hi];decide)];exact .cons r ih
theorem Mv: ∀{es:List (Nat×PV)} {k:Nat} {p:PV},(es.map (·.1)).Nodup→((nsSet es k p).map (·.1)).Nodup∧∀j,j∈(nsSet es k p).map (·.1)→j∈es.map (·.1)∨j=k
 | [],k,p,_=>⟨by unfold nsSet;simp,fun j hj=>by unfold nsSet at hj;simp at hj;exact .inr hj⟩|(m,u)::r,k,p,n=>by
  rw[dU,hA]at n;obtain⟨h1,h2⟩:=Mv (k:=k) (p:=p) n.2;unfold nsSet;by_cases hm:m=k
  ·rw[aV hm]
   exact⟨by rw[dU,hA];exact n,fun j hj=> .inl hj⟩
  ·rw[aN hm]
   refine⟨?_,fun j hj=>?_⟩
   ·rw[dU,hA]
    refine⟨fun q=>?_,h1⟩;rcases h2 _ q with q|q
    ·exact n.1 q
    ·exact hm q
   ·rw[dU,dJ]at hj
    rcases hj with rfl|hj
    ·exact .inl (by simp)
    ·exact(h2 _ hj).imp (fun q=>by rw[dU];exact .tail _ q) id
theorem Oi(name:Str)(LQ:Int)(key v:aF): ∀es:List fM,(putL name LQ key v es).length≤es.length+1
 | []=>by simp[putL]
 |e::r=>by
  unfold putL;split
  ·simp
  ·have:=Oi name LQ key v r
   simp only[AX];exact aX 18588618150709247687802225936 rfl this
theorem Mz{d n:Nat}{dx:Addr}(hx:g.attrs[k]?=some x)(nd:g.attrs.Nodup)(he:σ.H[d]?=some (.ns es))(e5:σ.ι[d]?=some dx)(e7:σ.s.heap.get? dx=some (dictOf ds n))(y:nO g σ.s.heap σ.ι es ds)(YS:(es.map (·.1)).Nodup)(hlen:es.length≤900)(rv:σ.V p v)
  (h: ∀τ BI n',σ.Le τ→τ.H=σ.H.set d (.ns (nsSet es k p))→tK dx σ.s.heap τ.s.heap→τ.s.heap.get? dx=some (dictOf BI n')→(dictOf BI n').data.pastItsLine=none→Q () τ.s):aP (aM g.prog g.w) A (Xd dx x v) Q E σ.s:=by
 unfold Xd;refine aO (aO (wpAny_askSetting (bA (aO (aBT (aO (Rg e7 ?_)))))));dsimp only;have cc:(!ds.toArray.any (·.key.isStr x)&&ds.toArray.any (·.refKey))=false:=by
  rw[←Rw,←Rw];show(!ds.any (·.key.isStr x)&&ds.any (·.refKey))=false;rw[oz y,NZ]
 rw[aRefKeyMayBeTheName_at,cc];refine wpAny_updatePart e7 ?_;generalize (if x.cps.isEmpty=true then 0 else reduceHash ((aM g.prog g.w).w.params.strHash x.cps))=hh;have D':(σ.s.heap.update dx (Obj.putName x hh (.str x σ.s.toks) v)).get? dx=some (dictOf (putL x hh (.str x σ.s.toks) v ds) (putN x ds n)):=by
  rw[rY _ e7 (by rw[putName_dict];rfl),putName_dict]
 exact σ.upd (po':= .ns (nsSet es k p)) (o':=dictOf (putL x hh (.str x σ.s.toks) v ds) (putN x ds n)) he e5 rfl (tL ..) D' ⟨_,_,rfl,pb hx nd rv y,(Mv YS).1⟩ _ fun τ l es eH=>by
  have q:=h τ _ _ l eH (by rw[es];exact tL ..) (by rw[es];exact D') (pastItsLine_dict (by rw[fN,sizeLine_eq];exact bW (bW (Oi x hh (.str x σ.s.toks) v ds) (tX (y.length▸hlen))) (by decide)));rw[es]at q;exact q
noncomputable def UR(_:Hx g)(_ _:Unit):Prop:=True
theorem xq{o:PV}(O:g.Ok)(nd:g.attrs.Nodup)(hx:g.attrs[k]?=some x)(ra:σ.V o a)(rv:σ.V p v)(h:σ.bD UR (NJ o k p σ.H) Q E):aP (aM g.prog g.w) A (setAttr a x v) Q E σ.s:=
 h.ob fun d hd h=>h.ob fun es he h=>h.cB fun hlen h9=>by
  have he:=VQ he;obtain⟨r,ob,rfl,h2,h3⟩:=qG hd;cases ob with
  |inst c d'=>
   injection h3 with h3;subst h3;refine ra.inst h2 he fun a' dx ds n e5 I e7 y YS hc=>?_;have KI:=σ.stays O;refine set_plain KI I hc.1.2.2 ?_;refine osa_open (s:={σ.s with toks:=σ.s.toks+1}) KI I hc.1.2.1 (by unfold takerIn;rw[(hc.2 k x hx).2];rfl) fun b=>?_;obtain⟨cd,iX,uK⟩:=any_some hc.1.1;refine aO (bA (aO (aO (Rg I.1 (aO ((looks_clsIn (h:=({σ.s with toks:=σ.s.toks+1}:aL).heap) KI iX).here (s:={σ.s with toks:=σ.s.toks+1}) ?_))))));rw[uK];exact bA (a:=some dx) (aO (bA (aO (Mz (σ:=σ.tok (σ.s.toks+1)) hx nd he e5 e7 y YS (cK hlen) rv fun τ BI n' l eH _ D' hz=>aO (aBS D' hz (bA (h9 () τ ((σ.AA _).trans l) eH trivial)))))))
  |_=>exact dB h3
theorem xv{prog:Program}{w:World}{A:cH}{E:aF→aL→Prop}{s:aL}{l:Addr}{vs:List aF}{n j:Nat}{k:Int}{t:Tok}{v:aF}{Q:Unit→aL→Prop}(hl:s.heap.get? l=some (cQ vs n))(hk:k=(j:Int))(hj:j<vs.length)(hn:vs.length≤aJ)
  (h:Q () {s with heap:=s.heap.update l (mE fun x=>x.setIfInBounds j v)}):aP (aM prog w) A (setItem (.ref l) (.int k t) v) Q E s:=by
 have hT:s.TypeIs (.ref l) "list":=⟨_,hl,rfl⟩;have X9:Ss k=true:=by
  rw[vO]at hn;exact fitsIndex_of (jX 264030120378392 rfl hk) (U4 353690528168037955750900128252668074876305754265 rfl hk hj hn)
 obtain⟨o,ho⟩: ∃o,o=cQ vs n:=⟨_,rfl⟩;have hd:o.data= .seq vs.toArray n:=by rw[ho]
 rw[←ho]at hl;unfold setItem
 try with_reducible refine mV ?_
 first|refine aO (bA ?_)|skip
 refine aO (Rj hT (by decide) ?_);refine aO (IU (name:=aA "__setitem__") hT slot_list_setitem
  (rR slot_list_setitem hT entry_list_setitem ?_ (args_list_setitem _ _ _)))
 show aP _ _ (OB (.int k t)>>=_) _ _ s;refine aO (wpAny_listSubscript_int X9 ?_);subst hk;show aP _ _ ((seqItemAt l j>>=fun r=>pure (r.map (j,·)))>>=_) _ _ s;refine aO (aO (aBW hl hd (bA ?_)));rw[(show vs.toArray[j]?=some vs[j] by simp[hj])];show aP _ _ (setSeqItemAt l j v>>=_) _ _ s;refine aO (wpAny_setSeqItemAt hl hd ?_)
 first
  |exact aO (bA (bA ⟨.none,rfl,bA h⟩))|exact bA ⟨.none,rfl,bA h⟩
theorem bE.set(rv:dH g h ι p v): ∀{l:List PV} {vs:List aF} (_:bE g h ι l vs) (j:Nat),bE g h ι (l.set j p) (vs.set j v)
 | [],_,x,j=>x.nG bE.nil|q::r,_,x,0=>x.kN fun u s y z=>bE.cons rv z
 |q::r,_,x,j+1=>x.kN fun u s y z=>bE.cons y (bE.set rv z j)
theorem xu{o i:PV}(hu:A.units+10<cLine)(ra:σ.V o a)(rb:σ.V i b)(rv:σ.V p v)(h:σ.bD UR (DH o i p σ.H) Q E):aP (aM g.prog g.w) A (setItem a b v) Q E σ.s:=
 h.ob fun H' e h9=>or_eq e (fun e=>cY e fun q e1 e=>cY e fun k ek e=>by
   obtain⟨hk,rfl⟩:=nH (M:=fun H'=>(0≤k∧k<q.2.length∧q.2.length≤aJ)∧σ.H.set q.1 (.list (q.2.set k.toNat p))=H') e fun h=>⟨cK h,rfl⟩;refine ra.listAt e1 fun t vs n _ e2 ei et rt=>(iV ek▸rb:σ.V (.int k) b).int fun u=>?_;obtain⟨h0,LC,zI⟩:=hk;obtain⟨j,rfl⟩:=AJ h0;rw[←rt.length]at LC zI;exact xv et rfl (JD.mp LC) zI (Hx.NU (ws:=vs.set j v) (t:=σ.s.toks) (fun x=>x.setIfInBounds j v) e2 ei et (by simp) (bE.set rv rt j) fun τ l es eH=>h9.upd l es eH trivial))
  fun e=>cY e fun q e1 e=>cY e fun k hk e=>by
   obtain⟨hd,hl,rfl⟩:=nH (M:=fun H'=>cZ q.2 k=true∧q.2.length≤sizeLine∧σ.H.set q.1 (.dict (bT q.2 k p) false)=H') e fun h=>⟨(eY.mp h).1,bW (sA (cK (eY.mp h).2)) pC,rfl⟩;obtain⟨rfl,e2⟩:=TF e1;rw[CK hk]at rb;have fin: ∀{ad:Addr} (ed:σ.ι[q.1]?=some ad) h' (hs:tK ad σ.s.heap h') o,h'.get? ad=some o→fO g σ.s.heap σ.ι (.dict (bT q.2 k p) false) o→∀tk,Q () {σ.s with heap:=h',toks:=tk}:=fun ed h' hs o ho r tk=>
    σ.upd e2 ed rfl hs ho r tk fun τ l es eH=>Hx.bD.upd (R:=UR) (p:=()) (u:=()) h9 l es eH trivial
   refine PK.cases k (fun k rb hd fin=>?_) (fun l rb hd fin=>?_) rb hd @fin
   ·exact ra.BG e2 (BH hd) fun d eK ed dd kv=>σ.at e2 ed fun _ _ x=>wpAny_setItem_pairs (uQ rb) dd (fun h' d' hs=>MP (lk:=false) (FU x.choose_spec.choose_spec.2.2) d' (UP x.choose_spec.choose_spec.2.2 rv kv) fun o ho r=>fin ed h' hs o ho r _) (by rw[kv.length];exact hl)
   ·exact ra.KJ e2 (FS hd) fun d xs ed dd kv nd=>zZ (M:=fun b=>dH g σ.s.heap σ.ι (PK.tup l).val b→aP (aM g.prog g.w) A (setItem (.ref d) b v) Q E σ.s) rb (fun t gU rb=>wpAny_setItem_heap (knd:=iJ g) (show A.in1.units<cLine by dsimp only;exact aS 1207322668438829146645202193 rfl hu) gU dd (fun h' d' hs=>Nk (lk:=false) (FU nd) d' (Kr nd (Kn rb) rv kv) fun o ho r=>fin ed h' hs o ho r _) (by rw[kv.length];exact hl)) rb
theorem j6(hc:pY e=false)(hx:S.attr x=some k)(ho:bK g S o d)(he:bK g S e dv):lQ g S (.Assign [.Attribute o x apos] e pos) (jD d k dv):=fun env A C rest V fr σ F Q E p=>
 plainObj_wpAny_Assign_Attribute (he env A C rest V fr σ F _ E (p.bind (R₁:=Hx.V) F fun y v τ l r F p=>ho env A C rest V fr τ F _ E (p.bind (R₁:=Hx.V) F fun z u υ k r' F p=>xq V.ok V.sc.attrs (V.sc.attr _ _ hx) r' (r.le k) (p.bind F fun _ _ _ _ _ F p=>p.next F)))) (by cases e<;>first|rfl|cases hc)
theorem j8(hc:pY e=false)(ho:bK g S o d)(hi:bK g S ie di)(he:bK g S e dv):lQ g S (.Assign [.Subscript o ie apos] e pos) (mN d di dv):=fun env A C rest V fr σ F Q E p=>
 wpAny_Assign_Subscript (he env A C rest V fr σ F _ E (p.bind (R₁:=Hx.V) F fun y v τ l r F p=>ho env A C rest V fr τ F _ E (p.bind (R₁:=Hx.V) F fun z u υ k r' F p=>hi env A C rest V fr υ F _ E (p.bind (R₁:=Hx.V) F fun z' u' φ m ud F p=>xu V.tE (r'.le m) ud ((r.le k).le m) (p.bind F fun _ _ _ _ _ F p=>p.next F))))) (by cases e<;>first|rfl|cases hc)
end
section
variable{g:Gl}{S:Sc}{σ τ:Hx g}{env:Env}{A:cH}{C:dI}{rest:bY}{fr:aW}{E:aF→aL→Prop}{fs:List (aF→Sem Unit)}{ts:List Tg}{l ps:List PV}{vs:List aF}{x:PV}{v:aF}{P:Prop}
inductive mH(g:Gl)(S:Sc)(env:Env)(A:cH)(E:aF→aL→Prop):List (aF→Sem Unit)→List Tg→Prop
 |nil:mH g S env A E [] []|cons {f:aF→Sem Unit} {x:Str} {t:Tg} {fs:List (aF→Sem Unit)} {ts:List Tg}:nC S x=some t→(∀(v:aF) (s:aL) (Q:Unit→aL→Prop),aP (aM g.prog g.w) A (storeName env x v) Q E s→aP (aM g.prog g.w) A (f v) Q E s)→
   mH g S env A E fs ts→mH g S env A E (f::fs) (t::ts)
theorem mH.append{gs:List (aF→Sem Unit)}{us:List Tg}(x:mH g S env A E fs ts)(y:mH g S env A E gs us):mH g S env A E (fs++gs) (ts++us):=by
 induction x with
 |nil=>exact y|cons a b _ ih=>exact .cons a b ih
theorem mH.rev(x:mH g S env A E fs ts):mH g S env A E fs.reverse ts.reverse:=by
 induction x with
 |nil=>exact .nil|cons a b _ ih=>rw[EI,EI];exact ih.append (.cons a b .nil)
theorem mH.len(x:mH g S env A E fs ts):fs.length=ts.length:=by
 induction x with
 |nil=>rfl|cons _ _ _ ih=>simp[ih]
theorem Hx.Vs.gD(r:σ.Vs ps vs)(l:σ.gF env rest τ):τ.Vs ps vs:=bE.mono σ.X.dZ l.grow l.pre ps r
theorem Hx.iT.gD{o:Out aW}{Q:Unit→aL→Prop}(p:σ.iT S env rest o Q)(l:σ.gF env rest τ):τ.iT S env rest o Q:=by
 cases o with
 |ok fr H=>exact fun υ k=>p υ (l.trans k)
 |exc c d H=>exact p|fail=>exact p
theorem Hx.iT.bind{o:Out aW}{f:aW→PH→Out aW}{Q Q₁:Unit→aL→Prop}(p:σ.iT S env rest (o.bind f) Q)(k: ∀fr τ,σ.gF env rest τ→At g S env rest fr τ→τ.iT S env rest (f fr τ.H) Q→Q₁ () τ.s):σ.iT S env rest o Q₁:=by
 cases o with
 |ok fr H'=>exact fun τ l e F=>k fr τ l F (e▸Hx.iT.gD (o:=f fr H') p l)
 |exc c d H'=>exact p|fail=>exact p
theorem Oh(T:mH g S env A E fs ts)(eo:jL S env){Q:Unit→aL→Prop}(F:At g S env rest fr σ)(r:σ.Vs ps vs)(p:σ.iT S env rest (putAll ts ps fr σ.H) Q):aP (aM g.prog g.w) A (assignInOrder fs vs) Q E σ.s:=by
 induction T generalizing σ fr ps vs with
 |nil=>cases ps with
  |cons a b=>exact p.elim|nil=>exact bE.nG (M:=fun vs=>aP (aM g.prog g.w) A (assignInOrder [] vs) Q E σ.s) r (wpAny_assignInOrder_none (p σ (Hx.Le.refl.toS F) rfl F))
 | @cons f _ _ fs _ a b _ ih=>cases ps with
  |nil=>exact p.elim|cons q qs=>exact bE.kN (M:=fun vs=>aP (aM g.prog g.w) A (assignInOrder (f::fs) vs) Q E σ.s) r fun v r' r1 r2=>wpAny_assignInOrder_more (b _ _ _ (xQ eo a F r1 (Hx.iT.bind p fun fr τ l F p=>ih F (Hx.Vs.gD (show σ.Vs qs r' from r2) l) p)))
theorem vC(i:Nat)(p:PV)(fr:aW)(H:PH):putAt (.loc i) p fr H=if i<fr.length then .ok (fr.set i (some p)) H else .fail:=by
 unfold putAt;by_cases h:i<fr.length
 ·rw[aV h];dsimp only;rw[cC h];rfl
 ·rw[aN h];dsimp only;rw[iW h];rfl
theorem putAll_snoc{t:Tg}{p:PV}: ∀{ts:List Tg} {ps:List PV} {fr:aW} {H:PH},ts.length=ps.length→putAll (ts++[t]) (ps++[p]) fr H=(putAll ts ps fr H).bind fun fr H=>putAt t p fr H
 | [],[],fr,H,_=>by
  show(putAt t p fr H).bind (fun fr H=> .ok fr H)=putAt t p fr H;cases putAt t p fr H<;>rfl
 | [],_::_,_,_,h=>by cases h
 |_::_,[],_,_,h=>by cases h
 |a::r,q::qs,fr,H,h=>by
  show(putAt a q fr H).bind (fun fr H=>putAll (r++[t]) (qs++[p]) fr H)=((putAt a q fr H).bind fun fr H=>putAll r qs fr H).bind _;rw[Out.bind_assoc];congr 1
  funext fr' H'
  exact putAll_snoc (by simpa using h)
theorem WQ{i:Nat}{p:PV}: ∀{is:List Nat} {ps:List PV} {fr:aW} {H:PH},i∉is→((putAt (.loc i) p fr H).bind fun fr H=>putAll (is.map .loc) ps fr H)=(putAll (is.map .loc) ps fr H).bind fun fr H=>putAt (.loc i) p fr H
 | [],[],fr,H,_=>by
  show(putAt (.loc i) p fr H).bind (fun fr H=> .ok fr H)=putAt (.loc i) p fr H;cases putAt (.loc i) p fr H<;>rfl
 | [],_::_,fr,H,_=>by
  show(putAt (.loc i) p fr H).bind (fun fr H=> .fail)= .fail;rw[vC];split<;>rfl
 |_::_,[],fr,H,_=>by
  show(putAt (.loc i) p fr H).bind (fun fr H=> .fail)= .fail;rw[vC];split<;>rfl
 |j::is,q::qs,fr,H,h=>by
  have eP:i≠j:=fun e=>h (e▸ .head _);have Ij:i∉is:=fun e=>h (.tail _ e);show(putAt (.loc i) p fr H).bind (fun fr H=>(putAt (.loc j) q fr H).bind fun fr H=>putAll (is.map .loc) qs fr H)=((putAt (.loc j) q fr H).bind fun fr H=>putAll (is.map .loc) qs fr H).bind fun fr H=>putAt (.loc i) p fr H;rw[Out.bind_assoc,vC,vC];by_cases h1:i<fr.length
  ·rw[aV h1,Out.eV,vC,dS]
   by_cases h2:j<fr.length
   ·rw[aV h2,aV h2,Out.eV,Out.eV,←WQ Ij,vC,dS,aV h1,Out.eV,Aq _ _ eP]
   ·rw[aN h2,aN h2];rfl
  ·rw[aN h1,Out.Zh]
   by_cases h2:j<fr.length
   ·rw[aV h2,Out.eV,←WQ Ij,vC,dS,aN h1];rfl
   ·rw[aN h2];rfl
theorem Og: ∀{is:List Nat} {ps:List PV} {fr:aW} {H:PH},is.Nodup→is.length=ps.length→putAll (is.map .loc).reverse ps.reverse fr H=putAll (is.map .loc) ps fr H
 | [],[],_,_,_,_=>rfl| [],_::_,_,_,_,h=>by cases h
 |_::_,[],_,_,_,h=>by cases h
 |i::is,p::ps,fr,H,nd,h=>by
  rw[hA]at nd;rw[dU,EI,EI,putAll_snoc (by simpa using h),Og nd.2 (by simpa using h),←WQ nd.1];rfl
inductive qR(S:Sc):List Expr→List Tg→Prop
 |nil:qR S [] []|cons {x:Str} {t:Tg} {es:List Expr} {ts:List Tg} (pos:Pos):nC S x=some t→qR S es ts→qR S (.Name x pos::es) (t::ts)
theorem ms{e:Expr}{x:Str}(h:nameOf e=some x): ∃pos,e= .Name x pos:=by
 induction e using PySem.Expr.casesOn with
 |Name id pos=>exact⟨pos,gQ h▸rfl⟩|_=>exact dB h
theorem KH{es:List Expr}{ts:List Tg}(h:BF S es=some ts):qR S es ts:=by
 induction es generalizing ts with
 |nil=>exact gQ h▸ .nil|cons e r ih=>
  refine cY h fun x e1 h=>cY h fun t e2 h=>kA (M:=fun ts=>qR S (e::r) ts) h fun q e3=>?_
  ·obtain⟨pos,rfl⟩:=ms e1
   exact .cons pos e2 (ih e3)
theorem qR.each{es:List Expr}{ts:List Tg}(h:qR S es ts):mH g S env A E ((assignEach es env).map (·.2)) ts∧(assignEach es env).findIdx? (·.1)=none:=by
 induction h with
 |nil=>exact⟨.nil,rfl⟩|cons pos e _ ih=>
  refine⟨.cons e (fun v s Q hq=>PX hq) ih.1,?_⟩;show Uj _ ((false,_)::assignEach _ env)=none;rw[List.findIdx?_cons];simp only[xZ,if_false];rw[show Uj (fun x:Bool×(aF→Sem Unit)=>x.1) (assignEach _ env)=none from ih.2];rfl
theorem qR.names{es:List Expr}{ts:List Tg}(h:qR S es ts):mH g S env A E ((namesIn es).map fun x=>bindName env x) ts:=by
 induction h with
 |nil=>exact .nil|cons pos e _ ih=>exact .cons e (fun v s Q hq=>aBL hq) ih
noncomputable def Hx.ext{h':Heap}(σ:Hx g)(k: ∀b o,σ.s.heap.get? b=some o→h'.get? b=some o):Hx g:=⟨{σ.s with heap:=h'},σ.nss,σ.ι,σ.H,σ.X.ext k⟩
theorem Hx.uD{h':Heap}{k: ∀b o,σ.s.heap.get? b=some o→h'.get? b=some o}:σ.Le (σ.ext k):=⟨rfl,.ext k,.refl _,rfl⟩
theorem Pj{Q:List aF→aL→Prop}(hh:A.handled=none)(r:σ.V x v)(e:DG x σ.H=some l)(h: ∀vs τ,σ.Le τ→τ.H=σ.H→τ.Vs l vs→Q vs τ.s):aP (aM g.prog g.w) A (unpackItems v l.length none) Q E σ.s:=
 or_eq e (fun e=>(EV e▸r:σ.V (.tup l) v).tup fun a vs n ea rl=>by
  rw[←rl.length,show vs.length=vs.toArray.size from rfl];exact aDG (items:=vs.toArray) hh ⟨_,ea,rfl,_,rfl⟩ fun h' k=>h vs (σ.ext fun b o q=>k b o (lJ (fI q)) q) σ.uD rfl (rl.le σ.uD))
 fun e=>kA (M:=fun l=>(∀vs τ,σ.Le τ→τ.H=σ.H→τ.Vs l vs→Q vs τ.s)→aP (aM g.prog g.w) A (unpackItems v l.length none) Q E σ.s) e (fun q e h=>r.listAt e fun a vs n _ _ _ ea rl=>by
  rw[←rl.length,show vs.length=vs.toArray.size from rfl];exact kun_itemsOf (items:=vs.toArray) hh ⟨_,ea,rfl,_,rfl⟩ fun h' k=>h vs (σ.ext fun b o q=>k b o (lJ (fI q)) q) σ.uD rfl (rl.le σ.uD)) h
theorem Ed: ∀{l:List Str},FQ l=true→l.Nodup
 | [],_=>mD|x::r,h=>by
  unfold FQ at h;rw[mW,yA,AP]at h;rw[hA];exact⟨fun q=>h.1 x q (by simp),Ed h.2⟩
theorem qR.locs(eo:jL S env){es:List Expr}{ts:List Tg}(h:qR S es ts)(hl: ∀x∈namesIn es,env.kindOf x=some .local)(nd:(namesIn es).Nodup):
  ∃is:List Nat,ts=is.map .loc∧is.Nodup∧∀i∈is,∃x∈namesIn es,S.names[i]?=some (x,.local):=by
 induction h with
 |nil=>exact⟨[],rfl,mD,fun i hi=>(yK hi).elim⟩| @cons x t es ts pos e _ ih=>
  have nd:=hA.mp (show(x::namesIn es).Nodup from nd);obtain⟨is,rfl,jZ,hm⟩:=ih (fun y hy=>hl y (.tail _ hy)) nd.2;refine Dw (P:=fun t=> ∃js:List Nat,t::is.map .loc=js.map .loc∧js.Nodup∧∀i∈js,∃y∈x::namesIn es,S.names[i]?=some (y,.local)) e (fun i hs=>?_) fun i hs=>?_
  ·have hi:=slot_get (Sc.slot_of hs).1
   refine⟨i::is,rfl,hA.mpr ⟨fun q=>?_,jZ⟩,fun j hj=>(dJ.mp hj).elim (fun q=>⟨x,.head _,q▸hi⟩) fun hj=>(hm j hj).imp fun y q=>⟨.tail _ q.1,q.2⟩⟩;obtain⟨y,hy,e⟩:=hm i q;rw[hi]at e;injection e with e;injection e with e;exact nd.1 (e▸hy)
  ·have hk:=(eo.names x i _ (Sc.slot_of hs).1).elim id fun q=>nomatch q.1
   rw[hl x (.head _)]at hk;exact nomatch hk
noncomputable def IN(env:Env)(line:Nat):Expr→Option Str:=fun| .Name id pos=>if env.kindOf id==some .local&&pos.line==line then some id else none|_=>none
theorem y5{env:Env}{line:Nat}{e:Expr}{b:Str}(h:IN env line e=some b):(∃pos,e= .Name b pos)∧env.kindOf b=some .local:=by
 induction e using PySem.Expr.casesOn with
 |Name id pos=>
  have h:(if env.kindOf id==some .local&&pos.line==line then some id else none)=some b:=h;by_cases q:(env.kindOf id==some .local&&pos.line==line)=true
  ·rw[aV q]at h;injection h with h;subst h
   exact⟨⟨pos,rfl⟩,beq_iff_eq.mp (eY.mp q).1⟩
  ·rw[aN q]at h;injection h
 |_=>injection h
theorem y4(env:Env)(line:Nat)(ts:List Expr):(ts.filterMap (IN env line)).length≤ts.length∧
   ((ts.filterMap (IN env line)).length=ts.length→ts.filterMap (IN env line)=namesIn ts∧(∀x∈namesIn ts,env.kindOf x=some .local)∧(namesIn ts).length=ts.length):=by
 induction ts with
 |nil=>exact⟨fQ _,fun _=>⟨rfl,fun x hx=>(yK hx).elim,rfl⟩⟩|cons t r ih=>
  rw[EA];cases q:IN env line t with
  |none=>exact⟨yO ih.1,fun h=>absurd (h▸ih.1:(t::r).length≤r.length) (Nat.not_succ_le_self _)⟩|some b=>
   refine⟨tX ih.1,fun h=>?_⟩;refine bQ fun G_ aQ=>?_;obtain⟨j1,j2,j3⟩:=ih.2 (aCX h);obtain⟨⟨pos,rfl⟩,hk⟩:=y5 q;refine aQ ?_;exact⟨bN (b:: ·) j1,fun x hx=>(dJ.mp hx).elim (fun e=>by rw[e];exact hk) (j2 x),bN (· +1) j3⟩
theorem y6{ts:List Expr}{k:Nat}{tp:Pos}{e:Expr}{env:Env}(hu:IR e=true):swappedStores [.Tuple ts k tp] e env=pure none∨(swappedStores [.Tuple ts k tp] e env=pure (some (namesIn ts))∧(∀x∈namesIn ts,env.kindOf x=some .local)∧(namesIn ts).length=ts.length):=by
 induction e using PySem.Expr.casesOn with
 |Tuple vs k2 p2=>
  unfold IR at hu;rw[mW,yA,yA]at hu;unfold swappedStores;dsimp only;obtain⟨k1,k2⟩:=y4 env ((ts.head?.map (·.pos.line)).getD 0) ts;split
  ·exact .inl rfl
  ·split
   ·exact .inl rfl
   ·split
    ·exact .inl rfl
    ·rename_i _ _ hn
     split
     ·exact .inl rfl
     ·split
      ·rename_i _ hc
       rw[hu.1]at hc;cases hc
      ·rw[YX,not_or]at hn
       obtain⟨j1,j2,j3⟩:=k2 (by have h:=hn.1;rw[bne_iff_ne,ne_eq,aCJ]at h;exact h);exact .inr ⟨by rw[←j1];rfl,j2,j3⟩
 |_=>exact .inl rfl
theorem Hx.cD.ob{α:Type}{o:Option α}{f:α→Out (cO×aW)}{Q:Flow→aL→Prop}(p:σ.cD S env rest (Mine.ob o f) Q E)(k: ∀a,o=some a→σ.cD S env rest (f a) Q E→P):P:=by
 cases o with
 |none=>exact p.elim|some a=>exact k a rfl p
theorem Hx.cD.cB{b:Bool}{o:Out (cO×aW)}{Q:Flow→aL→Prop}(p:σ.cD S env rest (Mine.cB b o) Q E)(k:b=true→σ.cD S env rest o Q E→P):P:=by
 cases b with
 |false=>exact p.elim|true=>exact k rfl p
theorem C9{α β:Type}{o:Out α}{f:α→PH→Out β}(h:sH o)(k: ∀a H,sH (f a H)):sH (o.bind f):=by
 cases o with
 |ok a H=>exact k a H|exc c d H=>exact h|fail=>exact h
theorem WP{ts:List Tg}{l:List PV}{fr:aW}{H:PH}:sH (putAll ts l fr H):=by
 induction ts generalizing l fr H with
 |nil=>cases l<;>exact trivial|cons t r ih=>cases l with
  |nil=>exact trivial|cons a b=>exact C9 DB fun _ _=>ih
theorem Qk{DL:List Tg}{rv:Bool}{Q:Flow→aL→Prop}(V:Ev g S env A C rest)(F:At g S env rest fr σ)(r:σ.V x v)(T:mH g S env A E fs DL)(ao: ∀l:List PV,l.length=ts.length→putAll DL (if rv then l.reverse else l) fr σ.H=putAll ts l fr σ.H)
  (p:σ.cD S env rest (Mine.ob (DG x σ.H) fun l=>cB (decide (l.length=ts.length)) ((putAll ts l fr σ.H).bind fun fr H=> .ok (.next,fr) H)) Q E):
  aP (aM g.prog g.w) A (unpackItems v ts.length none) (fun items s=>aP (aM g.prog g.w) A (assignInOrder fs (if rv then items.reverse else items)) (fun _=>Q .next) E s) E σ.s:=
 p.ob fun l hl p=>p.cB fun hlen p=>by
  have hlen:=cK hlen;rw[←hlen];refine Pj V.hand r hl fun vs τ k eH rl=>Oh (ps:=if rv then l.reverse else l) T V.eo (F.le k) (by cases rv<;>first|exact rl|exact bE.reverse rl) ?_;rw[eH,ao l hlen];exact(p.gD (k.toS F)).store WP fun fr υ _ F p=>p.next F
theorem k6{es:List Expr}{e:Expr}{d:D}{k:Nat}{tp pos:Pos}(hu:IR e=true)(hd:FQ (namesIn es)=true)(ht:BF S es=some ts)(he:bK g S e d):lQ g S (.Assign [.Tuple es k tp] e pos) (jQ ts d):=by
 intro env A C rest V fr σ F Q E p;have Iu:swapsWithSole [.Tuple es k tp] e pos.line env=pure false:=by
  unfold IR at hu;cases e<;>first|rfl|cases hu
 rcases y6 (ts:=es) (k:=k) (tp:=tp) (env:=env) hu with hw|⟨hw,Z3,hlen⟩
 ·refine aC0 (he env A C rest V fr σ F _ E (p.bind (R₁:=Hx.V) F fun y v τ l r F p=>?_)) Iu hw
  obtain⟨T,lM⟩:=(KH ht).each (g:=g) (env:=env) (A:=A) (E:=E);show aP _ _ (do standAt tp;unpack v (assignEach es env)) _ _ _;refine aO (xX ?_);unfold unpack;rw[lM,show(assignEach es env).length=ts.length by rw[←T.len,cR]];exact aO (mV (Qk (rv:=false) V F r T (fun l _=>rfl) p))
 ·refine aC1 (names:=namesIn es) (he env A C rest V fr σ F _ E (p.bind (R₁:=Hx.V) F fun y v τ l r F p=>?_)) Iu hw
  have T:=(KH ht).names (g:=g) (env:=env) (A:=A) (E:=E);obtain⟨is,LS,nd,_⟩:=(KH ht).locs V.eo Z3 (Ed hd);rw[show(namesIn es).length=ts.length by rw[←T.len,cR]];have:=Qk (rv:=true) V F r T.rev (fun l h=>by
   rw[aV rfl,LS];exact Og nd (by rw[h,LS,cR])) p
  rw[←List.map_reverse]at this;exact this
end
section
variable{g:Gl}{S:Sc}{σ τ:Hx g}{env:Env}{A:cH}{C:dI}{rest:bY}{fr:aW}{E E':aF→aL→Prop}{Q Q₁:Flow→aL→Prop}{P:Prop}{pos:Pos}
theorem Hx.cD.seq{o:Out (cO×aW)}{f:aW→PH→Out (cO×aW)}(p:σ.cD S env rest (o.bind fun r H=>match r with|(.next,fr)=>f fr H|(.ret v,fr)=> .ok (.ret v,fr) H) Q E)
  (k: ∀fr τ,σ.gF env rest τ→At g S env rest fr τ→τ.cD S env rest (f fr τ.H) Q E→Q₁ .next τ.s) (kr: ∀v s,Q (.ret v) s→Q₁ (.ret v) s):σ.cD S env rest o Q₁ E:=by
 cases o with
 |ok r H=>
  obtain⟨fl,fr⟩:=r;cases fl with
  |next=>exact fun τ l e F=>k fr τ l F (e▸Hx.cD.gD (o:=f fr H) p l)
  |ret v=>exact fun b τ l e r=>kr _ _ (p b τ l e r)
 |exc c d H=>exact p|fail=>exact p
theorem yx:pF g S [] aK:=fun env A C rest V fr σ F Q E p=>by
 rw[arm_execs_nil];exact bA (p.next F)
theorem yw{st:Stmt}{r:List Stmt}{a b:DS}(ha:lQ g S st a)(hb:pF g S r b):pF g S (st::r) (aI a b):=fun env A C rest V fr σ F Q E p=>by
 rw[arm_execs_cons];exact aO (ha env A C rest V fr σ F _ E (Hx.cD.seq p (fun fr τ l F p=>hb env A C rest V fr τ F Q E p) fun v s h=>bA h))
theorem Hx.cD.C7{α β:Type}{R₁:Hx g→α→β→Prop}{o:Out α}{f:α→PH→Out (cO×aW)}{Q₁:β→aL→Prop}(p:σ.cD S env rest (calm (o.bind f)) Q E)(F:At g S env rest fr σ)
  (k: ∀a b τ,σ.Le τ→R₁ τ a b→At g S env rest fr τ→τ.cD S env rest (calm (f a τ.H)) Q E→Q₁ b τ.s):σ.bD R₁ o Q₁ E':=by
 cases o with
 |ok a H'=>exact fun b τ l e r=>k a b τ l r (F.le l) (e▸Hx.cD.gD (o:=calm (f a H')) p (l.toS F))
 |exc c d H'=>exact p.elim|fail=>exact p.elim
theorem Hx.cD.C8{o:Out (cO×aW)}{f:aW→PH→Out (cO×aW)}(p:σ.cD S env rest (calm (o.bind fun r H=>match r with|(.next,fr)=>f fr H|(.ret v,fr)=> .ok (.ret v,fr) H)) Q E)
  (k: ∀fr τ,σ.gF env rest τ→At g S env rest fr τ→τ.cD S env rest (calm (f fr τ.H)) Q E→Q₁ .next τ.s) (kr: ∀v s,Q (.ret v) s→Q₁ (.ret v) s):σ.cD S env rest o Q₁ E':=by
 cases o with
 |ok r H=>
  obtain⟨fl,fr⟩:=r;cases fl with
  |next=>exact fun τ l e F=>k fr τ l F (e▸Hx.cD.gD (o:=calm (f fr H)) p l)
  |ret v=>exact fun b τ l e r=>kr _ _ (p b τ l e r)
 |exc c d H=>exact p.elim|fail=>exact p.elim
inductive LoopAt(g:Gl)(S:Sc)(env:Env)(rest:bY)(o:aW→PH→Out (cO×aW))(Q:Flow→aL→Prop)(E:aF→aL→Prop):aL→Prop
 |mk (fr:aW) (σ:Hx g) (F:At g S env rest fr σ) (p:σ.cD S env rest (o fr σ.H) Q E):LoopAt g S env rest o Q E σ.s
theorem k8{t:Expr}{b:List Stmt}{dt:DT}{db:DS}(ht:iN g S t dt)(hb:pF g S b db):lQ g S (.While t b [] pos) (DF dt db):=by
 intro env A C rest V fr σ F Q E p;refine wpAny_While (codeAny_whileLoop (fun k=>LoopAt g S env rest (fun fr H=>calm (tF (dt C) (db C) k fr H)) Q E) ?_ rE ⟨fr,σ,F,p⟩);rintro k _ ⟨fr,σ,F,p⟩;cases k with
 |zero=>exact p.elim|succ k=>
  unfold tF at p;refine ht env A C rest V fr σ F _ _ (p.C7 (R₁:=BR) F fun x v τ l r F p=>?_);revert p;refine r.k (fun p=>?_) fun p=>?_
  ·rw[aV rfl]
   exact hb env A C rest V fr τ F _ _ (p.C8 (fun fr υ l F p=>⟨k,Ay k,⟨fr,υ,F,p⟩⟩) fun v s h=>h)
  ·rw[aN lG,arm_execs_nil]
   exact bA (p.next F)
end
section
variable{g:Gl}{σ τ:Hx g}{A:cH}{E:aF→aL→Prop}{P:Prop}{it:It}{i:Nat}{I:Addr}{o o':Obj}{p:PV}{h':Heap}{Q:Option aF→aL→Prop}
noncomputable def gO(g:Gl)(σ:Hx g)(it:It)(i:Nat)(I:Addr):Prop:=match it with
 | .live r=> ∃a,σ.ι[r]?=some a∧σ.s.heap.IsListIter I a i| .seq l=>(∃t vs n,σ.s.heap.get? t=some (fV vs n)∧σ.Vs l vs∧σ.s.heap.IsTupleIter I t i)∨∃n:Nat,l=(fP n).map (fun(i:Nat)=>PV.int (i:Int))∧i≤n∧IsRangeIter σ.s.heap I i ((n:Int)-i) 1| .keys _ ks=> ∃d ds n,(d,fJ ds n)∈σ.nss.bU∧bE g σ.s.heap [] ks (ds.map (·.key))∧σ.s.heap.IsKeyIter I d i ds.length n
structure dW(g:Gl)(σ:Hx g)(I:Addr)(o:Obj):Prop where
 at_:σ.s.heap.get? I=some o
 cls:CI.contains o.cls=true
 fields: ∃vs,o.data= .fields vs∧rC vs[1]?=false
 base:g.base.objs.size≤I
 ni:I∉σ.ι
 nn:I∉σ.nss.l.map (·.1)
 nt:I∉g.jR
 np: ∀p∈σ.nss.bU,p.1≠I
theorem dW.iter(x:dW g σ I o):CF o=true:=by
 obtain⟨vs,e,f⟩:=x.fields;unfold CF;rw[e];dsimp only;rw[x.cls,f];rfl
set_option tactic.hygienic true in
theorem Kc{o:Obj}(h:CF o=true):mR o=false:=by
 unfold CF at h;unfold mR;split at h
 ·rename_i vs q
  rw[q];dsimp only;rw[h];rfl
 ·injection h
noncomputable def dW.to(x:dW g σ I o)(hs:rX I σ.s.heap h')(t:Nat):Hx g:=⟨{σ.s with heap:=h',toks:=t},σ.nss,σ.ι,σ.H,(σ.X.other x.at_ (Kc x.iter) x.base x.ni x.nn x.nt x.np hs).1⟩
theorem dW.DK{x:dW g σ I o}{hs:rX I σ.s.heap h'}{t:Nat}:σ.Le (x.to hs t):=⟨rfl,(σ.X.other x.at_ (Kc x.iter) x.base x.ni x.nn x.nt x.np hs).2,.refl _,rfl⟩
theorem dW.next{x:dW g σ I o}{hs:rX I σ.s.heap h'}{t:Nat}(ho:h'.get? I=some o')(hc:CI.contains o'.cls=true)(hf: ∃vs,o'.data= .fields vs∧rC vs[1]?=false):dW g (x.to hs t) I o':=⟨ho,hc,hf,x.base,x.ni,x.nn,x.nt,x.np⟩
theorem Jz(hh:A.handled=none)(O:dW g σ I o)(R:gO g σ it i I)(e:gR it i σ.H=some (some p))
  (h: ∀v τ o',σ.Le τ→τ.H=σ.H→dW g τ I o'→gO g τ it (i+1) I→τ.V p v→Q (some v) τ.s):aP (aM g.prog g.w) A (pyNext (.ref I)) Q E σ.s:=by
 induction it using It.casesOn with
 |live r=>
  obtain⟨a,ea,hit⟩:=R;refine kA (M:=fun x=>x=some p→_) e (fun q e1 e9=>?_) rfl;obtain⟨e0,e2⟩:=listAt_eq e1;injection e0 with e0;subst e0;refine σ.at e2 ea fun ob et x=>?_;obtain⟨vs,n,rfl,rt⟩:=x;refine bE.get rt e9 fun v hv rv=>wpAny_pyNext_list_item (items:=vs.toArray) hit ⟨_,et,rfl,_,rfl⟩ (by simpa using hv) fun h' iZ hs=>?_;obtain⟨o',jI,GD,uK⟩:=id iZ;exact h v (O.to hs.extBut σ.s.toks) o' O.DK rfl (O.next jI (by rw[GD];rfl) ⟨_,uK,rfl⟩) ⟨a,ea,iZ⟩ (Hx.V.le (show σ.V p v from rv) O.DK)
 |seq l=>
  unfold gR at e;injection e with e;rcases R with⟨t,vs,n,et,rt,hit⟩|⟨n,rfl,hn,hit⟩
  ·refine bE.get rt e fun v hv rv=>wpAny_pyNext_tuple_item (items:=vs.toArray) hit ⟨_,et,rfl,_,rfl⟩ (by simpa using hv) fun h' iZ hs=>?_
   obtain⟨o',jI,GD,uK⟩:=id iZ;have L:=dW.DK (x:=O) (hs:=hs.extBut) (t:=σ.s.toks);exact h v (O.to hs.extBut σ.s.toks) o' L rfl (O.next jI (by rw[GD];rfl) ⟨_,uK,rfl⟩) (.inl ⟨t,vs,n,NQ σ.X.dZ L.grow et,rt.le L,iZ⟩) (Hx.V.le (show σ.V p v from rv) L)
  ·rw[fW]at e
   refine kA (M:=fun x=>x=p→_) e (fun j ej e=>?_) rfl;subst e;have hi:i<n:=by have:=(eF.mp ej).1;simpa using this
   rw[PD hi]at ej;injection ej with ej;subst ej;refine wpAny_pyNext_range_item hit (aX 270366757369020441 rfl hi) fun h' iZ hs=>?_;refine h _ (O.to hs.extBut (σ.s.toks+1)) _ O.DK rfl (O.next iZ rfl ⟨_,rfl,rfl⟩) (.inr ⟨n,rfl,hi,?_⟩) mX;rw[show((i:Int)+1)=((i+1:Nat):Int) by exact tO (aS 528316009284888 rfl) (aS 528316009284888 rfl),show((n:Int)-i-1)=(n:Int)-((i+1:Nat):Int) by exact tO (aX 553983991213814987544 rfl) (aX 553983857623152461592 rfl)]at iZ;exact iZ
 |keys r ks=>
  obtain⟨d,ds,n,hp,rk,hit⟩:=R;unfold gR at e;injection e with e;refine bE.get rk e fun v hv rv=>?_;rw[fW]at hv;refine kA (M:=fun x=>x=v→_) hv (fun de q hv=>?_) rfl;subst hv;refine LX hh hit (σ.X.bU _ hp).1 (fun de' q' h' iZ hs=>?_) fun q'=>MI (q.symm.trans q');cases q.symm.trans q';obtain⟨o',jI,GD,uK⟩:=id iZ;have L:=dW.DK (x:=O) (hs:=hs.extBut) (t:=σ.s.toks);exact h _ (O.to hs.extBut σ.s.toks) o' L rfl (O.next jI (by rw[GD];rfl) ⟨_,uK,rfl⟩) ⟨d,ds,n,hp,bE.mono σ.X.dZ L.grow (Pre.refl _) _ rk,iZ⟩ (dH.mono σ.X.dZ L.grow (Pre.nil _) _ rv)
theorem Jy(hh:A.handled=none)(O:dW g σ I o)(R:gO g σ it i I)(e:gR it i σ.H=some none)(hle: ∀r ks,it= .keys r ks→i≤ks.length)(h: ∀τ,σ.Le τ→τ.H=σ.H→Q none τ.s):aP (aM g.prog g.w) A (pyNext (.ref I)) Q E σ.s:=by
 have fin: ∀h',rX I σ.s.heap h'→Q none {σ.s with heap:=h',toks:=σ.s.toks}:=fun h' hs=>h (O.to hs σ.s.toks) O.DK rfl
 induction it using It.casesOn with
 |live r=>
  obtain⟨a,ea,hit⟩:=R;refine kA (M:=fun x=>x=none→_) e (fun q e1 e9=>?_) rfl;obtain⟨e0,e2⟩:=listAt_eq e1;injection e0 with e0;subst e0;refine σ.at e2 ea fun ob et x=>?_;obtain⟨vs,n,rfl,rt⟩:=x;refine wpAny_pyNext_list_end (items:=vs.toArray) hh hit ⟨_,et,rfl,_,rfl⟩ ?_ fin;simp[rt.length,EC.mp e9]
 |seq l=>
  unfold gR at e;injection e with e;rcases R with⟨t,vs,n,et,rt,hit⟩|⟨n,rfl,hn,hit⟩
  ·refine wpAny_pyNext_tuple_end (items:=vs.toArray) hh hit ⟨_,et,rfl,_,rfl⟩ ?_ fin
   simp[rt.length,EC.mp e]
  ·rw[EC,cR,EF]at e
   exact wpAny_pyNext_range_end hh hit (aX 271483851989190424 rfl e) fin
 |keys r ks=>
  obtain⟨d,ds,n,hp,rk,hit⟩:=R;unfold gR at e;injection e with e;have h2:=rk.length;rw[cR]at h2;cases show i=ds.length from h2▸fE (hle r ks rfl) (EC.mp e)
  exact LX hh hit (σ.X.bU _ hp).1 (fun _ hx=>dB ((jN (fQ ds.length)).symm.trans hx)) fun _=>fin
end
section
variable{g:Gl}{S:Sc}{σ τ:Hx g}{nss:bY}{it:It}{i:Nat}{I:Addr}{o:Obj}{env:Env}{rest:bY}
theorem gO.after(R:gO g σ it i I)(e1:σ.s.heap.get? I=some o)(e2:τ.s.heap.get? I=some o)(G:eA g σ.s.heap τ.s.heap)(P:Pre σ.ι τ.ι)(hp: ∀p∈σ.nss.bU,p∈τ.nss.bU):gO g τ it i I:=by
 have T:=σ.X.dZ
 induction it using It.casesOn with
 |live r=>
  obtain⟨a,ea,o',h1,r⟩:=R;cases e1.symm.trans h1;exact⟨a,P.get ea,o,e2,r⟩
 |seq l=>
  rcases R with⟨t,vs,n,et,rt,o',h1,r⟩|⟨n,hl,hn,hit⟩
  ·cases e1.symm.trans h1
   exact .inl ⟨t,vs,n,NQ T G et,bE.mono T G P _ rt,o,e2,r⟩
  ·cases e1.symm.trans hit
   exact .inr ⟨n,hl,hn,e2⟩
 |keys r ks=>
  obtain⟨d,ds,n,h0,rk,o',h1,r⟩:=R;cases e1.symm.trans h1;exact⟨d,ds,n,hp _ h0,bE.mono T G (.refl _) _ rk,o,e2,r⟩
theorem dW.lock(O:dW g σ I o):Cx g σ.s.heap (σ.nss.lock I o) σ.ι σ.H:=σ.X.lock O.at_ (.inr ⟨O.ni,O.nn,O.nt⟩)
noncomputable def Locked(nss nss':bY)(ι:List Addr)(it:It):Prop:=match it with
 | .keys r _=> ∃d o,ι[r]?=some d∧nss'=nss.lock d o∧∀p∈nss.bU,p.1≠d|_=>nss'=nss
theorem Locked.l{nss':bY}{ι:List Addr}{it:It}(x:Locked nss nss' ι it):nss'.l=nss.l:=by
 induction it using It.casesOn with
 |keys r ks=>obtain⟨d,o,_,rfl,_⟩:=x;rfl|_=>subst x;rfl
theorem Cx.flag{h:Heap}{ι:List Addr}{H:PH}{r:Nat}{d:Addr}{es:cA}{k k':Bool}(X:Cx g h nss ι H)(e:H[r]?=some (.dict es k))(ed:ι[r]?=some d)(eP: ∀p∈nss.bU,p.1≠d):Cx g h nss ι (H.set r (.dict es k')):=
 {X with
  len:=X.len.trans dS.symm
  bU:=fun p hp=>⟨(X.bU p hp).1,(X.bU p hp).2.imp (fun⟨i,pT,h2,h3⟩=>⟨i,pT,h2,(qN fun q=>eP p hp (gQ ((q▸h2).symm.trans ed))).trans h3⟩) id⟩
  obj:=fun j po ej=>by
   by_cases hj:r=j
   ·subst hj
    rw[vP (eF.mp e).1]at ej;injection ej with ej;subst ej;have q:=X.obj r _ e;exact q
   ·rw[qN hj]at ej
    exact X.obj j po ej}
theorem Cx.ix{h:Heap}{ι:List Addr}{H:PH}{i r:Nat}{d:Addr}(X:Cx g h nss ι H)(h1:ι[i]?=some d)(h2:ι[r]?=some d):i=r:=(yJ (eF.mp h1).1 X.kU).mp (h1.trans h2.symm)
theorem Cx.free{h:Heap}{nss':bY}{ι ι':List Addr}{H:PH}{it:It}(X:Cx g h nss' ι' H)(L:Locked nss nss' ι it)(P:Pre ι ι'):Cx g h nss ι' (nT it H):=by
 induction it using It.casesOn with
 |live r=>have L:nss'=nss:=L;subst L;exact X
 |seq l=>have L:nss'=nss:=L;subst L;exact X
 |keys r ks=>
  obtain⟨d,o,e1,rfl,eP⟩:=L;obtain⟨X',eo⟩:=X.unlock;have ed:=P.get e1;rcases(X.bU (d,o) (.head _)).2 with⟨i,es,h1,h2⟩|hh
  ·have q:=X.ix h1 ed
   subst q;unfold nT;dsimp only;rw[h2];exact X'.flag h2 ed eP
  ·exact absurd (X'.mem ed) hh.1
theorem Cx.rD{h:Heap}{ι:List Addr}{H:PH}{r:Nat}{d:Addr}{es:cA}{o:Obj}(X:Cx g h nss ι H)(e:H[r]?=some (.dict es false))(ed:ι[r]?=some d)(eo:h.get? d=some o):Cx g h (nss.lock d o) ι (H.set r (.dict es true))∧∀p∈nss.bU,p.1≠d:=by
 have eP: ∀p∈nss.bU,p.1≠d:=fun p hp q=>by
  rcases(X.bU p hp).2 with⟨i,pT,h2,h3⟩|hh
  ·rw[q]at h2
   rw[←X.ix h2 ed,h3]at e;injection e with e;injection e with _ e;injection e
  ·exact hh.1 (q▸X.mem ed)
 exact⟨(X.flag e ed eP).lock eo (.inl ⟨r,es,ed,vP (eF.mp e).1⟩),eP⟩
noncomputable def sg(I a:Addr):Sem Unit:=load I>>=fun o=>match o.cls,o.data with
   | .type n,.fields vs=>(if(["enumerate","zip","dict_itemiterator","dict_reverseitemiterator","odict_iterator","itertools.zip_longest","itertools.pairwise"].contains n&&vs[0]?==some (rawInt a))=true then(do
     rule "for.unpacks-the-owned-tuple"
     updateField I 0 .none)else pure ():Sem Unit)
   |_,_=>pure ()
theorem sj{I:Addr}{v:aF}{P:Sem Unit→Prop}(h0:P (pure ()))(h1: ∀a,P (sg I a))(mS:Expr):P (letOwnedTupleGo mS (.ref I) v):=by
 induction mS using PySem.Expr.casesOn with
 |Tuple=>cases v with
  |ref a=>exact h1 a|_=>exact h0
 |List=>induction v using PySem.Value.casesOn with
  |ref a=>exact h1 a|_=>exact h0
 |_=>exact h0
theorem ji{prog:Program}{w:World}{A:cH}{s:aL}{E:aF→aL→Prop}{Q:Unit→aL→Prop}{mS:Expr}{v:aF}(O:dW g σ I o)(hs:s.heap.get? I=some o)(hq:Q () s):aP (aM prog w) A (letOwnedTupleGo mS (.ref I) v) Q E s:=by
 refine sj (P:=fun t=>aP (aM prog w) A t Q E s) (bA hq) (fun a=>?_) mS;refine aO (wpAny_load hs ?_);obtain⟨vs,hd,_⟩:=O.fields;have hc:=O.cls;unfold CI at hc;rw[JF]at hc;rw[hd];obtain⟨n,hn,e⟩: ∃n∈["list_iterator","tuple_iterator","range_iterator","dict_keyiterator"],oK n=o.cls:=dY.mp hc;rw[←e];show aP (aM prog w) A (if _ then _ else _) Q E s;rw[(show∀n:String,n∈["list_iterator","tuple_iterator","range_iterator","dict_keyiterator"]→(["enumerate","zip","dict_itemiterator","dict_reverseitemiterator","odict_iterator","itertools.zip_longest","itertools.pairwise"].contains n)=false by decide) n hn];exact bA hq
end
section
variable{g:Gl}{S:Sc}{σ τ:Hx g}{nss:bY}{it:It}{i k:Nat}{I:Addr}{o:Obj}{env:Env}{A:cH}{C:dI}{rest rest':bY}{x:Str}{t:Tg}{ts:List Tg}{es:List Expr}{pos:Pos}{E:aF→aL→Prop}{P:Prop}
noncomputable def Hx.unlock(τ:Hx g)(hn:τ.nss=nss.lock I o):Hx g:=⟨τ.s,nss,τ.ι,τ.H,(Cx.unlock (hn▸τ.X:Cx g τ.s.heap (nss.lock I o) τ.ι τ.H)).1⟩
theorem dW.after(O:dW g σ I o)(hn:τ.nss=nss.lock I o)(hl:nss.l.map (·.1)=σ.nss.l.map (·.1))(hp:nss.bU=σ.nss.bU):dW g (τ.unlock hn) I o:=by
 have X:Cx g τ.s.heap (nss.lock I o) τ.ι τ.H:=hn▸τ.X;obtain⟨X',e⟩:=X.unlock;refine⟨e,O.cls,O.fields,O.base,?_,show I∉nss.l.map (·.1) by rw[hl];exact O.nn,O.nt,show∀p∈nss.bU,p.1≠I by rw[hp];exact O.np⟩;rcases(X.bU (I,o) (.head _)).2 with⟨i,es,h1,h2⟩|hh
 ·obtain⟨a,o',e1,e2,r⟩:=X.obj i _ h2
  cases h1.symm.trans e1;cases e.symm.trans e2;have:=qh (by intro _ _ q;exact MH PO.ctorIdx q rfl) r;rw[O.iter]at this;exact VH this
 ·exact hh.1
theorem dW.new{t:Nat}(hc:CI.contains o.cls=true)(hf: ∃vs,o.data= .fields vs∧rC vs[1]?=false):dW g (σ.push o t) σ.s.heap.objs.size o:=by
 have hn: ∀b o,σ.s.heap.get? b=some o→b≠σ.s.heap.objs.size:=fun b o e q=>by rw[q,BQ]at e;exact dB e
 refine⟨jM _ (by obtain⟨vs,e,_⟩:=hf;exact Bi e),hc,hf,σ.X.size,fun q=>?_,fun q=>?_,fun q=>?_,fun p hp=>hn _ _ (σ.X.bU p hp).1⟩
 ·obtain⟨i,hi,e⟩:=PG.mp q
  obtain⟨a',o',e1,e2,_⟩:=σ.X.obj i (σ.H[i]'(σ.X.len▸hi)) (fZ _);cases(eF.mpr ⟨hi,e⟩).symm.trans e1;exact hn _ _ e2 rfl
 ·obtain⟨p,hp,e⟩:=dY.mp q
  obtain⟨o',_,_,e',_⟩:=σ.X.ns p hp;exact hn _ _ e' e
 ·obtain⟨ps,e⟩:=σ.X.dZ _ q
  exact hn _ _ e rfl
noncomputable def AI(g:Gl)(S:Sc)(mS:Expr)(put:PV→aW→PH→Out aW):Prop:=(∀p fr H,sH (put p fr H))∧
 ∀(env:Env) (A:cH) (rest:bY),jL S env→A.handled=none→∀(fr:aW) (σ:Hx g) (p:PV) (v:aF) (Q:Unit→aL→Prop) (E:aF→aL→Prop),At g S env rest fr σ→σ.V p v→σ.iT S env rest (put p fr σ.H) Q→aP (aM g.prog g.w) A (assign mS env v) Q E σ.s
theorem T4(ht:nC S x=some t):AI g S (.Name x pos) (jJ t):=
 ⟨fun _ _ _=>DB,fun _ _ _ V _ _ _ _ _ _ _ F r p=>PX (xQ V ht F r p)⟩
theorem T5(ht:BF S es=some ts):AI g S (.Tuple es k pos) (MX ts):=by
 refine⟨fun p fr H=>RM fun l=>?_,fun env A rest V hh fr σ p v Q E F r h=>?_⟩
 ·cases decide (l.length=ts.length)with
  |true=>exact WP|false=>exact trivial
 ·refine h.ob fun l el h=>?_
  cases hlen:decide (l.length=ts.length)with
  |false=>rw[hlen]at h;exact h.elim|true=>
   rw[hlen]at h;have T:=(KH ht).each (g:=g) (env:=env) (A:=A) (E:=E);show aP _ _ (do standAt pos;unpack v (assignEach es env)) _ _ _;refine aO (xX ?_);unfold unpack;rw[T.2,show(assignEach es env).length=l.length by rw[cK hlen,←T.1.len,cR]];exact aO (mV (Pj hh r (l:=l) (by unfold DG;rw[el];rfl) fun vs τ l eH rl=>Oh T.1 V (F.le l) rl (eH▸Hx.iT.gD (show σ.iT S env rest _ Q from h) (l.toS F))))
end
section
set_option backward.match.sparseCases false
section
variable{g:Gl}{S:Sc}{σ τ:Hx g}{it:It}{A:cH}{rest:bY}{x:PV}{v:aF}{E:aF→aL→Prop}
theorem fm{H:PH}{x:PV}{it:It}{P:PV→It→Prop}(e:uR x H=some it)(h1: ∀l,P (.tup l) (.seq l))(h2: ∀r l,H[r]?=some (.list l)→P (.ref r) (.live r))(h3: ∀r es lk,H[r]?=some (.dict es lk)→P (.ref r) (.keys r (es.map fun e=>e.1.val))):P x it:=by
 induction x using PV.casesOn with
 |tup l=>injection e with e;subst e;exact h1 l
 |ref r=>
  unfold uR at e;dsimp only at e;cases q:H[r]? with
  |none=>rw[q]at e;injection e|some po=>
   rw[q]at e
   induction po using PO.casesOn with
   |list l=>injection e with e;subst e;exact h2 r l q
   |dict es lk=>injection e with e;subst e;exact h3 r es lk q
   |_=>injection e
 |_=>injection e
theorem fp{L:Addr}{m:Str→Option aF}{H':PH}{Q:aF→aL→Prop}(O:g.Ok)(on:σ.nss=rest.on L m)(r:σ.V x v)(e:uR x σ.H=some it)(hl:rD it σ.H=some H')
  (h: ∀(τ:Hx g) rest' I o,τ.nss=rest'.on L m→eA g σ.s.heap τ.s.heap→τ.ι=σ.ι→τ.s={σ.s with heap:=τ.s.heap}→τ.H=H'→Locked rest rest' σ.ι it→dW g τ I o→gO g τ it 0 I→Q (.ref I) τ.s):aP (aM g.prog g.w) A (pyIter v) Q E σ.s:=by
 revert r hl h;refine fm (P:=fun x it=>σ.V x v→rD it σ.H=some H'→(∀(τ:Hx g) rest' I o,τ.nss=rest'.on L m→eA g σ.s.heap τ.s.heap→τ.ι=σ.ι→τ.s={σ.s with heap:=τ.s.heap}→τ.H=H'→Locked rest rest' σ.ι it→dW g τ I o→gO g τ it 0 I→Q (.ref I) τ.s)→aP (aM g.prog g.w) A (pyIter v) Q E σ.s) e (fun l r hl h=>?_) (fun k l hk r hl h=>?_) (fun k es lk hk r hl h=>?_)
 ·injection hl with hl;subst hl
  refine r.tup fun t vs n et rt=>wpAny_pyIter_tuple (items:=vs.toArray) ⟨_,et,rfl,_,rfl⟩ ?_;have K:=σ.kZ {cls:= .type "tuple_iterator",data:= .fields #[.ref t,.int 0 0]} σ.s.toks;exact h (σ.push _ σ.s.toks) rest _ _ on K.grow rfl rfl rfl rfl (dW.new rfl ⟨_,rfl,rfl⟩) (.inl ⟨t,vs,n,eJ _ et,rt.le K,⟨_,jM _ rfl,rfl,rfl⟩⟩)
 ·injection hl with hl;subst hl
  exact r.list hk fun a vs n ea et rt=>wpAny_pyIter_list (items:=vs.toArray) ⟨_,et,rfl,_,rfl⟩ (h (σ.push _ σ.s.toks) rest _ _ on (σ.kZ _ σ.s.toks).grow rfl rfl rfl rfl (dW.new rfl ⟨_,rfl,rfl⟩) ⟨a,ea,⟨_,jM _ rfl,rfl,rfl⟩⟩)
 ·refine r.dict hk fun a ds n ea et y nd=>?_
  have hl:(match σ.H[k]? with|some (.dict es false)=>some (σ.H.set k (.dict es true))|_=>none)=some H':=hl;rw[hk]at hl;cases lk with
  |true=>exact dB hl|false=>
   injection hl with hl;subst hl;obtain⟨X',eP⟩:=(on▸σ.X).rD hk ea et;have G:=eA.push (g:=g) σ.s.heap {cls:= .type "dict_keyiterator",data:= .fields #[.ref a,.int 0 0,.int ds.length 0,.int n 0]};refine keysIter (oP O ea) et (h (Hx.push ⟨σ.s,(rest.lock a (fJ ds n)).on L m,σ.ι,σ.H.set k (.dict es true),X'⟩ _ σ.s.toks) (rest.lock a (fJ ds n)) _ _ rfl G rfl rfl rfl ⟨a,_,ea,rfl,eP⟩ (dW.new (σ:=⟨σ.s,(rest.lock a (fJ ds n)).on L m,σ.ι,σ.H.set k (.dict es true),X'⟩) rfl ⟨_,rfl,rfl⟩) ⟨a,ds,n,.head _,?_,⟨_,jM _ rfl,rfl,rfl⟩⟩);have:=bE.mono σ.X.dZ G (.refl _) _ (Ez y);exact this
end
end
section
variable{g:Gl}{S:Sc}{σ τ:Hx g}{it:It}{put:PV→aW→PH→Out aW}{b:aW→PH→Out (cO×aW)}{k i:Nat}{fr:aW}{H:PH}{v:PV}{env:Env}{A:cH}{C:dI}{rest rest':bY}{nss nss':bY}{ι ι':List Addr}{m:Str→Option aF}{L I:Addr}{mS:Expr}{bb:List Stmt}{db:DS}{Q:Flow→aL→Prop}{E N E':aF→aL→Prop}{o:Obj}{K:cO×aW→PH→Out (cO×aW)}{α:Type}
theorem Ev.Qf(V:Ev g S env A C rest)(h:rest'.l=rest.l):Ev g S env A C rest':=by
 have e:rest'.ls=rest.ls:=by unfold bY.ls;rw[h]
 exact⟨V.eo,V.sc,V.ok,V.lam,V.units,V.hand,V.depth,e▸V.frames,e▸V.call⟩
theorem T3(e:gR it i H=none):gI it put b (k+1) i fr H= .fail:=by unfold gI;rw[e]
theorem T1(e:gR it i H=some none):gI it put b (k+1) i fr H= .ok (.next,fr) H:=by unfold gI;rw[e]
def Ha(it:It)(put:PV→aW→PH→Out aW)(b:aW→PH→Out (cO×aW))(k i:Nat)(r:cO×aW)(H:PH):Out (cO×aW):=match r.1 with
 | .next=>gI it put b k i r.2 H| .ret v=> .ok (.ret v,r.2) H
theorem T2(e:gR it i H=some (some v)):gI it put b (k+1) i fr H=(put v fr H).bind fun fr H=>(b fr H).bind (Ha it put b k (i+1)):=by
 conv=>lhs;unfold gI
 rw[e];show(put v fr H).bind _=_;congr 1;funext fr H;congr 1;funext r H;obtain⟨f,fr⟩:=r;cases f<;>rfl
theorem Hx.cD.u9{o:Out aW}{f:aW→PH→Out (cO×aW)}{Q₁:Unit→aL→Prop}(p:σ.cD S env rest ((calm (o.bind f)).bind K) Q E)(k: ∀fr τ,σ.gF env rest' τ→At g S env rest' fr τ→τ.cD S env rest ((calm (f fr τ.H)).bind K) Q E→Q₁ () τ.s):σ.iT S env rest' o Q₁:=by
 cases o with
 |ok fr H'=>exact fun τ l e F=>k fr τ l F (e▸Hx.cD.gD (o:=(calm (f fr H')).bind K) p l)
 |exc c d H'=>exact p.elim|fail=>exact p.elim
theorem Hx.cD.Zn{o:Out (cO×aW)}{Q₁:Flow→aL→Prop}(p:σ.cD S env rest ((calm (o.bind (Ha it put b k i))).bind K) Q E)(kn: ∀fr τ,σ.gF env rest' τ→At g S env rest' fr τ→τ.cD S env rest ((calm (gI it put b k i fr τ.H)).bind K) Q E→Q₁ .next τ.s)
  (kr: ∀v fr b τ,σ.gF env rest' τ→τ.V v b→τ.cD S env rest (K (.ret v,fr) τ.H) Q E→Q₁ (.ret b) τ.s):σ.cD S env rest' o Q₁ E':=by
 cases o with
 |ok a H'=>
  obtain⟨f,fr⟩:=a;cases f with
  |next=>exact fun τ l e F=>kn fr τ l F (e▸Hx.cD.gD (o:=(calm (gI it put b k i fr H')).bind K) p l)
  |ret v=>exact fun w τ l e r=>kr v fr w τ l r (e▸Hx.cD.gD (o:=K (.ret v,fr) H') p l)
 |exc c d H'=>exact p.elim|fail=>exact p.elim
theorem Locked.pre(x:Locked nss nss' ι it)(P:Pre ι ι'):Locked nss nss' ι' it:=by
 induction it using It.casesOn with
 |keys r ks=>obtain⟨d,o,a,b,c⟩:=x;exact⟨d,o,P.get a,b,c⟩|_=>exact x
theorem Locked.free(x:Locked rest rest' ι it):Locked (rest.on L m) (rest'.on L m) ι it:=by
 induction it using It.casesOn with
 |keys r ks=>obtain⟨d,o,a,rfl,c⟩:=x;exact⟨d,o,a,rfl,c⟩|_=>exact bN (·.on L m) x
def Hx.freed(σ:Hx g)(on:σ.nss=rest'.on L m)(x:Locked rest rest' σ.ι it):Hx g:=⟨σ.s,rest.on L m,σ.ι,nT it σ.H,Cx.free (on▸σ.X:Cx g σ.s.heap (rest'.on L m) σ.ι σ.H) x.free (.refl _)⟩
theorem Hx.cD.freed(p:σ.cD S env rest (.ok (.next,fr) (nT it σ.H)) Q E)(F:At g S env rest' fr σ)(x:Locked rest rest' σ.ι it):Q .next σ.s:=by
 obtain⟨m,on,F⟩:=F;exact p (σ.freed on x) ⟨⟨m,rfl⟩,.refl _ _,.refl _,rfl⟩ rfl ⟨m,rfl,F⟩
theorem gg{it:It}{i:Nat}{H:PH}{v:PV}(e:gR it i H=some (some v)): ∀r ks,it= .keys r ks→i+1≤ks.length:=fun r ks hk=>by
 subst hk;unfold gR at e;injection e with e;exact(eF.mp e).1
inductive AL(g:Gl)(S:Sc)(env:Env)(rest rest':bY)(it:It)(go:Nat→Nat→aW→PH→Out (cO×aW))(I:Addr)(Q:Flow→aL→Prop)(E:aF→aL→Prop)(k:Nat):aL→Prop
 |mk (i:Nat) (fr:aW) (σ:Hx g) (o:Obj) (F:At g S env rest' fr σ) (L:Locked rest rest' σ.ι it) (O:dW g σ I o) (R:gO g σ it i I) (hle: ∀r ks,it= .keys r ks→i≤ks.length)
  (p:σ.cD S env rest ((calm (go k i fr σ.H)).bind fun r H=> .ok r (nT it H)) Q E):AL g S env rest rest' it go I Q E k σ.s
theorem AL.turn{i':Nat}{go:Nat→Nat→aW→PH→Out (cO×aW)}(F:At g S env (rest'.lock I o) fr τ)(L:Locked rest rest' τ.ι it)(O:dW g σ I o)(R:gO g σ it i' I)(on: ∃m,σ.nss=rest'.on env.locals m)(G:eA g σ.s.heap τ.s.heap)(P:Pre σ.ι τ.ι)(hle: ∀r ks,it= .keys r ks→i'≤ks.length)
  (p:τ.cD S env rest ((calm (go k i' fr τ.H)).bind fun r H=> .ok r (nT it H)) Q E):AL g S env rest rest' it go I Q E k τ.s:=by
 obtain⟨m,hn,F⟩:=F;obtain⟨m',on⟩:=on;have O₄:=O.after (nss:=rest'.on env.locals m) hn (by rw[on];rfl) (by rw[on];rfl);exact⟨i',fr,τ.unlock (nss:=rest'.on env.locals m) hn,o,⟨m,rfl,F⟩,L,O₄,R.after (τ:=τ.unlock (nss:=rest'.on env.locals m) hn) O.at_ O₄.at_ G P (by rw[on];exact fun _ h=>h),hle,p.gD (rest':=rest') ⟨⟨m,rfl⟩,.refl _ _,.refl _,rfl⟩⟩
def dW.lk(O:dW g σ I o)(on:σ.nss=rest'.on L m):Hx g:=⟨σ.s,(rest'.lock I o).on L m,σ.ι,σ.H,show Cx g σ.s.heap ((rest'.on L m).lock I o) σ.ι σ.H from on▸O.lock⟩
theorem ke{In:aL→Prop}(hp:AI g S mS put)(hb:pF g S bb db)(V:Ev g S env A C rest')(L:Locked rest rest' σ.ι it)(F:At g S env rest' fr σ)(O:dW g σ I o)(R:gO g σ it i I)(hle: ∀r ks,it= .keys r ks→i≤ks.length)
  (p:σ.cD S env rest ((calm (gI it put (db C) (k+1) i fr σ.H)).bind fun r H=> .ok r (nT it H)) Q E) (hI: ∀s,AL g S env rest rest' it (gI it put (db C)) I Q E k s→In s):
  aP (aM g.prog g.w) A (pyNext (.ref I)) (fun r s₁=>match r with
   |none=>aP (aM g.prog g.w) A (execs [] env) (fun f s₃=>Q f s₃) N s₁|some v=>aP (aM g.prog g.w) A (letOwnedTupleGo mS (.ref I) v) (fun _ y7=>aP (aM g.prog g.w) A (assign mS env v) (fun _ s₂=>aP (aM g.prog g.w) A (execs bb env) (fun f s₃=>match f with
    | .next| .cont=>In s₃| .brk=>Q .next s₃| .ret v=>Q (.ret v) s₃) N s₂) N y7) N s₁) N σ.s:=by
 cases e:gR it i σ.H with
 |none=>rw[T3 e]at p;exact p.elim|some op=>
  induction op using Option.casesOn with
  |none=>
   rw[T1 e]at p;refine Jy V.hand O R e hle fun τ l eH=>?_;show aP (aM g.prog g.w) A (execs [] env) (fun f s₃=>Q f s₃) N _;rw[arm_execs_nil];exact bA ((eH▸p.gD (l.toS F)).freed (F.le l) (L.pre l.pre))
  |some q=>
   rw[T2 e]at p;refine Jz V.hand O R e fun v τ o₁ l eH O₁ R₁ r₁=>ji O₁ O₁.at_ ?_;have F₁:=F.le l;obtain⟨m,on,F₁⟩:=F₁;have V':Ev g S env A C (rest'.lock I o₁):=V.Qf rfl;refine hp.2 env A _ V'.eo V.hand fr (O₁.lk on) q v _ _ ⟨m,rfl,F₁⟩ r₁ ?_;refine Hx.cD.u9 (σ:=O₁.lk on) (rest:=rest) (eH▸p.gD (rest':=rest'.lock I o₁) (τ:=O₁.lk on) ⟨⟨m,rfl⟩,l.grow,l.pre,l.sh⟩:) fun T9 τ₂ l₂ F₂ p=>?_;refine hb env A C _ V' T9 τ₂ F₂ _ _ (p.Zn (fun U0 τ₃ l₃ F₃ p=>?_) fun w U0 b τ₃ l₃ r₃ p=>?_)
   ·exact hI _<|AL.turn F₃ (L.pre (l.pre.trans (l₂.pre.trans l₃.pre))) O₁ R₁ ⟨m,on⟩ (l₂.grow.trans l₃.grow) (l₂.pre.trans l₃.pre) (gg e) p
   ·obtain⟨m₃,WH⟩:=l₃.on
    have X:=(Cx.unlock (nss:=rest'.on env.locals m₃) (WH▸τ₃.X)).1;exact p b ⟨τ₃.s,rest.on env.locals m₃,τ₃.ι,nT it τ₃.H,X.free (L.pre (l.pre.trans (l₂.pre.trans l₃.pre))).free (.refl _)⟩ ⟨⟨m₃,rfl⟩,.refl _ _,.refl _,rfl⟩ rfl r₃
theorem kc(hp:AI g S mS put)(hb:pF g S bb db)(V:Ev g S env A C rest)(F:At g S env rest' fr σ)(L:Locked rest rest' σ.ι it)(O:dW g σ I o)(R:gO g σ it 0 I)
  (p:σ.cD S env rest ((calm (gI it put (db C) rE 0 fr σ.H)).bind fun r H=> .ok r (nT it H)) Q E):
  codeAny (aM g.prog g.w) A (.forLoop mS (.ref I) bb [] env) (fun r s'=>match r with| .ok f=>Q f s'| .error e=>cameBackBy (aM g.prog g.w) A env E e s') σ.s:=by
 refine codeAny_forLoop_any (AL g S env rest rest' it (gI it put (db C)) I Q E) ?_ rE ⟨0,fr,σ,o,F,L,O,R,fun _ _ _=>lK _,p⟩;rintro k _ ⟨i,fr,σ,o',F,L,O,R,hle,p⟩
 induction k using Nat.casesOn with
 |zero=>exact p.elim|succ k=>exact ke hp hb (V.Qf L.l) L F O R hle p fun s h=>⟨k,Ay k,h⟩
end
section
variable{g:Gl}{S:Sc}{σ τ:Hx g}{it:It}{put:PV→aW→PH→Out aW}{i:Nat}{fr:aW}{env:Env}{A:cH}{C:dI}{rest:bY}{mS e:Expr}{bb:List Stmt}{db:DS}{d:D}{Q E:aF→aL→Prop}{x:Str}{np pos:Pos}
structure Hx.iS(nb:bY)(σ τ:Hx g):Prop where
 nss:τ.nss=nb
 grow:eA g σ.s.heap τ.s.heap
 pre:Pre σ.ι τ.ι
 sh:τ.s={σ.s with heap:=τ.s.heap,toks:=τ.s.toks}
theorem Hx.iS.toS{L:Addr}{m:Str→Option aF}(l:σ.iS (rest.on L m) τ)(e:env.locals=L):σ.gF env rest τ:=⟨⟨m,e▸l.nss⟩,l.grow,l.pre,l.sh⟩
theorem Hx.iS.trans{nb nb':bY}{υ:Hx g}(l:σ.iS nb' τ)(k:τ.iS nb υ):σ.iS nb υ:=⟨k.nss,l.grow.trans k.grow,l.pre.trans k.pre,by rw[k.sh,l.sh]⟩
theorem Hx.Le.toN(l:σ.Le τ):σ.iS τ.nss τ:=⟨rfl,l.grow,l.pre,l.sh⟩
theorem Hx.gF.toN(l:σ.gF env rest τ):σ.iS τ.nss τ:=⟨rfl,l.grow,l.pre,l.sh⟩
noncomputable def Hx.mG(S:Sc)(env:Env)(rest:bY)(fr:aW)(σ:Hx g)(o:Out It)(Q:aF→aL→Prop)(E:aF→aL→Prop):Prop:=match o with
 | .ok it H=> ∃H',rD it H=some H'∧∀τ rest' I oI m,σ.nss=rest.on env.locals m→σ.iS (rest'.on env.locals m) τ→τ.H=H'→At g S env rest' fr τ→Locked rest rest' τ.ι it→dW g τ I oI→gO g τ it 0 I→Q (.ref I) τ.s| .exc c d H=> ∀e τ,σ.Le τ→τ.H=H→nK τ e c d→E (.ref e) τ.s| .fail=>False
noncomputable def vV(g:Gl)(S:Sc)(e:Expr)(src:dI→aW→PH→Out It):Prop:= ∀(env:Env) (A:cH) (C:dI) (rest:bY),Ev g S env A C rest→∀(fr:aW) (σ:Hx g),At g S env rest fr σ→
 ∀(Q E:aF→aL→Prop),σ.mG S env rest fr (src C fr σ.H) Q E→aP (aM g.prog g.w) A (eval e env) (fun x s₁=>aP (aM g.prog g.w) A (pyIter x) Q E s₁) E σ.s
theorem Hx.mG.bind{α β:Type}{R₁:Hx g→α→β→Prop}{o:Out α}{f:α→PH→Out It}{Q₁:β→aL→Prop}(p:σ.mG S env rest fr (o.bind f) Q E)(F:At g S env rest fr σ)
  (k: ∀a b τ,σ.Le τ→R₁ τ a b→At g S env rest fr τ→τ.mG S env rest fr (f a τ.H) Q E→Q₁ b τ.s):σ.bD R₁ o Q₁ E:=by
 cases o with
 |ok a H'=>
  refine fun b τ l e r=>k a b τ l r (F.le l) ?_;rw[e];have p:σ.mG S env rest fr (f a H') Q E:=p;revert p;generalize f a H'=y;cases y with
  |ok it H=>exact fun⟨H',h,p⟩=>⟨H',h,fun υ rest' I oI m on k=>p υ rest' I oI m (l.nss▸on) (l.toN.trans k)⟩
  |exc c d H=>exact fun p e υ m=>p e υ (l.trans m)
  |fail=>exact fun p=>p
 |exc c d H'=>exact p|fail=>exact p
theorem Hx.mG.ob{α:Type}{o:Option α}{f:α→Out It}{P:Prop}(p:σ.mG S env rest fr (Mine.ob o f) Q E)(k: ∀a,o=some a→σ.mG S env rest fr (f a) Q E→P):P:=by
 cases o with
 |none=>exact p.elim|some a=>exact k a rfl p
theorem Hx.mG.cB{b:Bool}{o:Out It}{P:Prop}(p:σ.mG S env rest fr (Mine.cB b o) Q E)(k:b=true→σ.mG S env rest fr o Q E→P):P:=by
 cases b with
 |false=>exact p.elim|true=>exact k rfl p
theorem Hx.mG.src{o:Out It}{f:It→PH→Out (cO×aW)}{QS:Flow→aL→Prop}(p:σ.cD S env rest (o.bind fun it H=>Mine.ob (rD it H) fun H=>f it H) QS E)(F:At g S env rest fr σ)
  (k: ∀it τ rest' I oI,σ.gF env rest' τ→At g S env rest' fr τ→Locked rest rest' τ.ι it→dW g τ I oI→gO g τ it 0 I→τ.cD S env rest (f it τ.H) QS E→Q (.ref I) τ.s):σ.mG S env rest fr o Q E:=by
 cases o with
 |ok it H=>
  have p:σ.cD S env rest (Mine.ob (rD it H) fun H=>f it H) QS E:=p;exact p.ob fun H' h p=>⟨H',h,fun τ rest' I oI m on l e F L O R=>k it τ rest' I oI (l.toS rfl) F L O R (e▸p.gD (l.toS rfl))⟩
 |exc c d H=>exact fun e τ l=>p e τ (l.toS F)
 |fail=>exact p
theorem m6(he:bK g S e d):vV g S e (lF d):=fun env A C rest V fr σ F Q E p=>
 he env A C rest V fr σ F _ E (p.bind (R₁:=Hx.V) F fun y v τ l r F p=>p.ob fun it h9 ⟨H',hl,k⟩=>by
  obtain⟨m,on,F⟩:=F;exact fp V.ok on r h9 hl fun υ rest' I o hn G ei es eH L O R=>k υ rest' I o m on ⟨hn,G,ei▸ .refl _,by rw[es]⟩ eH ⟨m,hn,ei▸F.mono τ.X.dZ G (.refl _)⟩ (ei▸L) O R)
theorem ve{o r:Obj}{t:Nat}{it:It}(F:At g S env rest fr σ)(hl:Locked rest rest ((σ.push o t).push r t).ι it)(O:dW g ((σ.push o t).push r t) (σ.push o t).s.heap.objs.size r)(R:gO g ((σ.push o t).push r t) it 0 (σ.push o t).s.heap.objs.size)
  (k: ∀τ rest' I oI m,σ.nss=rest.on env.locals m→σ.iS (rest'.on env.locals m) τ→τ.H=σ.H→At g S env rest' fr τ→Locked rest rest' τ.ι it→dW g τ I oI→gO g τ it 0 I→Q (.ref I) τ.s):Q (.ref (σ.push o t).s.heap.objs.size) ((σ.push o t).push r t).s:=
 have L:=(σ.kZ o t).trans ((σ.push o t).kZ r t)
 F.on.elim fun m on=>k _ rest _ r m on (on▸L.toN) rfl (F.le L) hl O R
theorem src_range(hs:S.slot x=some (i,aY))(hg:S.glob x=none)(hx:x=aA "range")(lM:isStar e=false)(he:bK g S e d):
  vV g S (.Call (.Name x np) [e] [] pos) (rN d):=by
 intro env A C rest V fr σ F Q E p;have p':σ.mG S env rest fr ((aC d aH C fr σ.H).bind fun vs H=>Mine.ob (oneOf vs) fun v=>Mine.ob (iO v) fun n=>Mine.cB (decide (0≤n∧n≤aJ)) (.ok (DE n) H)) Q E:=by
  unfold aC aH;rw[Out.bind_assoc];exact p
 refine XJ hs hg (show qW x=some (.type "range") by subst hx;decide) (.cons lM he .nil) V F (p'.bind (R₁:=Hx.Vs) F fun vs b τ l r F p=>p.ob fun y e p=>p.ob fun n en p=>p.cB fun hk p9=>?_);rw[iV en]at e;refine bE.WG (M:=fun b=>aP (aM g.prog g.w) A (call (.type "range") b) _ E τ.s) (MS e▸r:τ.Vs [.int n] b) fun u ru=>Hx.V.int (M:=fun u=>aP (aM g.prog g.w) A (call (.type "range") [u]) _ E τ.s) ru fun t=>?_;obtain⟨H',hl,kk⟩:=p9;injection hl with hl;subst hl;have hk:=cK hk;have zI:=hk.2;rw[vO]at zI;obtain⟨n',rfl⟩:=AJ hk.1;refine call_range_1 ?_;obtain⟨m,on,F⟩:=F;refine wpAny_pyIter_range (jM _ rfl) (small_one (by decide) (by decide) (Tr (by decide: -2^62≤(0:Int)) hk.1) (Int.lt_of_le_of_lt zI (by decide))) ?_;rw[(show aCD 0 (n':Int) 1=(n':Int) by rw[rangeSize_one];split;exact Int.sub_zero _;exact tO hk.1 (AK.mp (by assumption)))];exact ve (o:={cls:= .type "range",data:= .fields #[.int 0 τ.s.toks,.int (n':Int) t,.int 1 (τ.s.toks+1)]}) (t:=τ.s.toks+1+1) (it:=DE n') (⟨m,on,F⟩) rfl (dW.new (σ:=τ.push _ _) rfl ⟨_,rfl,rfl⟩) (.inr ⟨n',rfl,lK _,(jM _ rfl).trans (by simp[rawInt])⟩) kk
theorem d7(gJ: ∀(env:Env) (x:aF),foldedSetIterable e env x=pure x)(hp:AI g S mS put){src:dI→aW→PH→Out It}(hs:vV g S e src)(hb:pF g S bb db):lQ g S (.For mS e bb [] pos) (kE put src db):=fun env A C rest V fr σ F Q E p=>
 wpAny_For (hs env A C rest V fr σ F _ E (Hx.mG.src p F fun it τ rest' I oI l F L O R p=>kc hp hb V F L O R p)) (gJ env)
theorem D0{o:Option (Nat×dK)}{j:Nat}(h:Dg o=some j):o=some (j,.cell):=by
 cases o with
 |none=>exact dB h|some q=>
  obtain⟨i,k⟩:=q
  induction k using dK.casesOn with
  |cell=>exact gQ h▸rfl|_=>exact dB h
theorem jm{k:dK}{oj:Option Nat}{l l':List (Nat×Nat)}{P:Prop}(h:Li k oj i l=some l')(k1: ∀j,k= .free→oj=some j→l'=(i,j)::l→P)(k2:k≠ .cell→k≠ .free→l'=l→P):P:=by
 induction k using dK.casesOn with
 |free=>cases oj with
  |none=>exact dB h|some j=>exact k1 j rfl rfl (gQ h).symm
 |«local»=>exact k2 (nofun) (nofun) (gQ h).symm|globalImplicit=>exact k2 (nofun) (nofun) (gQ h).symm|_=>exact dB h
theorem CN: ∀{names:List (Str×dK)} {k:Nat} {l:List (Nat×Nat)},nY S names k=some l→
  (∀p∈l,∃x,k≤p.1∧names[p.1-k]?=some (x,.free)∧S.slot x=some (p.2,.cell))∧∀y∈names,y.2≠ .cell∧(y.2= .free→∃j,S.slot y.1=some (j,.cell))
 | [],_,_,e=>by injection e with e;subst e;exact⟨(fun p hp=>nomatch hp),(fun p hp=>nomatch hp)⟩
 |(x,kd)::r,k,l,e=>by
  refine cY e fun l' hl e=>?_;obtain⟨h1,h2⟩:=CN hl;have up: ∀p∈l',∃y,k≤p.1∧((x,kd)::r)[p.1-k]?=some (y,.free)∧S.slot y=some (p.2,.cell):=fun p hp=>(h1 p hp).imp fun y q=>⟨Vh q.1,by
   rw[show p.1-k=(p.1-(k+1))+1 from Pg q.1];exact q.2.1,q.2.2⟩
  refine jm e (fun j e1 e2 e3=>?_) fun n1 n2 e3=>?_
  ·have e1:kd= .free:=e1
   subst e1 e3;have e2:=D0 e2;exact⟨fun p hp=>(dJ.mp hp).elim (fun q=>q▸⟨x,fQ _,by rw[yQ];rfl,e2⟩) (up p),fun y hy=>(dJ.mp hy).elim (fun q=>q▸⟨nofun,fun _=>⟨j,e2⟩⟩) (h2 y)⟩
  ·subst e3
   exact⟨up,fun y hy=>(dJ.mp hy).elim (fun q=>q▸⟨n1,fun q=>absurd q n2⟩) (h2 y)⟩
theorem Gv{fr:aW}: ∀{l:List (Nat×Nat)} {k:aW},(nS fr l k).length=k.length
 | [],_=>rfl|(i,j)::r,k=>by unfold nS;rw[Gv,dS]
theorem TC{fr:aW}{i:Nat}{p:PV}: ∀{l:List (Nat×Nat)} {k:aW},(nS fr l k)[i]?=some (some p)→(∃j,(i,j)∈l∧fr[j]?=some (some p))∨k[i]?=some (some p)
 | [],_,e=> .inr e|(i',j)::r,k,e=>by
  unfold nS at e;rcases TC e with⟨j',h1,h2⟩|h
  ·exact .inl ⟨j',.tail _ h1,h2⟩
  ·by_cases hi:i'=i
   ·subst hi
    by_cases hl:i'<k.length
    ·rw[vP hl]at h
     cases q:fr[j]? with
     |none=>rw[q]at h;(injection h with h;injection h)|some o=>
      rw[q]at h;have h:some o=some (some p):=h
      (injection h with h;subst h)
      exact .inl ⟨j,.head _,q⟩
    ·rw[jN (by rw[dS];exact aX 66007515414672 rfl hl)]at h
     injection h
   ·rw[qN hi]at h
    exact .inr h
noncomputable def qX(env:Env):List (Str×dK)→List (Str×Addr)→List (Str×Addr)
 | [],cs=>cs|(x,k)::r,cs=>qX env r (if k== .free then(x,(env.cells.lookup x).getD 0)::cs else cs)
theorem Di{env:Env}{x:Str}: ∀{names:List (Str×dK)} {cs:List (Str×Addr)},((x,gS)∈names∨cs.lookup x=some ((env.cells.lookup x).getD 0))→(qX env names cs).lookup x=some ((env.cells.lookup x).getD 0)
 | [],_,h=>by
  rcases h with h|h
  ·cases h
  ·exact h
 |(y,k)::r,cs,h=>by
  unfold qX;apply Di;rcases h with h|h
  ·rcases dJ.mp h with h|h
   ·cases h
    exact .inr (by rw[aV (show(gS==gS)=true from by decide),gG];simp)
   ·exact .inl h
  ·refine .inr ?_
   split
   ·rw[gG]
    by_cases q:x=y
    ·subst q;simp
    ·rw[show(x==y)=false from dC.mpr q];exact h
   ·exact h
theorem E2{env:Env}{scope:Scope}(h: ∀y∈scope.names,y.2= .free→∃c,env.cells.lookup y.1=some c):closureFor scope env=pure (qX env scope.names []):=by
 have key: ∀(names:List (Str×dK)) (cs:List (Str×Addr)),(∀y∈names,y.2= .free→∃c,env.cells.lookup y.1=some c)→
   (forIn names cs fun(x:Str×dK) (r:List (Str×Addr))=>(if(x.2== .free)=true then do
     let a←cellOf env x.1
     pure (OL ((x.1,a)::r))
    else pure (OL r):Sem (ForInStep (List (Str×Addr)))))=pure (qX env names cs):=by
  intro names
  induction names with
  |nil=>intro cs _;rfl|cons y r ih=>
   intro cs h;obtain⟨x,k⟩:=y;rw[PB];unfold qX;by_cases q:k= .free
   ·subst q
    obtain⟨c,hc⟩:=h (x,.free) (.head _) rfl;dsimp only;rw[aV (show(gS==gS)=true from by decide),aV (show(gS==gS)=true from by decide)];unfold cellOf;rw[hc];exact ih _ fun y hy=>h y (.tail _ hy)
   ·have q': ¬(k==gS)=true:=by cases k<;>first|exact absurd rfl q|decide
    rw[aN q',aN q'];exact ih _ fun y hy=>h y (.tail _ hy)
 have:=key scope.names [] h;unfold closureFor;exact(show _=((forIn scope.names [] fun(x:Str×dK) (r:List (Str×Addr))=>(if(x.2== .free)=true then do
     let a←cellOf env x.1
     pure (OL ((x.1,a)::r))
    else pure (OL r):Sem (ForInStep (List (Str×Addr)))))>>=fun cs=>pure cs)from rfl).trans (by rw[this];rfl)
end
section
variable{g:Gl}{S:Sc}{σ τ:Hx g}{nss nb:bY}{it:It}{i k:Nat}{fr:aW}{env:Env}{A:cH}{C:dI}{rest:bY}{a DD Cf I:Addr}{o:Obj}{h':Heap}{H:PH}{P:Prop}{vs:List aF}{n:Nat}
structure iK(σ:Hx g)(a:Addr):Prop where
 ni:a∉σ.ι
 nn:a∉σ.nss.l.map (·.1)
 nt:a∉g.jR
 np: ∀p∈σ.nss.bU,p.1≠a
 base:g.base.objs.size≤a
theorem Hx.fresh(σ:Hx g)(ha:σ.s.heap.get? a=none)(hb:g.base.objs.size≤a):iK σ a:=by
 have hn: ∀b o,σ.s.heap.get? b=some o→b≠a:=fun b o e q=>by rw[q,ha]at e;injection e
 refine⟨fun q=>?_,fun q=>?_,fun q=>?_,fun p hp=>hn _ _ (σ.X.bU p hp).1,hb⟩
 ·obtain⟨i,hi,e⟩:=PG.mp q
  obtain⟨a',o',e1,e2,_⟩:=σ.X.obj i (σ.H[i]'(σ.X.len▸hi)) (fZ _);exact hn a' o' e2 (gQ (e1.symm.trans ((fZ hi).trans (bN some e))))
 ·obtain⟨p,hp,e⟩:=dY.mp q
  obtain⟨o',_,_,e',_⟩:=σ.X.ns p hp;exact hn _ _ e' e
 ·obtain⟨ps,e⟩:=σ.X.dZ _ q
  exact hn _ _ e rfl
noncomputable def Hx.zN(σ:Hx g)(e:σ.s.heap.get? a=some o)(st:mR o=false)(w:iK σ a)(hs:rX a σ.s.heap h')(t:Nat):Hx g:=⟨{σ.s with heap:=h',toks:=t},σ.nss,σ.ι,σ.H,(σ.X.other e st w.base w.ni w.nn w.nt w.np hs).1⟩
theorem Hx.zO{e:σ.s.heap.get? a=some o}{st:mR o=false}{w:iK σ a}{hs:rX a σ.s.heap h'}{t:Nat}:σ.Le (σ.zN e st w hs t):=⟨rfl,(σ.X.other e st w.base w.ni w.nn w.nt w.np hs).2,.refl _,rfl⟩
def Hx.lk(σ:Hx g)(e:σ.s.heap.get? a=some o)(w:iK σ a):Hx g:=⟨σ.s,σ.nss.lock a o,σ.ι,σ.H,σ.X.lock e (.inr ⟨w.ni,w.nn,w.nt⟩)⟩
theorem Cx.apart{h:Heap}{ι:List Addr}(X:Cx g h (nss.lock a o) ι H)(hd: ∀ds n,o≠fJ ds n):a∉ι∧a∉nss.l.map (·.1)∧a∉g.jR:=by
 refine bQ fun G_ aQ=>?_;rcases(X.bU (a,o) (.head _)).2 with⟨i,es,h1,h2⟩|hh
 ·obtain⟨b,o',e1,e2,ds,n,rfl,_⟩:=X.obj i _ h2
  rw[h1]at e1
  (injection e1 with e1;subst e1)
  have e2:h.get? a=some (fJ ds n):=e2;rw[((X.bU (a,o) (.head _)).1)]at e2
  (injection e2 with e2;subst e2)
  exact absurd rfl (hd ds n)
 ·refine aQ ?_
  exact hh
theorem Hx.Qj(hn:σ.nss=nss.lock a o)(hd: ∀ds n,o≠fJ ds n)(hb:g.base.objs.size≤a)(hp: ∀p∈nss.bU,p.1≠a):iK (σ.unlock hn) a:=
 have q:=Cx.apart (hn▸σ.X:Cx g σ.s.heap (nss.lock a o) σ.ι σ.H) hd
 ⟨q.1,q.2.1,q.2.2,hp,hb⟩
theorem Hx.YB(hn:σ.nss=nss.lock a o):(σ.unlock hn).s.heap.get? a=some o:=(Cx.unlock (hn▸σ.X:Cx g σ.s.heap (nss.lock a o) σ.ι σ.H)).2
noncomputable abbrev Sc.inner(S:Sc)(names:List (Str×dK)):Sc:={S with names:=names}
def uC(scope:Scope)(env:Env)(C:Addr):Env:={newEnv scope C env.globals (qX env scope.names []) env.qual none .none (some env) builtinsNs with scope:=relabel scope env}
theorem MF{x:Str}{k:dK}: ∀{names:List (Str×dK)} {j i:Nat},tA names x j=some (i,k)→names.lookup x=some k
 | [],_,_,e=>by cases e
 |(y,k')::r,j,i,e=>by
  unfold tA at e;rw[gG];split at e
  ·rename_i q;cases e;subst q;simp
  ·rename_i q
   rw[show(x==y)=false from dC.mpr q];exact MF e
theorem Lq{env:Env}{x:Str}{k:dK}: ∀{names:List (Str×dK)},names.lookup x=some k→
  (names.map fun(n,k)=>if(k==gS&&env.scope.kind== .function&&env.kindOf n==some .cell)then(n,jO)else(n,k)).lookup x=some k∨
   (k= .free∧(names.map fun(n,k)=>if(k==gS&&env.scope.kind== .function&&env.kindOf n==some .cell)then(n,jO)else(n,k)).lookup x=some .cell)
 | [],e=>by injection e
 |(y,k')::r,e=>by
  rw[gG]at e;rw[dU];by_cases q:x=y
  ·subst q
   simp at e;subst e;dsimp only;split
   ·rename_i hk
    rw[mW,mW]at hk;have:k'= .free:=by cases k'<;>first|rfl|(exact absurd hk.1.1 (by decide))
    exact .inr ⟨this,by rw[gG];simp⟩
   ·exact .inl (by rw[gG];simp)
  ·rw[show(x==y)=false from dC.mpr q]at e
   have ih:=Lq (env:=env) e;have hy: ∀z:Str×dK,z.1=y→∀l,gZ x (z::l)=gZ x l:=fun z hz l=>by
    rw[gG,hz,show(x==y)=false from dC.mpr q]
   rw[hy _ (by dsimp only;split<;>rfl)];exact ih
theorem D4{scope:Scope}{a:Addr}(eo:jL S env)(hk:scope.kind= .function)(hd:iQ scope.names=true)(hc: ∀y∈scope.names,y.2≠ .cell):jL (S.inner scope.names) (uC scope env a):=
 ⟨hk,eo.glob,eo.blt,hd,fun x i e=>absurd rfl (hc _ (fD (slot_get e))),fun x i k e=>Lq (MF e)⟩
theorem Jf{links:List (Nat×Nat)}{m m':Str→Option aF}{h:Heap}{ι:List Addr}{scope:Scope}{a:Addr}(hl:nY S scope.names 0=some links)(F:nL g S.names env m h ι fr):
  nL g scope.names (uC scope env a) m' h ι (nS fr links (cU scope.names.length none)):=by
 obtain⟨h1,_⟩:=CN hl;have rep: ∀(i:Nat) (p:PV),(cU scope.names.length (none:Option PV))[i]?≠some (some p):=fun i p e=>by
  rw[List.getElem?_replicate]at e;split at e<;>exact nomatch e
 refine⟨fun i x p e f=>?_,fun i x k n e hk f=>?_⟩
 ·refine bQ fun G_ aQ=>?_
  rcases TC f with⟨j,hj,_⟩|f
  ·obtain⟨y,_,q,_⟩:=h1 _ hj
   rw[Bg,e]at q;injection q with q;injection q with _ q;injection q
  ·exact absurd f (rep _ _)
 ·refine bQ fun G_ aQ=>?_
  rcases TC f with⟨j,hj,hv⟩|f
  ·obtain⟨y,_,q,hs⟩:=h1 _ hj
   have hm:=fD q;rw[Bg,e]at q;injection q with q;injection q with q _;subst q;obtain⟨c,wL,wP⟩:=F.fS j x .cell n (slot_get (Sc.slot_of hs).1) (.inl rfl) hv;refine aQ ?_;refine⟨c,?_,wP⟩;show(qX env scope.names []).lookup x=some c;rw[Di (.inl hm),wL];rfl
  ·exact absurd f (rep _ _)
theorem Lj{links:List (Nat×Nat)}{scope:Scope}(hl:nY S scope.names 0=some links)(eo:jL S env):closureFor scope env=pure (qX env scope.names []):=
 E2 fun y hy hf=>by
  obtain⟨j,hs⟩:=((CN hl).2 y hy).2 hf;exact eo.cells y.1 j (Sc.slot_of hs).1
inductive Made(g:Gl)(nb:bY)(σ:Hx g)(acc:List PV)(H:PH)(DD Cf:Addr):aL→Prop
 |mk (τ:Hx g) (vs:List aF) (n:Nat) (mC:Str→Option aF) (oC:Obj) (l:σ.iS nb τ) (e:τ.H=H) (eD:τ.s.heap.get? DD=some (cQ vs n)) (rv:τ.Vs acc vs) (wD:iK τ DD) (hN:τ.s.heap.Ns Cf mC) (eC:τ.s.heap.get? Cf=some oC) (sC:mR oC=false) (wC:iK τ Cf) (ne:Cf≠DD):Made g nb σ acc H DD Cf τ.s
noncomputable def Hx.hG(nb:bY)(σ:Hx g)(o:Out (List PV))(Fin:aF→Addr→aL→Prop)(E:aF→aL→Prop):Prop:=match o with
 | .ok acc H'=> ∀D C s,Made g nb σ acc H' D C s→Fin (.ref D) C s| .exc c d H=> ∀e τ,σ.iS nb τ→τ.H=H→nK τ e c d→E (.ref e) τ.s| .fail=>False
variable{Fin ZN:aF→Addr→aL→Prop}{E N:aF→aL→Prop}{acc:List PV}
theorem Made.le{H:PH}{s:aL}(x:Made g nb τ acc H DD Cf s){nb':bY}(l:σ.iS nb' τ):Made g nb σ acc H DD Cf s:=by
 obtain⟨υ,vs,n,mC,oC,k,e,eD,rv,wD,hN,eC,sC,wC,ne⟩:=x;exact⟨υ,vs,n,mC,oC,l.trans k,e,eD,rv,wD,hN,eC,sC,wC,ne⟩
theorem Hx.hG.le{o:Out (List PV)}{nb':bY}(p:σ.hG nb o Fin E)(l:σ.iS nb' τ):τ.hG nb o Fin E:=by
 cases o with
 |ok a H'=>exact fun D C s x=>p D C s (x.le l)
 |exc c d H'=>exact fun e υ k=>p e υ (l.trans k)
 |fail=>exact p
theorem Hx.hG.fin{o:Out (List PV)}(p:σ.hG nb o Fin E)(k: ∀a c s',Fin a c s'→ZN a c s'):σ.hG nb o ZN E:=by
 cases o with
 |ok a H'=>exact fun D C s x=>k _ _ _ (p D C s x)
 |exc c d H'=>exact p|fail=>exact p
theorem Hx.hG.bind{α β:Type}{R₁:Hx g→α→β→Prop}{o:Out α}{f:α→PH→Out (List PV)}{Q₁:β→aL→Prop}{E':aF→aL→Prop}(p:σ.hG nb (calm (o.bind f)) Fin E)
  (k: ∀a b τ,σ.Le τ→R₁ τ a b→τ.hG nb (calm (f a τ.H)) Fin E→Q₁ b τ.s):σ.bD R₁ o Q₁ E':=by
 cases o with
 |ok a H'=>exact fun b τ l e r=>k a b τ l r (e▸Hx.hG.le (o:=calm (f a H')) p l.toN)
 |exc c d H'=>exact p.elim|fail=>exact p.elim
def sV(src:dI→aW→PH→Out It)(size iv:Nat)(links:List (Nat×Nat))(elt:D):Ds:=fun C fr H=>(src C fr H).bind fun it H=>
 cB (!it.nX) (calm (gA it (fun v H=>elt C (qY fr size iv links v) H) rE 0 [] H))
theorem Nv(src:dI→aW→PH→Out It)(size iv:Nat)(links:List (Nat×Nat))(elt:D):nI src size iv links elt=fun C fr H=>(sV src size iv links elt C fr H).bind fun vs H=> .ok (.ref H.length) (H++[.list vs]):=by
 funext C fr H
 unfold nI sV;rw[Out.bind_assoc];congr 1
 funext it H
 cases it.nX<;>rfl
end
section
variable{g:Gl}{S:Sc}{σ τ:Hx g}{nss nb:bY}{i k:Nat}{fr:aW}{env:Env}{A:cH}{C:dI}{rest:bY}{DD Cf I:Addr}{o o₁:Obj}{h':Heap}{H:PH}{P:Prop}{vs:List aF}{n nd:Nat}{acc:List PV}{gK:It}{Fin:aF→Addr→aL→Prop}{E N:aF→aL→Prop}{Q:aF→aL→Prop}{x:Str}{px pos:Pos}{elt:Expr}
theorem V6{v:aF}(e:σ.s.heap.get? DD=some (cQ vs n))(w:iK σ DD)(hn:vs.length<aJ)
  (h: ∀τ n',σ.Le τ→τ.H=σ.H→τ.ι=σ.ι→tK DD σ.s.heap τ.s.heap→iK τ DD→τ.s.heap.get? DD=some (cQ (vs++[v]) n')→Q .none τ.s):aP (aM g.prog g.w) A (call (.builtin "list.append") [.ref DD,v]) Q E σ.s:=by
 rw[vO]at hn;refine call_meets Br (T:= "list") ⟨_,e,rfl⟩ Wm (Wi _ _) (Se DD vs.toArray n v (by rw[fN];exact bW (sA hn) (by decide))) ⟨e,?_⟩;have hk: ∃j,mE (fun x=>x.push v) (cQ vs n)=cQ (vs++[v]) j:=⟨_,by rw[show vs++[v]=(vs.toArray.push v).toList by simp];rfl⟩;obtain⟨k,hk⟩:=hk;have hs:tK DD σ.s.heap (σ.s.heap.update DD (mE fun x=>x.push v)):=tL ..;refine h (σ.zN e rfl w hs.extBut σ.s.toks) k σ.zO rfl rfl hs ⟨w.ni,w.nn,w.nt,w.np,w.base⟩ ?_;show OM (σ.s.heap.update DD (mE fun x=>x.push v)) DD=_;rw[rY _ e (by rw[hk];rfl),hk]
theorem Ls{k:Nat}{ds:List fM}:cQ vs n≠fJ ds k:=fun q=>absurd (show oK "list"=oK "dict" from bN Obj.cls q) (by decide)
section
variable{it:It}{elt:PV→PH→Out PV}{k i:Nat}{acc:List PV}{H:PH}{v:PV}
theorem F2(e:gR it i H=none):gA it elt (k+1) i acc H= .fail:=by unfold gA;rw[e]
theorem E9(e:gR it i H=some none):gA it elt (k+1) i acc H= .ok acc H:=by unfold gA;rw[e]
theorem F0(e:gR it i H=some (some v))(h:acc.length<aJ):gA it elt (k+1) i acc H=(elt v H).bind fun y H=>gA it elt k (i+1) (acc++[y]) H:=by
 conv=>lhs;unfold gA
 rw[e];exact aV h
theorem F1(e:gR it i H=some (some v))(h: ¬acc.length<aJ):gA it elt (k+1) i acc H= .fail:=by
 unfold gA;rw[e];exact aN h
end
theorem F7{mC:Str→Option aF}(hn:σ.nss=(nb.on Cf mC).lock DD (cQ vs nd))(hD:g.base.objs.size≤DD)(hC:Cf≠DD)(uI: ∀p∈nb.bU,p.1≠DD)(rv:σ.Vs acc vs)(p:σ.hG nb (.ok acc σ.H) Fin E):Fin (.ref DD) Cf σ.s:=by
 have wD:=Hx.Qj hn (fun _ _=>Ls) hD uI;have X3:Cx g σ.s.heap (nb.on Cf mC) σ.ι σ.H:=(σ.unlock hn).X;obtain⟨oC,es,ep,c1,c2,c3⟩:=X3.ns (Cf,mC) (.head _);have He:Cf∉σ.ι:=fun q=>(X3.dis _ q).1 (.head _);refine p DD Cf _ (Made.mk (σ:=σ) ⟨σ.s,nb,σ.ι,σ.H,X3.WO⟩ vs nd mC oC ⟨rfl,.refl _ _,.refl _,rfl⟩ rfl (Hx.YB hn) rv ⟨wD.ni,fun q=>wD.nn (.tail _ q),wD.nt,uI,hD⟩ ⟨oC,es,ep,c1,c2,c3⟩ c1 (by unfold mR;rw[c2]) ⟨He,(hA.mp (show(((Cf,mC)::nb.l).map (·.1)).Nodup from X3.jA)).1,fun q=>?_,fun p hp q=>?_,X3.iU (Cf,mC) (.head _)⟩ hC)
 ·obtain⟨ps,e'⟩:=X3.dZ _ q
  rw[show σ.s.heap.get? Cf=some oC from c1]at e';injection e' with e';subst e';injection c2
 ·rcases(X3.bU p hp).2 with⟨j,pT,h6,_⟩|hh
  ·exact He (q▸X3.mem h6)
  ·exact hh.2.1 (q▸ .head _)
theorem gO.grown{I:Addr}{o:Obj}(gU:gK.nX=false)(R:gO g σ gK i I)(e1:σ.s.heap.get? I=some o)(e2:τ.s.heap.get? I=some o)(G:eA g σ.s.heap τ.s.heap)(P:Pre σ.ι τ.ι):gO g τ gK i I:=by
 have T:=σ.X.dZ
 induction gK using It.casesOn with
 |keys r ks=>injection gU|live r=>
  refine bQ fun G_ aQ=>?_;obtain⟨a,ea,o',h1,r⟩:=R;cases e1.symm.trans h1;refine aQ ?_;exact⟨a,P.get ea,o,e2,r⟩
 |seq l=>
  refine bQ fun G_ aQ=>?_;rcases R with⟨t,vs,n,et,rt,o',h1,r⟩|⟨n,hl,hn,hit⟩
  ·cases e1.symm.trans h1
   refine aQ ?_;exact .inl ⟨t,vs,n,NQ T G et,bE.mono T G P _ rt,o,e2,r⟩
  ·cases e1.symm.trans hit
   refine aQ ?_;exact .inr ⟨n,hl,hn,e2⟩
theorem F8{m₁ m₂:Str→Option aF}{y:PV}{w:aF}(hn:τ.nss=((nb.on Cf m₂).lock DD (cQ vs nd)).lock I o₁)(on:σ.nss=(nb.on Cf m₁).lock DD (cQ vs nd))(O:dW g σ I o₁)(R:gO g σ gK i I)(gU:gK.nX=false)(hD:g.base.objs.size≤DD)(uI: ∀p∈nb.bU,p.1≠DD)
  (G:eA g σ.s.heap τ.s.heap) (P:Pre σ.ι τ.ι) (rv:τ.Vs acc vs) (ry:τ.V y w) (hlen:acc.length<aJ)
  (k: ∀υ NV jZ,υ.nss=(nb.on Cf m₂).lock DD (cQ NV jZ)→τ.iS υ.nss υ→υ.H=τ.H→dW g υ I o₁→gO g υ gK i I→υ.Vs (acc++[y]) NV→Q .none υ.s):
  aP (aM g.prog g.w) A (call (.builtin "list.append") [.ref DD,w]) Q E τ.s:=by
 have O₃:=O.after (nss:=(nb.on Cf m₂).lock DD (cQ vs nd)) hn (by rw[on];rfl) (by rw[on];rfl);refine V6 (σ:=(τ.unlock (nss:=(nb.on Cf m₂).lock DD (cQ vs nd)) hn).unlock (nss:=nb.on Cf m₂) rfl) (Hx.YB (σ:=τ.unlock (nss:=(nb.on Cf m₂).lock DD (cQ vs nd)) hn) (nss:=nb.on Cf m₂) rfl) (Hx.Qj (nss:=nb.on Cf m₂) rfl (fun _ _=>Ls) hD uI) (by rw[rv.length];exact hlen) fun υ n' l eH ei hs w' En=>?_;have Hg:I≠DD:=fun q=>O₃.np (DD,cQ vs nd) (.head _) q.symm;have Ep:υ.s.heap.get? I=some o₁:=(hs.2 _ Hg).trans O₃.at_;have hv:(υ.lk En w').nss=(nb.on Cf m₂).lock DD (cQ (vs++[w]) n'):=by show bY.lock _ _ _=_;rw[l.nss];rfl
 exact k (υ.lk En w') (vs++[w]) n' hv ⟨rfl,l.grow,l.pre,l.sh⟩ eH ⟨Ep,O₃.cls,O₃.fields,O₃.base,ei▸O₃.ni,by rw[hv];exact O₃.nn,O₃.nt,by rw[hv];exact fun p hp=>(dJ.mp hp).elim (fun e=>e▸Hg.symm) fun hp=>O₃.np p (.tail _ hp)⟩
  (R.grown gU O.at_ Ep (G.trans l.grow) (P.trans l.pre)) ((bE.mono τ.X.dZ l.grow l.pre _ rv).append (bE.cons (dH.mono τ.X.dZ l.grow l.pre _ ry) bE.nil))
inductive OD(g:Gl)(S:Sc)(env:Env)(m:Str→Option aF)(nb:bY)(fr:aW)(gK:It)(go:Nat→Nat→List PV→PH→Out (List PV))(I DD Cf:Addr)(Fin:aF→Addr→aL→Prop)(E:aF→aL→Prop)(k:Nat):aL→Prop
 |mk (i:Nat) (acc:List PV) (σ:Hx g) (mC:Str→Option aF) (o:Obj) (vs:List aF) (nd:Nat) (hn:σ.nss=(nb.on Cf mC).lock DD (cQ vs nd)) (F:nL g S.names env m σ.s.heap σ.ι fr) (O:dW g σ I o)
  (R:gO g σ gK i I) (rv:σ.Vs acc vs) (p:σ.hG nb (calm (go k i acc σ.H)) Fin E):OD g S env m nb fr gK go I DD Cf Fin E k σ.s
def dW.UX{mC:Str→Option aF}(O:dW g σ I o)(hn:σ.nss=(nb.on Cf mC).lock DD (cQ vs nd)):Hx g:=⟨σ.s,((nb.lock DD (cQ vs nd)).lock I o).on Cf mC,σ.ι,σ.H,show Cx g σ.s.heap (((nb.on Cf mC).lock DD (cQ vs nd)).lock I o) σ.ι σ.H from hn▸O.lock⟩
theorem G0{scope:Scope}{iv:Nat}{links:List (Nat×Nat)}{d:D}(nW:(S.inner scope.names).slot x=some (iv,.local))(hl:nY S scope.names 0=some links)(sQ:bK g (S.inner scope.names) elt d){m:Str→Option aF}{Rn In:aL→Prop}{mC:Str→Option aF}
  (V: ∀o₁,Ev g (S.inner scope.names) (uC scope env Cf) A C ((nb.lock DD (cQ vs nd)).lock I o₁)) (hn:σ.nss=(nb.on Cf mC).lock DD (cQ vs nd)) (F:nL g S.names env m σ.s.heap σ.ι fr) (gU:gK.nX=false) (O:dW g σ I o) (R:gO g σ gK i I)
  (hD:g.base.objs.size≤DD) (hC:Cf≠DD) (uI: ∀p∈nb.bU,p.1≠DD) (rv:σ.Vs acc vs) (p:σ.hG nb (calm (gA gK (fun v H=>d C (qY fr scope.names.length iv links v) H) (k+1) i acc σ.H)) Fin E) (hR: ∀s',Fin (.ref DD) Cf s'→Rn s')
  (hI: ∀s,OD g S env m nb fr gK (gA gK fun v H=>d C (qY fr scope.names.length iv links v) H) I DD Cf Fin E k s→In s):
  aP (aM g.prog g.w) A (pyNext (.ref I)) (fun r s₁=>match r with
   |none=>Rn s₁|some v=>aP (aM g.prog g.w) A (assign (.Name x px) (uC scope env Cf) v) (fun _ s₂=>aP (aM g.prog g.w) A (eval elt (uC scope env Cf)) (fun x s₃=>aP (aM g.prog g.w) A (call (.builtin "list.append") [.ref DD,x]) (fun _ s₄=>In s₄) N s₃) N s₂) N s₁) N σ.s:=by
 cases e:gR gK i σ.H with
 |none=>rw[F2 e]at p;exact p.elim|some op=>
  induction op using Option.casesOn with
  |none=>
   rw[E9 e]at p;exact Jy (V o).hand O R e (fun r ks q=>by subst q;injection gU) fun τ l eH=>hR _ (F7 (l.nss.trans hn) hD hC uI (Hx.Vs.le rv l) (eH▸p.le l.toN))
  |some q=>
   by_cases hlen:acc.length<aJ
   ·rw[F0 e hlen]at p
    refine Jz (V o).hand O R e fun v τ o₁ l eH O₁ R₁ r₁=>?_;have LJ:=l.nss.trans hn;have F₁:nL g S.names env m τ.s.heap τ.ι fr:=F.mono σ.X.dZ l.grow l.pre;refine PX (xQ (S:=S.inner scope.names) (env:=uC scope env Cf) (rest:=(nb.lock DD (cQ vs nd)).lock I o₁) (σ:=O₁.UX LJ) (fr:=nS fr links (cU scope.names.length none)) (t:= .loc iv) (V o₁).eo (by unfold nC;rw[nW]) ⟨mC,rfl,Jf hl F₁⟩ r₁ ?_);rw[vC,aV (by rw[Gv,AY];exact(eF.mp (slot_get (Sc.slot_of nW).1)).1)];intro τ₂ l₂ e₂ F₂;refine sQ (uC scope env Cf) A _ _ (V o₁) (qY fr scope.names.length iv links q) τ₂ F₂ _ _ ?_;rw[e₂,show(O₁.UX LJ).H=σ.H from eH];refine(p.le (τ:=τ₂) (nb':=τ₂.nss) ⟨rfl,l.grow.trans l₂.grow,l.pre.trans l₂.pre,by rw[l₂.sh];rw[show(O₁.UX LJ).s=τ.s from rfl,l.sh]⟩).bind (R₁:=Hx.V) fun y w τ₃ l₃ r₃ p=>?_;obtain⟨m₃,WH⟩:=l₂.on;have G:=l₂.grow.trans l₃.grow;have P:=l₂.pre.trans l₃.pre;exact F8 (l₃.nss.trans (show τ₂.nss=((nb.on Cf m₃).lock DD (cQ vs nd)).lock I o₁ from WH)) LJ O₁ R₁ gU hD uI G P (bE.mono σ.X.dZ (l.grow.trans G) (l.pre.trans P) _ rv) r₃ hlen fun υ NV jZ LI l' mK O' R' wi=>
     hI _ ⟨i+1,_,υ,m₃,o₁,NV,jZ,LI,nL.mono τ.X.dZ (G.trans l'.grow) (P.trans l'.pre) F₁,O',R',wi,mK▸p.le l'⟩
   ·rw[F1 e hlen]at p;exact p.elim
theorem F3{it:Expr}{scope:Scope}{iv:Nat}{links:List (Nat×Nat)}{d:D}(nW:(S.inner scope.names).slot x=some (iv,.local))(hl:nY S scope.names 0=some links)(hk:scope.kind= .function)(hd:iQ scope.names=true)(sQ:bK g (S.inner scope.names) elt d)
  {m:Str→Option aF} (V:Ev g S env A C rest) {R:Result→aL→Prop} {mC:Str→Option aF} {i₀:Nat}
  (hn:σ.nss=((rest.on env.locals m).on Cf mC).lock DD (cQ vs nd)) (F:nL g S.names env m σ.s.heap σ.ι fr) (gU:gK.nX=false) (O:dW g σ I o) (Rt:gO g σ gK i₀ I)
  (hD:g.base.objs.size≤DD) (hC:Cf≠DD) (uI: ∀p∈rest.bU,p.1≠DD) (rv:σ.Vs acc vs)
  (fuel:Nat) (p:σ.hG (rest.on env.locals m) (calm (gA gK (fun v H=>d C (qY fr scope.names.length iv links v) H) fuel i₀ acc σ.H)) (fun a c s'=>a= .ref DD→c=Cf→R (.ok .next) s') E):
  codeAny (aM g.prog g.w) A (.compLoop (.ListComp elt [⟨.Name x px,it,[],0⟩] scope pos) 0 (.ref I) (.ref DD) (uC scope env Cf)) R σ.s:=by
 have Vc: ∀vs nd o₁,Ev g (S.inner scope.names) (uC scope env Cf) A C (((rest.on env.locals m).lock DD (cQ vs nd)).lock I o₁):=fun vs nd o₁=>by
  refine⟨D4 V.eo hk hd fun y hy=>((CN hl).2 y hy).1,⟨V.sc.glob,V.sc.none_,V.sc.attr,V.sc.attrs,V.sc.xF,V.sc.exc⟩,V.ok,V.lam,V.units,V.hand,V.depth,?_,?_⟩
  ·obtain⟨e₀,outer,h1,h2,h3⟩:=V.frames
   exact⟨e₀,outer,h1,h2,fun e he=>⟨(h3 e he).1,(h3 e he).2.imp fun a q=>⟨.tail _ q.1,q.2⟩⟩⟩
  ·exact fun σ h=>V.call σ fun a q=>h (.tail _ q)
 refine codeAny_compLoop_list (OD g S env m (rest.on env.locals m) fr gK (gA gK fun v H=>d C (qY fr scope.names.length iv links v) H) I DD Cf (fun a c s'=>a= .ref DD→c=Cf→R (.ok .next) s') E) ?_ fuel ⟨i₀,acc,σ,mC,o,vs,nd,hn,F,O,Rt,rv,p⟩;rintro k _ ⟨i,acc,σ,mC',o',vs,nd,hn,F,O,Rt,rv,p⟩
 induction k using Nat.casesOn with
 |zero=>exact p.elim|succ k=>exact G0 nW hl sQ (Vc vs nd) hn F gU O Rt hD hC uI rv p (fun _ h=>h rfl rfl) fun s h=>⟨k,Ay k,h⟩
end
section
variable{g:Gl}{S:Sc}{σ τ:Hx g}{nss nb:bY}{i k:Nat}{fr:aW}{env:Env}{A:cH}{C:dI}{rest:bY}{DD Cf I:Addr}{oI:Obj}{h':Heap}{H:PH}{P:Prop}{vs:List aF}{n nd:Nat}{acc:List PV}{gK:It}{Fin:aF→Addr→aL→Prop}{E N:aF→aL→Prop}{Q:aF→aL→Prop}{x y:Str}{px py pos zV T6:Pos}{elt it:Expr}{scope:Scope}{iv:Nat}{links:List (Nat×Nat)}{d:D}{src:dI→aW→PH→Out It}{t:Tg}
theorem pyIter_self(R:gO g σ gK i I)(hk:gK.nX=false)(h:Q (.ref I) σ.s):aP (aM g.prog g.w) A (pyIter (.ref I)) Q E σ.s:=by
 induction gK using It.casesOn with
 |live r=>obtain⟨a,_,hit⟩:=R;exact wpAny_pyIter_listiter hit h|seq l=>
  rcases R with⟨t,vs,n,_,_,hit⟩|⟨n,_,_,hit⟩
  ·exact wpAny_pyIter_tupleiter hit h
  ·exact wpAny_pyIter_rangeiter hit h
 |keys r ks=>injection hk
theorem mw{z:Str}{k:dK}{names:List (Str×dK)}(hd:iQ names=true)(e:(z,k)∈names):names.lookup z=some k:=by
 induction names with
 |nil=>exact nomatch e|cons a r ih=>
  unfold iQ at hd;rw[mW,yA,AP]at hd;rw[gG];rcases dJ.mp e with q|q
  ·subst q;simp
  ·rw[show(z==a.1)=false from dC.mpr fun w=>hd.1 (z,k) q (by simpa using w)]
   exact ih hd.2 q
theorem Hx.hG.walk{o:Out It}{f:It→PH→Out (List PV)}(p:σ.hG σ.nss (o.bind fun it H=>cB (!it.nX) (calm (f it H))) Fin E)(F:At g S env rest fr σ)
  (k: ∀it τ I oI,σ.Le τ→At g S env rest fr τ→it.nX=false→dW g τ I oI→gO g τ it 0 I→τ.hG τ.nss (calm (f it τ.H)) Fin E→Q (.ref I) τ.s):σ.mG S env rest fr o Q E:=by
 cases o with
 |ok it H=>
  have p:σ.hG σ.nss (cB (!it.nX) (calm (f it H))) Fin E:=p;cases hk:it.nX with
  |true=>rw[hk]at p;exact p.elim|false=>
   rw[hk]at p;refine⟨H,by cases it<;>first|rfl|injection hk,fun τ rest' I oI m on l e F9 L O R=>?_⟩;have hr:rest'=rest:=by cases it<;>first|exact L|injection hk
   subst hr;have en:τ.nss=σ.nss:=l.nss.trans on.symm;exact k it τ I oI ⟨en,l.grow,l.pre,l.sh⟩ F9 hk O R (en▸e▸p.le l)
 |exc c d H=>exact fun e τ l=>p e τ ⟨l.nss,l.grow,l.pre,l.sh⟩
 |fail=>exact p
theorem F5{m:Str→Option aF}{t:Nat}(O:dW g σ I oI)(R:gO g σ gK 0 I)(gU:gK.nX=false)(hn:h'.Ns (σ.s.heap.push (cQ [] 0)).objs.size m)(hk: ∀b o,(σ.s.heap.push (cQ [] 0)).get? b=some o→h'.get? b=some o)
  (k: ∀υ:Hx g,υ.s={σ.s with heap:=h',toks:=t}→υ.H=σ.H→υ.nss=(σ.nss.on (σ.s.heap.push (cQ [] 0)).objs.size m).lock σ.s.heap.objs.size (cQ [] 0)→σ.iS υ.nss υ→dW g υ I oI→gO g υ gK 0 I→iK σ σ.s.heap.objs.size→(σ.s.heap.push (cQ [] 0)).objs.size≠σ.s.heap.objs.size→P):P:=by
 have w:=σ.fresh (BQ _) σ.X.size;have gC:(σ.s.heap.push (cQ [] 0)).objs.size=σ.s.heap.objs.size+1:=ZQ ..;have eD:(σ.s.heap.push (cQ [] 0)).get? σ.s.heap.objs.size=some (cQ [] 0):=jM _ rfl;have KX:(σ.s.heap.push (cQ [] 0)).objs.size≠σ.s.heap.objs.size:=by rw[gC];exact Nat.succ_ne_self _
 have G:eA g σ.s.heap h':=(eA.push _ (cQ [] 0)).trans (.ext hk);have eI:=eJ (cQ [] 0) O.at_;have lt: ∀{b o},σ.s.heap.get? b=some o→b≠(σ.s.heap.push (cQ [] 0)).objs.size:=fun e=>lJ (fI (eJ (cQ [] 0) e));have X:=((σ.X.push (cQ [] 0)).MW hn (fQ _) hk).lock (hk _ _ eD) (.inr ⟨w.ni,fun q=>(dJ.mp q).elim (fun q=>KX q.symm) w.nn,w.nt⟩);exact k ⟨{σ.s with heap:=h',toks:=t},_,σ.ι,σ.H,X⟩ rfl rfl rfl ⟨rfl,G,.refl _,rfl⟩ ⟨hk _ _ eI,O.cls,O.fields,O.base,O.ni,fun q=>(dJ.mp q).elim (lt O.at_) O.nn,O.nt,fun p hp=>(dJ.mp hp).elim (fun e=>e▸(lJ (fI O.at_)).symm) (O.np p)⟩
  (R.grown gU O.at_ (hk _ _ eI) G (.refl _)) w KX
theorem Dm(gJ: ∀(env:Env) (v:aF),foldedSetIterable it env v=pure v)(nW:(S.inner scope.names).slot x=some (iv,.local))(hl:nY S scope.names 0=some links)(hk:scope.kind= .function)(hd:iQ scope.names=true)
  (CC:vV g S it src) (sQ:bK g (S.inner scope.names) elt d) (V:Ev g S env A C rest) {use:Option (aF→Sem Unit)} (F:At g S env rest fr σ) (p:σ.hG σ.nss (sV src scope.names.length iv links d C fr σ.H) (fun a c s'=>compPost (aM g.prog g.w) A E use Q a c (.ok .next) s') E):
  aP (aM g.prog g.w) A (comprehension (.ListComp elt [⟨.Name x px,it,[],0⟩] scope pos) scope env T6 (newList []) false (firstIter [⟨.Name x px,it,[],0⟩] env) use) Q E σ.s:=by
 refine wpAny_comprehension_free (g:=⟨.Name x px,it,[],0⟩) (gs:=[]) rfl (gJ env) (Lj hl V.eo) hk (fun y hy e=>mw hd (e▸hy)) (CC env A C rest V fr σ F _ E (Hx.hG.walk p F fun gK τ I oI l F gU O R p=>?_));refine Ri ?_ (lK _);refine Rh (fun y hy=>((CN hl).2 y hy).1) (fun y hy=>nomatch hy) (fun h₄ hn oO=>?_) hk;have k₄: ∀b o,(τ.s.heap.push (cQ [] 0)).get? b=some o→h₄.get? b=some o:=fun b o e=>(oO.2 b (lJ (fI e))).trans (eJ _ e);refine F5 (t:=τ.s.toks) O R gU hn k₄ fun υ es eH en l' O R w KX=>?_;obtain⟨m,on,F⟩:=F;have loop:=F3 (elt:=elt) (it:=it) (px:=px) (pos:=pos) (E:=E) (x:=x) (fr:=fr)
  (R:=compPost (aM g.prog g.w) A E use Q (.ref τ.s.heap.objs.size) (τ.s.heap.push (cQ [] 0)).objs.size) nW hl hk hd sQ V (m:=m) (by rw[en,on]) (F.mono τ.X.dZ l'.grow l'.pre) gU O R w.base KX (by have:=w.np;rw[on]at this;exact this) (show υ.Vs [] []from bE.nil) rE ?_
 ·exact(fun s (hs:s=υ.s)=>hs▸codeAny_compStart_list loop (pyIter_self R gU loop): ∀s,s=υ.s→codeAny (aM g.prog g.w) A _ _ s) _ es.symm
 ·rw[eH,←on]
  exact(p.le l').fin fun a c s' h q1 q2=>by subst q1 q2;exact h
theorem Hx.adopt(σ:Hx g)(e:σ.s.heap.get? DD=some (cQ vs n))(w:iK σ DD)(rv:σ.Vs acc vs)(k: ∀υ:Hx g,σ.Le υ→υ.s=σ.s→υ.H=σ.H++[.list acc]→υ.ι=σ.ι++[DD]→υ.V (.ref σ.H.length) (.ref DD)→P):P:=by
 rcases σ.X.adopt (po:= .list acc) e w.base w.ni w.nn w.nt ⟨vs,n,rfl,bE.mono σ.X.dZ (.refl g _) (Pre.snoc _ _) _ rv⟩with X|⟨pp,hp,hq⟩
 ·exact k ⟨σ.s,σ.nss,σ.ι++[DD],σ.H++[.list acc],X⟩ ⟨rfl,.refl _ _,.snoc _ _,rfl⟩ rfl rfl rfl (AT (by show(σ.ι++[DD])[σ.H.length]?=_;rw[←σ.X.len];simp))
 ·exact absurd hq (w.np pp hp)
theorem Hx.hG.use{α:Type}{f:List PV→PH→Out α}{R:Hx g→α→aF→Prop}(p:σ.bD R ((sV src i iv links d C fr σ.H).bind f) Q E)(k: ∀acc DD Cf H s,Made g σ.nss σ acc H DD Cf s→σ.bD R (f acc H) Q E→Fin (.ref DD) Cf s):σ.hG σ.nss (sV src i iv links d C fr σ.H) Fin E:=by
 revert p;generalize sV src i iv links d C fr σ.H=o;cases o with
 |ok acc H'=>exact fun p DD Cf s x=>k acc DD Cf H' s x p
 |exc c d H=>exact fun p e τ l=>p e τ ⟨l.nss,l.grow,l.pre,l.sh⟩
 |fail=>exact fun p=>p
theorem Hx.hG.aAT{f:List PV→PH→Out (cO×aW)}{Q:Flow→aL→Prop}(p:σ.cD S env rest ((sV src i iv links d C fr σ.H).bind f) Q E)(F:At g S env rest fr σ)(k: ∀acc DD Cf H s,Made g σ.nss σ acc H DD Cf s→σ.cD S env rest (f acc H) Q E→Fin (.ref DD) Cf s):σ.hG σ.nss (sV src i iv links d C fr σ.H) Fin E:=by
 revert p;generalize sV src i iv links d C fr σ.H=o;cases o with
 |ok acc H'=>exact fun p DD Cf s x=>k acc DD Cf H' s x p
 |exc c d H=>exact fun p e τ l=>p e τ ((⟨l.nss,l.grow,l.pre,l.sh⟩:σ.Le τ).toS F)
 |fail=>exact fun p=>p
theorem Pv(gJ: ∀(env:Env) (v:aF),foldedSetIterable it env v=pure v)(nW:(S.inner scope.names).slot x=some (iv,.local))(hl:nY S scope.names 0=some links)(hk:scope.kind= .function)(hd:iQ scope.names=true)
  (CC:vV g S it src) (sQ:bK g (S.inner scope.names) elt d):bK g S (.ListComp elt [⟨.Name x px,it,[],0⟩] scope pos) (nI src scope.names.length iv links d):=by
 intro env A C rest V fr σ F Q E p;rw[Nv]at p;rw[eval_ListComp];refine Dm (use:=none) gJ nW hl hk hd CC sQ V F (Hx.hG.use p fun acc DD Cf H s x p=>?_);obtain⟨τ,vs,n,mC,oC,l,e,eD,rv,wD,hN,eC,sC,wC,ne⟩:=x;refine⟨mC,hN,fun h'' hs=>?_⟩;refine(τ.zN eC sC wC hs.extBut τ.s.toks).adopt (DD:=DD) (vs:=vs) (n:=n) (acc:=acc) ((hs.2 DD fun q=>ne q.symm).trans eD) ⟨wD.ni,wD.nn,wD.nt,wD.np,wD.base⟩ (rv.le Hx.zO) fun υ l' es eH ei r=>?_;subst e;have:=p _ υ ((⟨l.nss,l.grow,l.pre,l.sh⟩:σ.Le τ).trans (Hx.zO.trans l')) eH r;rw[es]at this;exact this
theorem Oe{ι ι':List Addr}(h:Pre ι ι')(e:ι'.length=ι.length):ι'=ι:=by
 obtain⟨l,rfl⟩:=h;rw[eO]at e;rw[JM.mp (fE (aX 271483794156945552 rfl e) (aS 125894672 rfl):l.length=0),eL]
noncomputable def Lh(H:PH):Out aW→Prop
 | .ok _ H'=>H'.length=H.length|_=>True
theorem uc{p:PV}:Lh H (putAt t p fr H):=by
 cases t with
 |loc i=>unfold putAt;dsimp only;cases decide (i<fr.length)<;>first|exact rfl|exact trivial
 |fS i=>
  unfold putAt;dsimp only;cases CP fr i with
  |none=>exact trivial|some x=>
   show Lh H (Mine.ob (lX H x UE) _);cases lX H x UE with
   |none=>exact trivial|some n=>exact dS
theorem Hx.cD.w0{p:PV}{rest':bY}{f:aW→PH→Out (cO×aW)}{Q:Flow→aL→Prop}{Q₁:Unit→aL→Prop}(h:σ.cD S env rest ((putAt t p fr σ.H).bind f) Q E)(k: ∀fr τ,σ.gF env rest' τ→τ.ι=σ.ι→At g S env rest' fr τ→τ.cD S env rest (f fr τ.H) Q E→Q₁ () τ.s):σ.iT S env rest' (putAt t p fr σ.H) Q₁:=by
 have hc:=DB (t:=t) (p:=p) (fr:=fr) (H:=σ.H);have hl:=uc (t:=t) (p:=p) (fr:=fr) (H:=σ.H);revert h hc hl;generalize putAt t p fr σ.H=o;cases o with
 |ok fr' H'=>exact fun h hd hc τ l e F=>k fr' τ l (Oe l.pre (by rw[τ.X.len,σ.X.len,e];exact hc)) F (e▸Hx.cD.gD (o:=f fr' H') h l)
 |exc c d H'=>exact fun h hc _=>hc.elim
 |fail=>exact fun h _ _=>h
theorem zk(ht:nC S y=some t)(gJ: ∀(env:Env) (v:aF),foldedSetIterable it env v=pure v)(nW:(S.inner scope.names).slot x=some (iv,.local))(hl:nY S scope.names 0=some links)(hk:scope.kind= .function)(hd:iQ scope.names=true)
  (CC:vV g S it src) (sQ:bK g (S.inner scope.names) elt d):lQ g S (.Assign [.Name y py] (.ListComp elt [⟨.Name x px,it,[],0⟩] scope pos) zV) (cW t (nI src scope.names.length iv links d)):=by
 intro env A C rest V fr σ F Q E p;have LR: ∃b,swapsWith (.ListComp elt [⟨.Name x px,it,[],0⟩] scope pos) (some (.Name y py)) zV.line env=pure b:=⟨_,rfl⟩;obtain⟨b,LR⟩:=LR
 induction b using Bool.casesOn with
 |false=>exact aBG (Pv gJ nW hl hk hd CC sQ env A C rest V fr σ F _ E (p.bind (R₁:=Hx.V) F fun y v τ l r F p=>xQ V.eo ht F r (p.store DB fun fr υ l F p=>p.next F))) LR|true=>
  rw[exec_Assign_Name_used _ _ _ _ LR];refine aO (xX (aO ?_));rw[arm_evalThenUse_ListComp];have p:σ.cD S env rest ((sV src scope.names.length iv links d C fr σ.H).bind fun vs H=>(putAt t (.ref H.length) fr (H++[.list vs])).bind fun fr H=> .ok (.next,fr) H) Q E:=by
   have p:σ.cD S env rest ((nI src scope.names.length iv links d C fr σ.H).bind fun v H=>(putAt t v fr H).bind fun fr H=> .ok (.next,fr) H) Q E:=p;rw[Nv]at p;simp only[Out.bind_assoc,Out.eV]at p;exact p
  refine aO (rS (Dm (use:=some (assign (.Name y py) env)) (Q:=fun _ s'=>Q .next s') gJ nW hl hk hd CC sQ V F (Hx.hG.aAT p F fun acc DD Cf H s x p=>?_)) (fun _ s' hq=>bA (bA hq)) fun _ _ e=>e);obtain⟨τ,vs,n,mC,oC,l,e,eD,rv,wD,hN,eC,sC,wC,ne⟩:=x;subst e;refine τ.adopt eD wD rv fun υ l' es eH ei r=>?_;have L:σ.Le υ:=Hx.Le.trans ⟨l.nss,l.grow,l.pre,l.sh⟩ l';have Em:υ.s.heap.get? Cf=some oC:=es▸eC;have AF:iK υ Cf:=⟨by rw[ei];exact fun q=>(oG.mp q).elim wC.ni fun q=>ne (eZ.mp q),by rw[l'.nss];exact wC.nn,wC.nt,by rw[l'.nss];exact wC.np,wC.base⟩;have F':=F.le L;obtain⟨m,on,F'⟩:=F';show aP _ A (assign (.Name y py) env (.ref DD)) _ _ τ.s;rw[←es];have p':=p.gD (L.toS F);rw[←eH]at p';refine PX (xQ (S:=S) (σ:=υ.lk Em AF) (rest:=rest.lock Cf oC) V.eo ht ⟨m,by show bY.lock _ _ _=_;rw[on];rfl,F'⟩ r (Hx.cD.w0 (σ:=υ.lk Em AF) (rest:=rest) (Q:=Q) (E:=E) (f:=fun fr H=> .ok (.next,fr) H) ?_ fun fr' τ₂ l₂ M0 F₂ p=>?_))
  ·exact p'.gD (rest':=rest.lock Cf oC) ⟨⟨m,by show bY.lock _ _ _=_;rw[on];rfl⟩,.refl _ _,.refl _,rfl⟩
  ·obtain⟨m₂,qq,F₂⟩:=F₂
   obtain⟨o1,N8,ep,c1,c2⟩:=hN;have q1:=c1.symm.trans eC;injection q1 with q1;subst q1;have TV:τ₂.nss=(rest.on env.locals m₂).lock Cf o1:=qq;have SB:=Hx.YB TV;refine⟨mC,⟨o1,N8,ep,SB,c2⟩,fun h3 Ir=>?_⟩;have wn:=AF.nn;have wp:=AF.np;rw[on]at wn wp;have w2:iK (τ₂.unlock TV) Cf:=⟨by show Cf∉τ₂.ι;rw[M0];exact AF.ni,wn,AF.nt,wp,AF.base⟩;have k:=Hx.zO (e:=SB) (st:=sC) (w:=w2) (hs:=Ir.extBut) (t:=τ₂.s.toks);exact p ((τ₂.unlock TV).zN SB sC w2 Ir.extBut τ₂.s.toks) ⟨⟨m₂,rfl⟩,k.grow,k.pre,rfl⟩ rfl ⟨m₂,rfl,F₂.mono τ₂.X.dZ k.grow k.pre⟩
end
section
variable{g:Gl}{S:Sc}{σ τ:Hx g}{nss:bY}{fr:aW}{env:Env}{h':Heap}{Q E:aF→aL→Prop}{pos:Pos}{b:Expr}{sc:Scope}{links:List (Nat×Nat)}
theorem bz{b:Bool}{α:Type}{x:α}{y z:Option α}{a:α}{P:Prop}(e:(if b then some x else y)=some a)(h:y=some a→z=some a∨P):(if b then some x else z)=some a∨P:=by
 cases b with
 |true=>exact .inl e|false=>exact h e
theorem Xn{pos pos':Pos}{c cv:aF}{l:List aF}(h:TriplesOk l)(e:codeAmong pos' (l++[rawInt pos.line,rawInt pos.col,c])=some cv):codeAmong pos' l=some cv∨cv=c:=by
 revert h e
 fun_induction TriplesOk l with
 |case1=>
  intro _ e;have e:(if(pos.line==(pos'.line:Int)&&pos.col==(pos'.col:Int))=true then some c else none)=some cv:=e;exact .inr (by split at e<;>cases e;rfl)
 |case2 la ta lb tb d rest ih=>exact fun h e=>bz (b:=la==pos'.line&&lb==pos'.col) e (ih h)
 |case3=>exact fun h=>h.elim
theorem Cx.y9{h h':Heap}{ι:List Addr}{H:PH}(X:Cx g h nss ι H)(O:g.Ok){t:Addr×Addr×Str}(ht:t∈g.tabs){ps:Array aF}(hs:rX t.2.1 h h')(hP:h'.get? t.2.1=some (tabObj ps))(CD:TriplesOk ps.toList)(iX: ∀pos cv,codeAmong pos ps.toList=some cv→oY g h' cv t.2.2):
  Cx g h' nss ι H∧eA g h h':=by
 have hm:t.2.1∈g.jR:=lN ht;have G:eA g h h':=⟨fun a o e _ hn=>hs a o (fun q=>hn (q▸hm)) e⟩;have nA: ∀a∈ι,a≠t.2.1:=fun a ha q=>(X.dis a ha).2.1 (q▸hm);obtain⟨ps₀,e₀,_⟩:=X.tab t ht;refine⟨{stays:=fun b x q=>hs b x (fun z=>by rw[z,(O.tabs t ht).2.1]at q;injection q) (X.stays b x q),ns:=fun p hp=>?_,iU:=X.iU,jA:=X.jA,len:=X.len,kU:=X.kU,dis:=X.dis,mP:=X.mP,bU:=fun p hp=>?_,obj:=fun j p ej=>?_,tab:=fun t' Iv=>?_},G⟩
 ·obtain⟨o₁,es,ep,e1,e2,e3⟩:=X.ns p hp
  exact⟨o₁,es,ep,hs _ _ (fun q=>by rw[q,e₀]at e1;(injection e1 with e1;subst e1);injection e2) e1,e2,e3⟩
 ·obtain⟨h1,hh⟩:=X.bU p hp
  refine⟨hs _ _ (fun q=>?_) h1,hh⟩;rcases hh with⟨i,es,h2,_⟩|hh
  ·exact nA _ (X.mem h2) q
  ·exact hh.2.2 (q▸hm)
 ·obtain⟨b,x,eb,ex,rx⟩:=X.obj j p ej
  exact⟨b,x,eb,hs b x (nA b (X.mem eb)) ex,fO.mono X.dZ G (Pre.refl _) _ rx⟩
 ·by_cases q:t'.2.1=t.2.1
  ·have:t'=t:=by
    have nd:=O.ny;unfold Gl.jR at nd;obtain⟨i,hi⟩:=AW ht;obtain⟨j,hj⟩:=AW Iv;have h1:(g.tabs.map (·.2.1))[i]?=some t.2.1:=by rw[fW,hi];rfl
    have:=(yJ (eF.mp h1).1 nd).mp (h1.trans (show(g.tabs.map (·.2.1))[j]?=some t.2.1 by rw[fW,hj];simp[q]).symm);subst this;rw[hi]at hj;(injection hj with hj;subst hj);rfl
   subst this;exact⟨ps,hP,CD,iX⟩
  ·obtain⟨Of,et,a1,b1⟩:=X.tab t' Iv
   exact⟨Of,hs _ _ q et,a1,fun pos cv z=>(b1 pos cv z).mono G⟩
theorem iy{m:Str→Option aF}{h:Heap}{ι ι':List Addr}(hl:nY S sc.names 0=some links)(F:nL g S.names env m h ι fr)(P:Pre ι ι'):DX ι' sc.names (nS fr links (cU sc.names.length none)) (qX env sc.names []):=
 have F:=Jf (m':=fun _=>none) (a:=0) hl F
 ⟨fun i x n e f=>(F.fS i x .free n e (.inr rfl) f).imp fun c q=>⟨q.1,P.get q.2⟩,fun i x p e f=>(F.loc i x p e f).elim fun v q=>dB q.1⟩
theorem iq{h:Heap}{nss:bY}{ι:List Addr}{H:PH}{a:Addr}{ps:Array aF}(O:g.Ok)(X:Cx g h nss ι H)(hP:h.get? a=some (tabObj ps)):mainGlobals≠a∧h.BuiltinsAt g.mg a:=by
 have T:=O.T;obtain⟨og,es,ep,eg,hd,_⟩:=T.g;refine⟨fun q=>?_,?_⟩
 ·have e:=X.stays _ _ eg
  rw[q,hP]at e;injection e with e;subst e;injection hd
 ·obtain⟨bm,ob,b1,b2,b3,b4,b5,b6⟩:=T.bmain
  refine⟨bm,ob,b1,b2,fun q=>?_,fun q=>?_,X.stays _ _ b3,b4,b5,b6⟩
  ·rw[q,eg]at b3;injection b3 with b3;subst b3;rw[hd]at b6;injection b6
  ·have e:=X.stays _ _ b3
   rw[q,hP]at e;injection e with e;subst e;injection b4
abbrev UQ(g:Gl)(env:Env)(b:Expr)(sc:Scope)(c:Addr)(lR:aF):Obj:=kla_obj (aA "<lambda>") (env.qual++aA "<lambda>") ⟨[],[],none,[],[],none,[]⟩ b sc (qX env sc.names []) ((g.mg "__name__").getD .none) c lR
theorem Ld{c:Addr}(hl:nY S sc.names 0=some links)(hk:sc.kind= .function)(hg:sc.isGenerator=false)(hc:sc.isCoroutine=false){m:Str→Option aF}(F:nL g S.names env m σ.s.heap σ.ι fr)
  (p:σ.bD Hx.V (.ok (.ref σ.H.length) (σ.H++[.lam b sc (nS fr links (cU sc.names.length none))])) Q E) (lR:aF) (tk:Nat) (l:σ.Le τ) (ei:τ.ι=σ.ι) (eH:τ.H=σ.H) (wS:oY g τ.s.heap (.ref c) (env.qual++aA "<lambda>")):Q (.ref τ.s.heap.objs.size) {τ.s with heap:=τ.s.heap.push (UQ g env b sc c lR),toks:=tk}:=by
 have G2:=eA.push (g:=g) τ.s.heap (UQ g env b sc c lR);have Z1:=fun y hy=>((CN hl).2 y hy).1;refine p _ (τ.new (UQ g env b sc c lR) (.lam b sc (nS fr links (cU sc.names.length none))) tk rfl ⟨_,_,c,lR,rfl,wS.mono G2,iy hl F (ei▸Pre.snoc _ _),hk,hg,hc,Z1⟩) (l.trans Hx.xI) (by rw[←eH];rfl) ?_;rw[←eH];exact Hx.HG
theorem g8(hl:nY S sc.names 0=some links)(LF:S.lam=true)(hk:sc.kind= .function)(hg:sc.isGenerator=false)(hc:sc.isCoroutine=false):bK g S (.Lambda ⟨[],[],none,[],[],none,[]⟩ b sc pos) (sW b sc links):=by
 intro env A C rest V fr σ F Q E p;obtain⟨t,ht,KY,hq⟩:=V.lam LF;obtain⟨ps,hP,CD,iX⟩:=σ.X.tab t ht;have t3:=(V.ok.tabs t ht).2.2;have Ib:σ.s.heap.Ns mainGlobals g.mg:=V.ok.T.g.keeps σ.X.stays;have Hr:=Lj hl V.eo;obtain⟨Y2,hb⟩:=iq V.ok σ.X hP;obtain⟨m,on,F⟩:=F;refine kla_eval rfl ?_;cases hf:codeAmong pos ps.toList with
 |some cv=>
  obtain⟨c,o,vs,tk0,q1,q2⟩:=iX pos cv hf;subst q1;refine kla_makeFunctionHit Hr V.eo.glob Ib KY (t3.keeps σ.X.stays) hP CD hf hb fun lR h' tk k _=>?_;exact Ld (τ:=σ.ext k) hl hk hg hc F p lR tk σ.uD rfl rfl (oY.mono (.ext k) (by rw[hq];exact iX pos _ hf))
 |none=>
  refine kla_makeFunction Hr V.eo.glob Ib KY (t3.keeps σ.X.stays) hP CD hf Y2 hb fun c' lR h' tk hx zF LH ak az=>?_;obtain⟨c₂,oc,vs,t0,e2,Z7,hd,hv⟩:=ak;injection e2 with e2;subst e2;have wS:oY g h' (.ref c') (env.qual++aA "<lambda>"):=⟨c',oc,vs,t0,rfl,fun q=>by
   obtain⟨Of,e'⟩:=σ.X.dZ _ q;exact absurd (fI e') (Vl zF),Z7,hd,hv⟩
  have G:eA g σ.s.heap h':=⟨fun a o e _ hn=>hx a o (fun q=>hn (q▸lN ht)) e⟩;have X:=(σ.X.y9 V.ok ht hx az (by rw[Sd];exact TriplesOk_snoc _ _ _ _ CD) (fun pos' cv e=>by
   rw[Sd]at e;rcases Xn CD e with e|rfl
   ·exact(iX pos' cv e).mono G
   ·rw[←hq];exact wS)).1
  exact Ld (τ:=⟨{σ.s with heap:=h'},σ.nss,σ.ι,σ.H,X⟩) hl hk hg hc F p lR tk ⟨rfl,G,.refl _,rfl⟩ rfl rfl wS
end
section
variable{g:Gl}{σ:Hx g}{nss:bY}{prog:Program}{w:World}{A A':cH}{s:aL}{E:aF→aL→Prop}{fs:List Addr}{e c d L a:Addr}{oe o:Obj}{vs:Array aF}{fl:aF}{h h' h₁ h₀:Heap}{ι:List Addr}{H:PH}{Q:Unit→aL→Prop}{env:Env}{outer:List Env}
inductive tY(fs:List Addr)(e:Addr)(oe:Obj)(vs:Array aF)(fl:aF)(h h':Heap):Prop
 |mk (T:Addr) (oT:Obj) (ts:Array aF) (n1:h.objs.size≤T) (n2:T≠e) (n3:h'.get? e=some {oe with data:= .fields (vs.setIfInBounds 1 (.ref T))}) (n4:h'.get? T=some oT) (n5:oT.cls= .type "traceback") (n6:oT.data= .fields ts) (n7:ts[3]?=some fl) (n8:rC ts[1]?=false)
  (n9: ∀b o,b≠e→vs[1]?≠some (.ref b)→b∉fs→h.get? b=some o→h'.get? b=some o) (HE: ∀b o,b∈fs→h.get? b=some o→∃sl,h'.get? b=some {o with slots:=sl})
theorem VE{o:Obj}{vs:Array aF}(f:Array aF→Array aF)(h:o.data= .fields vs):nP f o={o with data:= .fields (f vs)}:=by
 obtain⟨c,d,dt,sl⟩:=o;dsimp only at h;subst h;rfl
theorem Ey{head:aF}{W2:Bool}(lL:A.frames=some (env::outer))(hl:s.heap.FunFrames g.base (env::outer))(hf:env.frame=some L)
  (he:s.heap.get? e=some oe) (hd:oe.data= .fields vs) (gC:1<vs.size) (h: ∀h',tY ((env::outer).filterMap (·.frame)) e oe vs (rawInt L) s.heap h'→Q () {s with heap:=h'}):
  aP (aM prog w) A (do let a←frameOf env;let pl←entryPlaceOf L W2;let b←Te head a .none (rawInt L) .none pl;setField (.ref e) 1 b) Q E s:=by
 have eP:e∉(env::outer).filterMap (·.frame):=fun hm=>by
  obtain⟨_,o,ho,BY⟩:=hl.mem hm;rw[he]at ho;cases ho;exact BY vs hd
 refine aO (wpAny_frameOf_fun lL hl hf fun h₁ hs=>aO (wpAny_entryPlaceOf fun pl ae=>?_));unfold Te newFields;refine aO (vH ?_ (ae.sizeOk5 _ _ _ _ _));obtain⟨oT,LK⟩: ∃oT:Obj,oT={cls:= .type "traceback",dict:=none,data:= .fields ([head,.ref L,.none,rawInt L,.none]++(if pl.isEmpty then cU 6 fR else pl)).toArray}:=⟨_,rfl⟩;have Hw:h₁.get? e=some oe:=(hs.2.1 e eP).trans he;rw[←LK];have Hy:(h₁.push oT).get? e=some oe:=eJ _ Hw;have Hh:h₁.objs.size≠e:=Vk (fI Hw);refine AG Hy hd gC (h _ ?_);have hm:nP (·.setIfInBounds 1 (aR h₁.objs.size)) oe={oe with data:= .fields (vs.setIfInBounds 1 (.ref h₁.objs.size))}:=VE _ hd;refine .mk h₁.objs.size oT ([head,.ref L,.none,rawInt L,.none]++(if pl.isEmpty then cU 6 fR else pl)).toArray ?_ Hh ?_ ?_ (by rw[LK]) (by rw[LK]) rfl rfl (fun b o hb _ uJ e=>?_) (fun b o uJ e=>?_)
 ·rw[hs.1];exact fQ _
 ·rw[rY _ Hy (by rw[hm];rfl),hm]
 ·rw[oF _ _ Hh.symm];exact(jM _ (by rw[LK];rfl))
 ·rw[oF _ _ hb.symm]
  exact eJ _ ((hs.2.1 b uJ).trans e)
 ·obtain⟨sl,h1⟩:=hs.2.2 b o e
  exact⟨sl,by rw[oF _ _ (fun q=>eP (by rw[q];exact uJ))];exact eJ _ h1⟩
theorem Pk(N:tY fs e oe vs (rawInt L) h₀ h₁)(gC:1<vs.size)(k: ∀b o,s.heap.get? b=some o→b≠e→vs[1]?≠some (.ref b)→h₀.get? b=some o)(kn:h₀.objs.size=s.heap.objs.size)(kf: ∀b∈fs,vs[1]?≠some (.ref b)∧b≠e)
  (hq: ∀h',tY fs e oe vs .none s.heap h'→Q () {s with heap:=h'}):aP (aM prog w) A' (setFlight (.ref e) none) Q E {s with heap:=h₁}:=by
 obtain⟨T,oT,ts,n1,n2,n3,n4,n5,n6,n7,n8,n9,HE⟩:=N;rw[kn]at n1;unfold setFlight;refine aO (vG n3 rfl (x:= .ref T) (by rw[DQ,aV rfl,aV gC]) ?_);rw[aV (show(aR T !=fR)=true from rfl)];have h3:=(YW.mp n7).1;refine AG n4 n6 h3 (hq _ ?_);have hm:nP (·.setIfInBounds 3 fR) oT={oT with data:= .fields (ts.setIfInBounds 3 .none)}:=VE _ n6;have new: ∀{b o},s.heap.get? b=some o→T≠b:=fun e' q=>by rw[←q,ZP n1]at e';injection e'
 refine .mk T {oT with data:= .fields (ts.setIfInBounds 3 .none)} (ts.setIfInBounds 3 .none) n1 n2 ((oF _ _ n2).trans n3) (show OM (h₁.update T (nP (·.setIfInBounds 3 fR))) T=_ by rw[rY _ n4 (by rw[hm];rfl),hm]) n5 rfl (by rw[DQ,aV rfl,aV h3]) (by rw[DQ];exact n8) (fun b o hb hv uJ e'=>?_) fun b o uJ e'=>?_
 ·rw[oF _ _ (new e')]
  exact n9 b o hb hv uJ (k b o e' hb hv)
 ·rw[oF _ _ (new e')]
  exact HE b o uJ (k b o e' (kf b uJ).2 (kf b uJ).1)
theorem vM.frames(hl:σ.s.heap.FunFrames g.base (env::outer))(he:σ.s.heap.get? e=some oe)(hd:oe.data= .fields vs)(aT:vM σ e vs[1]?): ∀b∈(env::outer).filterMap (·.frame),vs[1]?≠some (.ref b)∧b≠e:=fun b hb=>by
 obtain⟨_,o,ho,BY⟩:=hl.mem hb;refine⟨fun q=>?_,fun q=>?_⟩
 ·cases aT with
  |none hT=>rw[hT]at q;injection q with q;injection q
  |tb T oT ts h1 h2 h3 h4=>
   rw[h1]at q;injection q with q;injection q with q;subst q;exact BY ts (gQ (ho.symm.trans h3)▸h4.2)
 ·subst q
  exact BY vs (gQ (ho.symm.trans he)▸hd)
theorem Mt(lL:A.frames=some (env::outer))(hl:σ.s.heap.FunFrames g.base (env::outer))(hf:env.frame=some L)
  (he:σ.s.heap.get? e=some oe) (hd:oe.data= .fields vs) (gC:1<vs.size) (aT:vM σ e vs[1]?)
  (hq: ∀h',tY ((env::outer).filterMap (·.frame)) e oe vs .none σ.s.heap h'→Q () {σ.s with heap:=h'}):aP (aM prog w) A (noteFrame (.ref e) env) (fun _ s₂=> ∀A':cH,aP (aM prog w) A' (setFlight (.ref e) none) Q E s₂) E σ.s:=by
 have kf:=aT.frames hl he hd;unfold noteFrame;simp only[hf];cases aT with
 |none hT=>
  refine aO (vG he hd hT ?_);rw[aN (by decide)];exact Ey lL hl hf he hd gC fun h₁ N A'=>Pk N gC (fun b o e _ _=>e) rfl kf hq
 |tb T oT ts h1 h2 h3 h4 h6=>
  refine aO (vG he hd h1 ?_);rw[aV (show(aR T !=fR)=true from rfl)];refine aO (vG h3 h4.2 h6 ?_);rw[aN (show¬((fR==rawInt L)=true)from nofun)];refine aO (AG h3 h4.2 (YW.mp h6).1 ?_);have other: ∀b,b≠T→(σ.s.heap.update T (nP (·.setIfInBounds 3 fR))).get? b=σ.s.heap.get? b:=fun b hb=>oF _ _ hb.symm;exact Ey (s:={σ.s with heap:=σ.s.heap.update T (nP (·.setIfInBounds 3 fR))}) lL (hl.of_keeps fun b o hb BY=>⟨o,(other b fun q=>BY ts (gQ (hb.symm.trans (q▸h3))▸h4.2)).trans hb,rfl⟩) hf ((other e h2.symm).trans he) hd gC fun h₁ N A'=>
   Pk (s:=σ.s) N gC (fun b o e' hb hv=>(other b fun q=>hv (by rw[q];exact h1)).trans e') (Heap.size_after_update ..) kf hq
theorem jc(lL:A.frames=some (env::outer))(hl:σ.s.heap.FunFrames g.base (env::outer))(hf:env.frame=some L)
  (he:σ.s.heap.get? e=some oe) (hd:oe.data= .fields vs) (gC:1<vs.size) (aT:vM σ e vs[1]?)
  (hq: ∀h',tY ((env::outer).filterMap (·.frame)) e oe vs .none σ.s.heap h'→Q () {σ.s with heap:=h'}):aP (aM prog w) A (leaving env (.ref e)) Q E σ.s:=
 aO (rS (Mt lL hl hf he hd gC aT hq) (fun _ _ q=>q A) fun _ _ q=>q)
theorem vM.nw{v:Option aF}(x:vM σ e v):rC v=false:=by
 cases x with
 |none q=>rw[q];rfl|tb T oT ts q=>rw[q];rfl
theorem IJ(hd:o.data= .fields vs)(h1:rC vs[1]?=false)(hc:SJ o.cls=true):mR o=false:=by
 unfold mR;rw[hd];dsimp only;rw[h1,hc,Bool.or_true];rfl
theorem tY.Nu(N:tY fs e oe vs fl σ.s.heap h')(Y1: ∀b∈fs,b∈σ.nss.ls)(he:σ.s.heap.get? e=some oe)(hd:oe.data= .fields vs)(a2:oe.cls= .ref c)(a7:g.base.objs.size≤e)(a8:e∉g.jR)(a9:e∉σ.ι)(pH: ∀p∈σ.nss.bU,p.1≠e)(aT:vM σ e vs[1]?):
  Cx g h' σ.nss σ.ι σ.H∧eA g σ.s.heap h':=by
 have X:=σ.X;obtain⟨T',Na,DL,n1,n2,n3,n4,n5,n6,n7,n8,n9,HE⟩:=N;refine X.others (W:=fun b=>b=e∨vs[1]?=some (.ref b)∨b∈fs) rfl rfl (fun p hp=>?_) (fun b hb=>?_) fun b o hb eb=>n9 b o (fun q=>hb (.inl q)) (fun q=>hb (.inr (.inl q))) (fun q=>hb (.inr (.inr q))) eb
 ·obtain⟨o,es,ep,q1,q2,q3⟩:=X.ns p hp
  by_cases q:p.1∈fs
  ·obtain⟨sl,hs⟩:=HE p.1 o q q1
   exact⟨_,es,ep,hs,q2,q3⟩
  ·have nf: ∀us,o.data≠ .fields us:=fun us q=>by rw[q2]at q;injection q
   refine⟨o,es,ep,n9 p.1 o (fun z=>nf vs (gQ (q1.symm.trans (z▸he))▸hd)) (fun z=>?_) q q1,q2,q3⟩;cases aT with
   |none q=>rw[q]at z;injection z with z;injection z
   |tb T oT ts h1 h2 h3 h4=>
    rw[h1]at z;injection z with z;injection z with z;exact nf ts (gQ (q1.symm.trans (z▸h3))▸h4.2)
 ·rcases hb with rfl|hb|hb
  ·exact⟨oe,he,IJ hd aT.nw (by rw[a2];rfl),a7,a9,a8,pH⟩
  ·cases aT with
   |none q=>rw[q]at hb;injection hb with hb;injection hb
   |tb T oT ts h1 h2 h3 h4 h5 h6 h7 h8 h9 GB=>
    rw[h1]at hb;injection hb with hb;injection hb with hb;subst hb;exact⟨oT,h3,IJ h4.2 h6 (by rw[h4.1];decide),h7,h9,h8,GB⟩
  ·obtain⟨p,hp,e'⟩:=dY.mp (Y1 b hb)
   subst e';exact X.Mu hp
theorem tY.flying(N:tY fs e oe vs .none σ.s.heap h')(hc:tJ g c){dx:Addr}{dd:Nat}(a2:oe.cls= .ref c)(a3:oe.dict=some dx)(a4:σ.ι[dd]?=some dx)(a6:1<vs.size)(a7:g.base.objs.size≤e)(a8:e∉g.jR)(a9:e∉σ.ι)(pH: ∀p∈σ.nss.bU,p.1≠e){τ:Hx g}(eh:τ.s.heap=h')(ei:τ.ι=σ.ι)(ep:τ.nss.bU=σ.nss.bU):nK τ e c dd:=by
 obtain⟨T',Na,DL,n1,n2,n3,n4,n5,n6,n7,n8,n9,HE⟩:=N;have w:=σ.fresh (ZP n1) (bW σ.X.size n1);rw[←eh]at n3 n4;exact⟨hc,_,vs.setIfInBounds 1 (.ref T'),dx,n3,a2,a3,ei▸a4,rfl,by rw[Array.size_setIfInBounds];exact a6,a7,a8,ei▸a9,ep▸pH,.tb T' Na DL (by rw[DQ,aV rfl,aV a6]) n2 n4 ⟨n5,n6⟩ n7 n8 w.base w.nt (ei▸w.ni) (ep▸w.np)⟩
end
theorem Ru{x:Str}: ∀{xs:List Str} {vs:List aF},xs.length=vs.length→x∈xs→((xs.zip vs).lookup x).isSome=true
 | [],_,_,h=>by cases h
 |y::r,[],e,_=>by injection e
 |y::r,v::vs,e,h=>by
  rw[As,gG];by_cases q:x=y
  ·subst q;simp
  ·rw[show(x==y)=false from dC.mpr q]
   exact Ru (by simpa using e) ((dJ.mp h).resolve_left q)
theorem Gp{α β:Type}{f g:α→Option β}: ∀{l:List α},(∀a∈l,f a=g a)→l.filterMap f=l.filterMap g
 | [],_=>rfl|a::r,h=>by rw[EA,EA,h a (.head _),Gp fun b hb=>h b (.tail _ hb)]
theorem Rs: ∀{xs:List Str} {vs:List aF},xs.length=vs.length→xs.Nodup→(xs.filterMap fun n=>((xs.zip vs).lookup n).map (n,·))=xs.zip vs
 | [],_,_,_=>by simp
 |y::r,[],e,_=>by injection e
 |y::r,v::vs,e,h=>by
  rw[hA]at h;rw[As,EA];simp only[gG,fG,pE];congr 1;refine ZK ?_ (Rs (xs:=r) (vs:=vs) (by simpa using e) h.2);refine Gp fun n hn=>?_;have:n≠y:=fun q=>h.1 (q▸hn);rw[show(n==y)=false from dC.mpr this]
noncomputable def HX(p:Arguments):Bool:=p.posonlyargs.isEmpty&&p.vararg.isNone&&p.kwonlyargs.isEmpty&&p.kwarg.isNone
noncomputable def oU(p:Arguments):List Str:=p.args.map (·.arg)
theorem Cq{fd:FuncData}{vs:List aF}(hp:HX fd.params=true)(hd:fd.defaults= .none)(nd:(oU fd.params).Nodup)(e:(oU fd.params).length=vs.length):bindArgs fd ⟨vs,[]⟩=pure ((oU fd.params).zip vs):=by
 obtain⟨nm,qn,⟨po,as,va,ko,kdf,kw,df⟩,bd,sc,gl,cl,J4,kd,dc,pm,an,cd,ct,bl⟩:=fd;have h:=eY.mp hp;have h1:=eY.mp h.1;have h2:=eY.mp h1.1;cases JK.mp h2.1;cases PT.mp h2.2;cases JK.mp h1.2;cases PT.mp h.2;have hd:J4= .none:=hd;subst hd;clear hp h h1 h2;have e:(as.map (·.arg)).length=vs.length:=e;have hn: ¬(decide (vs.length>(as.map (·.arg)).length)&&true)=true:=by rw[e,Bool.and_true,decide_eq_true_iff];exact EK _
 have hm:(((as.map (·.arg)).take (as.map (·.arg)).length).filter fun n=>(((as.map (·.arg)).zip vs).lookup n).isNone)=[]:=by
  rw[List.filter_eq_nil_iff];intro n hn q;have:=Ru (x:=n) e (List.mem_of_mem_take hn);rw[PT.mp q]at this;injection this
 refine ZK (aN hn) ?_;show _=(pure ((as.map (·.arg)).zip vs):Sem _);dsimp only[PE,Uu];generalize nV:Ud _ (_:List aF)=ds;obtain rfl:ds=[]:=nV.symm.trans List.drop_nil;refine ZK (aN (by rw[show([]:List aF).length=0 from rfl,Bg];exact fun q=>absurd ((bN (fun l:List Str=>(!l.isEmpty)) hm).symm.trans q) nofun)) ?_;generalize bg:List.zip (Ud _ (_:List Str)) (_:List aF)=zs;obtain rfl:zs=[]:=bg.symm.trans List.zip_nil_right;exact bN (fun l=>(pure l:Sem (List (Str×aF)))) ((bN (List.filterMap fun n=>((as.map (·.arg)).zip vs|>.lookup n).map (n,·)) (eL _)).trans (Rs e nd))
section
variable{g:Gl}{S:Sc}{σ τ:Hx g}{nb:bY}{env:Env}{A:cH}{C:dI}{E E':aF→aL→Prop}{fr:aW}{H:PH}{x:Str}{kd:dK}{r names:List (Str×dK)}{acc kK:List (Str×Addr)}{ι:List Addr}{α γ δ:Type}{R:Hx g→γ→δ→Prop}{Q:δ→aL→Prop}
noncomputable def Hx.oJ(nb:bY)(R:Hx g→γ→δ→Prop)(σ:Hx g)(o:Out γ)(Q:δ→aL→Prop)(E:aF→aL→Prop):Prop:=match o with
 | .ok a H'=> ∀b τ,σ.iS nb τ→τ.H=H'→R τ a b→Q b τ.s| .exc c d H'=> ∀e τ,σ.iS nb τ→τ.H=H'→nK τ e c d→E (.ref e) τ.s| .fail=>False
theorem Hx.bD.toN{o:Out γ}(p:σ.bD R o Q E):σ.oJ σ.nss R o Q E:=by
 cases o with
 |ok a H'=>exact fun b τ l=>p b τ ⟨l.nss,l.grow,l.pre,l.sh⟩
 |exc c d H'=>exact fun b τ l=>p b τ ⟨l.nss,l.grow,l.pre,l.sh⟩
 |fail=>exact p
theorem Hx.oJ.le{nb':bY}{o:Out γ}(p:σ.oJ nb R o Q E)(l:σ.iS nb' τ):τ.oJ nb R o Q E:=by
 cases o with
 |ok a H'=>exact fun b υ k=>p b υ (l.trans k)
 |exc c d H'=>exact fun b υ k=>p b υ (l.trans k)
 |fail=>exact p
theorem Hx.oJ.store{o:Out aW}{f:aW→PH→Out γ}{Q₁:Unit→aL→Prop}(p:σ.oJ nb R (o.bind f) Q E)(hc:sH o)(k: ∀fr τ,At g S env nb fr τ→τ.oJ nb R (f fr τ.H) Q E→Q₁ () τ.s):σ.iT S env nb o Q₁:=by
 cases o with
 |ok fr H'=>exact fun τ l e F=>k fr τ F (e▸Hx.oJ.le (o:=f fr H') p l.toN)
 |exc c d H'=>exact hc.elim|fail=>exact p
structure yC(names:List (Str×dK))(fr:aW)(acc kK:List (Str×Addr))(ι:List Addr):Prop where
 cell: ∀(i:Nat) (x:Str) (n:Nat),names[i]?=some (x,.cell)→fr[i]?=some (some (.ref n))→∃c,kK.lookup x=some c∧ι[n]?=some c
 keep: ∀x,(∀k,(x,k)∉names)→kK.lookup x=acc.lookup x
 none_: ∀(i:Nat) (x:Str) (k:dK),names[i]?=some (x,k)→k≠ .cell→fr[i]?=some none
 is: ∀x,(x,jO)∈names→∃c,kK.lookup x=some c
theorem yC.D1{n:Nat}{a:Addr}(R:yC r fr ((x,a)::acc) kK ι)(nx: ∀k,(x,k)∉r)(e:ι[n]?=some a):yC ((x,.cell)::r) (some (.ref n)::fr) acc kK ι:=by
 have hx:kK.lookup x=some a:=by rw[R.keep x nx,gG];simp
 refine⟨fun i y m e1 e2=>?_,fun y hy=>?_,fun i y k e1 hk=>?_,fun y hy=>(dJ.mp hy).elim (fun q=>⟨a,by injection q with q;rw[q];exact hx⟩) (R.is y)⟩
 ·cases i with
  |zero=>
   injection e1 with e1;injection e1 with e1;injection e2 with e2;injection e2 with e2;injection e2 with e2;exact⟨a,e1▸hx,e2▸e⟩
  |succ i=>exact R.cell i y m e1 e2
 ·rw[R.keep y fun k q=>hy k (.tail _ q),gG,show(y==x)=false from dC.mpr fun q=>hy .cell (q▸ .head _)]
 ·cases i with
  |zero=>injection e1 with e1;injection e1 with _ e1;exact absurd e1.symm hk
  |succ i=>exact R.none_ i y k e1 hk
theorem yC.ol(R:yC r fr acc kK ι)(hk:kd≠ .cell):yC ((x,kd)::r) (none::fr) acc kK ι:=by
 refine⟨fun i y m e1 e2=>?_,fun y hy=>R.keep y fun k q=>hy k (.tail _ q),fun i y k e1 hk=>?_,fun y hy=>(dJ.mp hy).elim (fun q=>absurd (by injection q with _ q;exact q.symm) hk) (R.is y)⟩
 ·cases i with
  |zero=>injection e2 with e2;injection e2
  |succ i=>exact R.cell i y m e1 e2
 ·cases i with
  |zero=>rfl|succ i=>exact R.none_ i y k e1 hk
theorem nq(h:iQ ((x,kd)::r)=true):(∀j,(x,j)∉r)∧iQ r=true:=by
 unfold iQ at h;rw[mW,yA,AP]at h;exact⟨fun j hj=>h.1 (x,j) hj (cC rfl),h.2⟩
theorem ez{k:dK}(h:isCellK k=true):k= .cell:=by
 induction k using dK.casesOn with
 |cell=>rfl|_=>exact uX h
theorem ey{k:dK}(h:isCellK k=false):k≠ .cell:=fun q=>by rw[q]at h;exact VH h
theorem D2{M:Model}{Q:List (Str×Addr)→aL→Prop}(f:Str×dK→List (Str×Addr)→Sem (ForInStep (List (Str×Addr))))
  (hf: ∀name kind cells,f (name,kind) cells=if kind== .cell then(do let a←alloc {cls:= .type "cell",data:= .cell none};pure (.yield ((name,a)::cells)))else pure (.yield cells)) (nd:iQ names=true)
  (h: ∀τ kK,σ.Le τ→τ.H=(kM names σ.H).2→yC names (kM names σ.H).1 acc kK τ.ι→Q kK τ.s):aP M A (forIn names acc f) Q E σ.s:=by
 induction names generalizing acc σ with
 |nil=>
  rw[Al];exact bA (h σ acc .refl rfl ⟨(fun _ _ _ e=>dB e),(fun _ _=>rfl),(fun _ _ _ e=>dB e),fun _ e=>nomatch e⟩)
 |cons y r ih=>
  obtain⟨x,k⟩:=y;obtain⟨nx,nr⟩:=nq nd;rw[PB,hf];unfold kM at h;dsimp only at h;cases hk:isCellK k with
  |true=>
   rw[hk]at h;have hk:=ez hk;subst hk;rw[aV (show(jO==jO)=true from rfl)];refine aO (aO (Qz (bA ?_)));exact ih (σ:=σ.new {cls:= .type "cell",data:= .cell none} (.cell none) σ.s.toks rfl ⟨none,rfl,trivial⟩) nr fun τ kK l e R=>h τ kK ((Hx.xI (σ:=σ) (o:={cls:= .type "cell",data:= .cell none}) (po:= .cell none) (t:=σ.s.toks) (hf:=rfl) (r:=⟨none,rfl,trivial⟩)).trans l) e (R.D1 nx (l.pre.get (by show(σ.ι++[σ.s.heap.objs.size])[σ.H.length]?=_;rw[←σ.X.len];simp)))
  |false=>
   rw[hk]at h;have hk:=ey hk;rw[aN (show¬(k==jO)=true from fun q=>hk (by cases k<;>first|rfl|exact uX q))];exact aO (bA (ih nr fun τ kK l e R=>h τ kK l e (R.ol hk)))
theorem I7{xs:List Str}{ts:List Tg}(e:BE S xs=some ts):ts.length=xs.length:=by
 induction xs generalizing ts with
 |nil=>injection e with e;subst e;rfl
 |cons x r ih=>exact cY e fun t _ e=>kA (M:=fun ts=>ts.length=(x::r).length) e fun q e=>bN (· +1) (ih e)
theorem ub{ts:List Tg}{ps:List PV}(h: ∀o,putAll ts ps fr H=o→o≠ .fail):ts.length=ps.length:=by
 induction ts generalizing ps fr H with
 |nil=>cases ps with
  |nil=>rfl|cons p ps=>exact absurd rfl (h _ rfl)
 |cons t ts ih=>cases ps with
  |nil=>exact absurd rfl (h _ rfl)|cons p ps=>
   have hc:=DB (t:=t) (p:=p) (fr:=fr) (H:=H);have h:((putAt t p fr H).bind fun fr H=>putAll ts ps fr H)≠ .fail:=h _ rfl;revert h hc;cases putAt t p fr H with
   |ok fr' H'=>exact fun _ h=>bN (· +1) (ih fun o e q=>h (e.trans q))
   |exc c d H'=>exact fun hc _=>hc.elim
   |fail=>exact fun _ h=>absurd rfl h
theorem sw{Q:PUnit→aL→Prop}(eo:jL S env)(f:Str×aF→PUnit→Sem (ForInStep PUnit))(hf: ∀n v u,f (n,v) u=(do storeName env n v;pure (.yield ⟨⟩))){xs:List Str}{ts:List Tg}{vs:List aF}{ps:List PV}
  (e:BE S xs=some ts) (F:At g S env nb fr σ) (r:σ.Vs ps vs) (p:σ.iT S env nb (putAll ts ps fr σ.H) Q):aP (aM g.prog g.w) A (forIn (xs.zip vs) ⟨⟩ f) Q E σ.s:=by
 induction xs generalizing ts vs ps fr σ with
 |nil=>
  injection e with e;subst e;cases ps with
  |cons a b=>exact p.elim|nil=>
   rw[List.zip_nil_left,Al];exact bA (p σ (Hx.Le.refl.toS F) rfl F)
 |cons x xs ih=>
  refine cY e fun t ht e=>?_;revert p;refine kA (M:=fun ts=>σ.iT S env nb (putAll ts ps fr σ.H) Q→_) e fun DL LS p=>?_;cases ps with
  |nil=>exact p.elim|cons q qs=>
   obtain⟨v,r',rfl,r1,r2⟩:=r;rw[As,PB,hf];exact aO (aO (xQ eo ht F r1 (p.bind fun fr τ l F p=>bA (ih LS F (show τ.Vs qs r' from bE.mono σ.X.dZ l.grow l.pre _ r2) p))))
theorem ng{scope:Scope}{xs:List Str}{ts:List Tg}{vs:List aF}{ps:List PV}{qual:Str}{func:Option Addr}{code:aF}{QE:Env→aL→Prop}{f:aW→PH→Out γ}
  (hn:S.names=scope.names) (nd:iQ scope.names=true) (hk:scope.kind= .function) (ht:BE S xs=some ts) (r:σ.Vs ps vs) (p:σ.oJ σ.nss R ((putAll ts ps (kM scope.names σ.H).1 (kM scope.names σ.H).2).bind f) Q E')
  (k: ∀env fr τ,jL S env→env.scope=scope→env.frame=some env.locals→env.qual=qual→env.code=code→At g S env σ.nss fr τ→τ.oJ σ.nss R (f fr τ.H) Q E'→QE env τ.s):aP (aM g.prog g.w) A (newFunctionEnv scope mainGlobals [] (xs.zip vs) qual func code none builtinsNs) QE E σ.s:=by
 simp only[newFunctionEnv,Option.isSome_none,xZ,if_false];refine aO (Qz ?_);have X1:Cx g (σ.s.heap.push {cls:= .type "frame",data:= .dict #[]}) (σ.nss.on σ.s.heap.objs.size fun _=>none) σ.ι σ.H:=σ.X.MW (Heap.Ns.new σ.s.heap (.type "frame")) (fQ _) fun b o e=>eJ _ e;refine aO (D2 (σ:=⟨{σ.s with heap:=σ.s.heap.push {cls:= .type "frame",data:= .dict #[]}},_,σ.ι,σ.H,X1⟩) _ (fun name kind cells=>by cases kind==jO<;>simp) nd fun τ kK l eH C=>?_);have eH:τ.H=(kM scope.names σ.H).2:=eH;have G:eA g σ.s.heap τ.s.heap:=(eA.push _ _).trans l.grow;have L:σ.iS τ.nss τ:=⟨rfl,G,l.pre,l.sh⟩;have eo:jL S (newEnv scope σ.s.heap.objs.size mainGlobals kK qual func code none builtinsNs):=
  ⟨hk,rfl,rfl,by rw[hn];exact nd,fun x i e=>C.is x (by rw[hn]at e;exact fD (slot_get e)),fun x i k e=> .inl (by rw[hn]at e;exact MF e)⟩
 have F:nL g S.names (newEnv scope σ.s.heap.objs.size mainGlobals kK qual func code none builtinsNs) (fun _=>none) τ.s.heap τ.ι (kM scope.names σ.H).1:=by
  rw[hn];refine⟨fun i x p e f=>?_,fun i x k n e eM f=>eM.elim (fun q=>C.cell i x n (q▸e) f) fun q=>?_⟩
  ·rw[C.none_ i x _ e nofun]at f;injection f with f;injection f
  ·rw[C.none_ i x _ e (by rw[q];exact nofun)]at f;injection f with f;injection f
 refine aO (sw (nb:=σ.nss) (fr:=(kM scope.names σ.H).1) eo _ (fun _ _ _=>rfl) ht ⟨_,l.nss,F⟩ (show τ.Vs ps vs from bE.mono σ.X.dZ G l.pre _ r) (Hx.oJ.store (R:=R) (f:=f) (Q:=Q) (E:=E') ?_ WP fun fr υ F p=>bA (k _ fr υ eo rfl rfl rfl rfl F p)));rw[eH];exact p.le L
end
section
variable{g:Gl}{S:Sc}{σ τ:Hx g}{nb:bY}{env e₀:Env}{A:cH}{C:dI}{E E':aF→aL→Prop}{fr:aW}{envs outer:List Env}{n:Nat}{ls Lr:List Addr}{L e c:Addr}{d:Nat}{rest:bY}{m:Str→Option aF}{R:Result→aL→Prop}{as:List PV}{vs:List aF}{a:Addr}
noncomputable def IY(g:Gl)(C:dI)(n:Nat):Prop:= ∀(A:cH) (envs:List Env) (σ:Hx g),kH A envs σ.nss.ls n→∀(f:PV) (as:List PV) (fv:aF) (vs:List aF) (R:Result→aL→Prop),
 σ.V f fv→σ.Vs as vs→σ.bD Hx.V (C f as σ.H) (fun v s'=>R (.ok (.ret v)) s') (fun e s'=>R (.error e) s')→codeAny (aM g.prog g.w) A (.call fv ⟨vs,[]⟩) R σ.s
theorem IY.plain(h:IY g C n):AH g C n:=fun A envs σ ha f as fv vs _ _ rf ra p=>DP (h A envs σ ha f as fv vs _ rf ra p)
theorem TG(σ:Hx g): ∀{envs:List Env},(∀env∈envs,env.scope.kind= .function∧∃a∈σ.nss.ls,env.frame=some a)→σ.s.heap.FunFrames g.base envs
 | [],_=>trivial|env::r,hf=>by
  refine bQ fun G_ aQ=>?_;obtain⟨hk,a,ha,e⟩:=hf env (.head _);obtain⟨p,hp,rfl⟩:=dY.mp ha;obtain⟨o,es,ep,q1,q2,_⟩:=σ.X.ns p hp;refine aQ ?_;exact⟨by rw[hk];decide,⟨p.1,o,e,Cm (σ.X.iU p hp),q1,fun vs q=>by rw[q2]at q;injection q⟩,TG σ fun env he=>hf env (.tail _ he)⟩
theorem Gw(hf: ∀env∈envs,env.scope.kind= .function∧∃a∈ls,env.frame=some a): ∀b∈envs.filterMap (·.frame),b∈ls:=fun b hb=>by
 obtain⟨env,he,e⟩:=Ao.mp hb;obtain⟨_,a,ha,e'⟩:=hf env he;exact gQ (e.symm.trans e')▸ha
noncomputable def Hx.pop(τ:Hx g)(on:τ.nss=nb.on L m):Hx g:=⟨τ.s,nb,τ.ι,τ.H,Cx.WO (on▸τ.X:Cx g τ.s.heap (nb.on L m) τ.ι τ.H)⟩
theorem Hx.gF.pop(l:σ.gF env nb τ)(on:τ.nss=nb.on env.locals m):σ.iS nb (τ.pop on):=⟨rfl,l.grow,l.pre,l.sh⟩
theorem Lg{Q:Unit→aL→Prop}(lL:A.frames=some (env::outer))(hf:env.frame=some L)(on:σ.nss=nb.on L m)
  (sR: ∀e∈env::outer,e.scope.kind= .function∧∃a∈L::nb.ls,e.frame=some a) (F:nK σ e c d)
  (h: ∀τ,σ.iS nb τ→τ.H=σ.H→nK τ e c d→Q () τ.s):aP (aM g.prog g.w) A (leaving env (.ref e)) Q E σ.s:=by
 have Hz: ∀e∈env::outer,e.scope.kind= .function∧∃a∈σ.nss.ls,e.frame=some a:=by rw[on];exact sR
 obtain⟨hc,oe,vs,dx,a1,a2,a3,a4,a5,a6,a7,a8,a9,pH,aT⟩:=F;refine jc (g:=g) lL (TG σ Hz) hf a1 a5 a6 aT fun h' N=>?_;have q:=N.Nu (Gw Hz) a1 a5 a2 a7 a8 a9 pH aT;exact h ⟨{σ.s with heap:=h'},nb,σ.ι,σ.H,Cx.WO (on▸q.1:Cx g h' (nb.on L m) σ.ι σ.H)⟩ ⟨rfl,q.2,.refl _,rfl⟩ rfl (N.flying hc a2 a3 a4 a6 a7 a8 a9 pH rfl rfl (show nb.bU=σ.nss.bU by rw[on];rfl))
inductive FnAt(g:Gl)(a:Addr)(F:Fn):Prop
 |mk (name qual:Str) (params:Arguments) (body:List Stmt) (scope:Scope) (kV doc pm:aF) (an:Option Addr) (uB ct:aF) (oc:aF) (od:Option Addr) (oS:_) (lam:Bool) (uL:g.K.lookup a=some ⟨oc,od,.func (fnOf name qual params body scope .none kV doc pm an uB ct),oS⟩) (iX:codeIn g.K uB qual=true) (GO:HX params=true) (Ii:(oU params).Nodup)
  (hk:scope.kind= .function) (zE:scope.isCoroutine=false) (zG:scope.isGenerator=false) (Hv:iQ scope.names=true) (Ih:F.names=scope.names) (UB:BE {g.M.sc with names:=scope.names,lam:=lam} (oU params)=some F.vF)
  (hb:pF g {g.M.sc with names:=scope.names,lam:=lam} body F.body) (LF:lam=true→∃t∈g.tabs,uB= .ref t.1∧(qual++ ".<locals>.")++aA "<lambda>"=t.2.2)
structure ClsAt(g:Gl)(c i:Addr):Prop where
 makes:makesIn g.K c=true
 init:findIn g.K (.ref c) "__init__"=some (some (.ref i))
 fn:typeIn g.K (.ref i)=some (.type "function")
 cls:DR g c
structure yM(g:Gl):Prop where
 fn: ∀a F,g.M.fn a=some F→FnAt g a F
 sm: ∀a F,g.M.sm a=some F→FnAt g a F
 cls: ∀a i,g.M.cls a=some (some i)→ClsAt g a i
 sc:sD g g.M.sc
 lam:g.M.sc.lam=false
 sT: ∀(S:Sc) (e:Expr) (d:D),g.M.sT S e=some d→bK g S e d
theorem sD.inner{names:List (Str×dK)}{lam:Bool}(x:sD g S):sD g {S with names:=names,lam:=lam}:=⟨x.glob,x.none_,x.attr,x.attrs,x.xF,x.exc⟩
theorem kH.mono(a:kH A envs ls n)(h:ls ⊆ Lr):kH A envs Lr n:=⟨a.frames,a.hand,a.depth,a.units,fun e he=>⟨(a.fns e he).1,(a.fns e he).2.imp fun _ q=>⟨h q.1,q.2⟩⟩⟩
theorem kH.deeper(a:kH A envs ls (n+1))(hk:env.scope.kind= .function)(hf:env.frame=some L):kH (A.deeper env) (env::envs) (L::ls) n where
 frames:=YT a.frames
 hand:=a.hand
 depth:=by have:=a.depth;show A.depth+1+3*n+20<_;exact id (aX 5373968658955776121887793280762304652149606673 rfl this)
 units:=by have:A.units+(100*n+100)+400<cLine:=a.units;show A.units+3+100*n+400<_;exact id (aX 356338733498163301361277957537449654145295403281 rfl this)
 fns:=fun e he=>(dJ.mp he).elim (fun q=>q▸⟨hk,L,.head _,hf⟩) fun he=>⟨(a.fns e he).1,(a.fns e he).2.imp fun _ q=>⟨.tail _ q.1,q.2⟩⟩
theorem kH.under{vals:List aF}(a:kH A envs ls (n+1)):kH (A.under (.builtin "type.__call__" ⟨.ref c::vals,[]⟩)) envs ls n where
 frames:=a.frames
 hand:=a.hand
 depth:=by have:=a.depth;show A.depth+1+3*n+20<_;exact id (aX 5373968658955776121887793280762304652149606673 rfl this)
 units:=by have:A.units+(100*n+100)+400<cLine:=a.units;show A.units+1+100*n+400<_;exact id (aX 356338733498163301361277957537449654145161185553 rfl this)
 fns:=a.fns
theorem Ev.of(eo:jL S env)(sc:sD g S)(O:g.Ok)(lam:S.lam=true→∃t∈g.tabs,env.code= .ref t.1∧env.qual++aA "<lambda>"=t.2.2)(a:kH A (env::outer) (env.locals::rest.ls) n)(hC:AH g C n):Ev g S env A C rest:=
 ⟨eo,sc,O,lam,by have:=a.units;exact id (aX 81022047538283166560360010854434065 rfl this),a.hand,by have:=a.depth;exact id (aX 610949502884976149683509651309841 rfl this),⟨_,_,a.frames,rfl,a.fns⟩,fun σ h f as fv vs Q E=>hC A _ σ (a.mono h) f as fv vs Q E⟩
theorem Gl.Ok.noLimit(O:g.Ok)(σ:Hx g):σ.s.heap.NoLimit:=(O.T.nolimit).keeps σ.X.stays
theorem Zo{body:List Stmt}{d:DS}(hf:env.frame=some env.locals)(hb:pF g S body d)
  (sR: ∀e∈env::envs,e.scope.kind= .function∧∃a∈env.locals::nb.ls,e.frame=some a) (V:Ev g S env (A.deeper env) C nb) (lL:A.frames=some envs) (F:At g S env nb fr σ)
  (p:σ.oJ nb Hx.V ((d C fr σ.H).bind fun r H=> .ok (WV r.1) H) (fun v s'=>R (.ok (.ret v)) s') (fun e s'=>R (.error e) s')):codeAny (aM g.prog g.w) A (.func body env) R σ.s:=by
 refine codeAny_func (hb env (A.deeper env) C nb V fr σ F _ _ ?_);revert p;generalize d C fr σ.H=o;cases o with
 |fail=>exact fun p=>p
 |exc c k H'=>exact fun p e τ l eH fl=>l.on.elim fun m on=>Lg (YT lL) hf on sR fl fun υ l' mK sO=>p e υ ((l.pop on).trans ⟨l'.nss,l'.grow,l'.pre,l'.sh⟩) (mK.trans eH) sO
 |ok r H'=>
  obtain⟨fl,fr'⟩:=r;cases fl with
  |next=>exact fun p τ l eH _=>l.on.elim fun m on=>p .none (τ.pop on) (l.pop on) eH AS
  |ret v=>exact fun p u τ l eH r=>l.on.elim fun m on=>p u (τ.pop on) (l.pop on) eH r
theorem Gs{F:Fn}(O:g.Ok)(MO:yM g)(hF:FnAt g a F)(hC:AH g C n)(ha:kH A envs σ.nss.ls (n+1))(ra:σ.Vs as vs)
  (p:σ.bD Hx.V (jC F C as σ.H) (fun v s'=>R (.ok (.ret v)) s') (fun e s'=>R (.error e) s')):codeAny (aM g.prog g.w) A (.call (.ref a) ⟨vs,[]⟩) R σ.s:=by
 obtain⟨name,qual,params,body,scope,kV,doc,pm,an,uB,ct,oc,od,oS,lam,uL,iX,GO,Ii,hk,zE,zG,Hv,Ih,UB,hb,LF⟩:=hF;have KI:=σ.stays O;have p:=p.toN;unfold jC at p;have hlen:F.vF.length=as.length:=ub (fr:=(kM F.names σ.H).1) (H:=(kM F.names σ.H).2) fun o e q=>by
  rw[e,q]at p;exact p.elim
 refine codeAny_call_function (body:=body) (by have:=ha.depth;exact id (aX 610949502851755837797076455981201 rfl this)) (KI _ _ uL) rfl zE zG rfl (codeRec_of KI iX) ?_;rw[Cq (fd:=fnOf name qual params body scope .none kV doc pm an uB ct) GO rfl Ii (by rw[←I7 UB,hlen,ra.length])];rw[Ih]at p;refine bA (ng (S:={g.M.sc with names:=scope.names,lam:=lam}) rfl Hv hk UB ra p fun env fr τ eo es ef eq ec F p=>?_);have hd:=ha.deeper eo.kind ef;exact⟨O.noLimit τ,Zo ef hb hd.fns (Ev.of eo MO.sc.inner O (fun hl=>(LF hl).imp fun t q=>⟨q.1,ec.trans q.2.1,by rw[eq];exact q.2.2⟩) hd hC) ha.frames F p⟩
theorem Xu{x:PV}{r:Nat}(h:Cd x=some r):x= .ref r:=by
 induction x using PV.casesOn with
 |ref r=>exact bN _ (gQ h)|_=>exact dB h
theorem aBC{H:PH}{x:PV}{t:Nat×Nat×List PV×Int}{P:Prop}(h:NW H x=some t)(k: ∀w q ns k,t=(w,q,ns,k)→x= .ref w→H[w]?=some (.list [.ref q,.int k])→H[q]?=some (.list ns)→ns.all pZ=true→q≠w→P):P:=
 cY h fun p e1 h=>cY h fun ab e2 h=>cY h fun n e3 h=>cY h fun j e4 h=>by
  obtain⟨h1,h2⟩:=listAt_eq e1;obtain⟨h3,h4⟩:=listAt_eq e3;revert k;refine nH (M:=fun t=>(∀w q ns k,t=(w,q,ns,k)→x= .ref w→H[w]?=some (.list [.ref q,.int k])→H[q]?=some (.list ns)→ns.all pZ=true→q≠w→P)→P) h fun c k=>?_;have c:=eY.mp c;exact k p.1 n.1 n.2 j rfl h1 (by rw[h2,(DM e2),h3,(iV e4)]) h4 c.1 (cK c.2)
theorem aBD{H:PH}{t:List PV×Int}(h:IT H=some t):H[0]?=some (.list t.1)∧t.1.all pZ=true∧H[1]?=some (.list [.ref 0,.int t.2]):=
 cY h fun n e1 h=>cY h fun p e2 h=>cY h fun ab e3 h=>cY h fun z e4 h=>cY h fun j e5 h=>by
  obtain⟨h1,h2⟩:=listAt_eq e1;obtain⟨h3,h4⟩:=listAt_eq e2;refine nH (M:=fun t=>H[0]?=some (.list t.1)∧t.1.all pZ=true∧H[1]?=some (.list [.ref 0,.int t.2])) h fun c=>?_;have c:=eY.mp c;injection h1 with h1;injection h3 with h3;exact⟨h1▸h2,c.1,by rw[h3,h4,(DM e3),(Xu e4),(iV e5),cK c.2]⟩
theorem Jj{ι ι':List Addr}{h:Heap}{l:List PV}{vs:List aF}(hi:l.all pZ=true)(r:bE g h ι l vs):bE g h ι' l vs:=by
 induction l generalizing vs with
 |nil=>exact r|cons p l ih=>
  have hi:=eY.mp hi;obtain⟨v,r',rfl,r1,r2⟩:=(show∃v r',vs=v::r'∧dH g h ι p v∧bE g h ι l r' from r);obtain⟨a,e⟩:=vU.mp hi.1;rw[iV e]at r1⊢;exact bE.cons r1 (ih hi.2 r2)
theorem Qs{ι ι':List Addr}{h:Heap}{q q':Nat}{k:Int}{o:Obj}{a:Addr}(e:ι[q]?=some a)(e':ι'[q']?=some a)(r:fO g h ι (.list [.ref q,.int k]) o):fO g h ι' (.list [.ref q',.int k]) o:=by
 refine bQ fun G_ aQ=>?_;obtain⟨vs,n,ho,v,r',rfl,⟨b,eb,rfl⟩,r2⟩:=r;cases e.symm.trans eb;refine aQ ?_;exact⟨_,n,ho,_,r',rfl,⟨a,e',rfl⟩,r2⟩
theorem Hx.small{w q:Nat}{ns:List PV}{k:Int}{aw aq:Addr}{P:Prop}(σ:Hx g)(hw:σ.H[w]?=some (.list [.ref q,.int k]))(hq:σ.H[q]?=some (.list ns))(hi:ns.all pZ=true)(ne:q≠w)(ew:σ.ι[w]?=some aw)(eq:σ.ι[q]?=some aq)
  (kk: ∀σ':Hx g,σ'.s=σ.s→σ'.ι=[aq,aw]→σ'.H=[.list ns,.list [.ref 0,.int k]]→σ'.nss.l=σ.nss.l→(∀p∈σ.nss.bU,p∈σ'.nss.bU)→(∀i a o,σ.ι[i]?=some a→i≠q→i≠w→σ.s.heap.get? a=some o→(a,o)∈σ'.nss.bU)→P):P:=by
 have X:=σ.X;have eP: ∀{i:Nat} {a:Addr},σ.ι[i]?=some a→i≠q→i≠w→¬(a=aq∨a=aw):=fun e h1 h2 h=>h.elim (fun h=>h1 (X.ix e (h▸eq))) fun h=>h2 (X.ix e (h▸ew));have Lx: ∀{a:Addr},a∈[aq,aw]→a∈σ.ι:=fun h=>(dJ.mp h).elim (fun e=>e▸fD eq) fun h=>eZ.mp h▸fD ew;have Ms: ∀{a:Addr},¬(a=aq∨a=aw)→a∉[aq,aw]:=fun h q=>h ((dJ.mp q).imp id eZ.mp);refine kk ⟨σ.s,⟨σ.nss.l,(σ.ι.filterMap fun a=>if a=aq∨a=aw then none else(σ.s.heap.get? a).map (a,·))++σ.nss.bU⟩,[aq,aw],[.list ns,.list [.ref 0,.int k]],?_⟩ rfl rfl rfl rfl (fun p hp=>tS _ hp) fun i a o e h1 h2 ho=>JN _ (Ao.mpr ⟨a,fD e,by rw[aN (eP e h1 h2),ho];rfl⟩);refine {stays:=X.stays,ns:=X.ns,iU:=X.iU,jA:=X.jA,len:=rfl,kU:=?_,dis:=fun a ha=>X.dis a (Lx ha),mP:=X.mP,bU:=fun p hp=>?_,obj:=fun i po e=>?_,tab:=X.tab}
 ·exact hA.mpr ⟨fun h=>ne (X.ix eq (eZ.mp h▸ew)),hA.mpr ⟨nofun,mD⟩⟩
 ·refine bQ fun G_ aQ=>?_
  rcases oG.mp hp with hp|hp
  ·obtain⟨a,ha,e⟩:=Ao.mp hp
   by_cases c:a=aq∨a=aw
   ·rw[aV c]at e
    injection e
   ·rw[aN c]at e
    obtain⟨o,ho,e⟩:=lO.mp e;subst e;refine aQ ?_;exact⟨ho,.inr ⟨Ms c,(X.dis a ha).1,(X.dis a ha).2.1⟩⟩
  ·have x:=X.bU p hp
   refine aQ ?_;refine⟨x.1,.inr (x.2.elim (fun⟨i,es,e1,e2⟩=>?_) fun y=>⟨fun m=>y.1 (Lx m),y.2⟩)⟩;have d:=X.dis p.1 (fD e1);exact⟨Ms (eP e1 (fun h=>by rw[h,hq]at e2;injection e2 with e2;injection e2) fun h=>by rw[h,hw]at e2;injection e2 with e2;injection e2),d.1,d.2.1⟩
 ·cases i with
  |zero=>
   refine bQ fun G_ aQ=>?_;injection e with e;subst e;obtain⟨b,o,e1,e2,vs,n,ho,rl⟩:=X.obj q _ hq;cases eq.symm.trans e1;refine aQ ?_;exact⟨aq,o,rfl,e2,vs,n,ho,Jj hi rl⟩
  |succ i=>
   cases i with
   |zero=>
    refine bQ fun G_ aQ=>?_;injection e with e;subst e;obtain⟨b,o,e1,e2,r⟩:=X.obj w _ hw;cases ew.symm.trans e1;refine aQ ?_;exact⟨aw,o,rfl,e2,Qs eq rfl r⟩
   |succ i=>injection e
theorem Hx.back{w q:Nat}{ns MM:List PV}{k k':Int}{aw aq:Addr}{P:Prop}{σ' τ':Hx g}(σ:Hx g)(hw:σ.H[w]?=some (.list [.ref q,.int k]))(hq:σ.H[q]?=some (.list ns))(ne:q≠w)(ew:σ.ι[w]?=some aw)(eq:σ.ι[q]?=some aq)
  (es:σ'.s=σ.s) (ei:σ'.ι=[aq,aw]) (el:σ'.nss.l=σ.nss.l) (ep: ∀p∈σ.nss.bU,p∈σ'.nss.bU) (eo: ∀i a o,σ.ι[i]?=some a→i≠q→i≠w→σ.s.heap.get? a=some o→(a,o)∈σ'.nss.bU) (l:σ'.Le τ') (h0:τ'.H[0]?=some (.list MM)) (hi:MM.all pZ=true) (h1:τ'.H[1]?=some (.list [.ref 0,.int k']))
  (kk: ∀τ:Hx g,σ.Le τ→τ.s=τ'.s→τ.H=(σ.H.set q (.list MM)).set w (.list [.ref q,.int k'])→P):P:=by
 have X:=σ.X;have Y:=τ'.X;have G:eA g σ.s.heap τ'.s.heap:=es▸l.grow;have p0:τ'.ι[0]?=some aq:=l.pre.get (by rw[ei];rfl);have p1:τ'.ι[1]?=some aw:=l.pre.get (by rw[ei];rfl);have other: ∀{j:Nat},j≠q→j≠w→((σ.H.set q (.list MM)).set w (.list [.ref q,.int k']))[j]?=σ.H[j]?:=fun h1 h2=>by rw[qN (gH h2),qN (gH h1)]
 refine kk ⟨τ'.s,σ.nss,σ.ι,_,{stays:=Y.stays,ns:=fun p hp=>Y.ns p (by rw[l.nss,el];exact hp),iU:=X.iU,jA:=X.jA,len:=by rw[dS,dS];exact X.len,kU:=X.kU,dis:=X.dis,mP:=X.mP,bU:=fun p hp=>⟨(Y.bU p (by rw[l.nss];exact ep p hp)).1,(X.bU p hp).2.imp (fun⟨i,es,e1,e2⟩=>⟨i,es,e1,?_⟩) id⟩,obj:=fun j po e=>?_,tab:=Y.tab}⟩ ⟨rfl,G,.refl _,by rw[l.sh,es]⟩ rfl rfl
 ·refine bQ fun G_ aQ=>?_
  by_cases jw:j=w
  ·subst jw
   rw[vP (by rw[dS];exact(eF.mp hw).1)]at e;injection e with e;subst e;obtain⟨b,o,e1,e2,r⟩:=Y.obj 1 _ h1;cases p1.symm.trans e1;refine aQ ?_;exact⟨aw,o,ew,e2,Qs p0 eq r⟩
  ·by_cases jq:j=q
   ·subst jq
    rw[qN (gH jw),vP (eF.mp hq).1]at e;injection e with e;subst e;obtain⟨b,o,e1,e2,vs,n,ho,rl⟩:=Y.obj 0 _ h0;cases p0.symm.trans e1;refine aQ ?_;exact⟨aq,o,eq,e2,vs,n,ho,Jj hi rl⟩
   ·rw[other jq jw]at e
    obtain⟨b,o,e1,e2,r⟩:=X.obj j _ e;refine aQ ?_;exact⟨b,o,e1,(Y.bU (b,o) (by rw[l.nss];exact eo j b o e1 jq jw e2)).1,fO.mono X.dZ G (.refl _) _ r⟩
 ·rw[other (fun h=>by rw[h,hq]at e2;injection e2 with e2;injection e2) fun h=>by rw[h,hw]at e2;injection e2 with e2;injection e2]
  exact e2
theorem Xr{x:PV}{r:Bool}(h:EU x=some r):x= .bool r:=by
 induction x using PV.casesOn with
 |bool r=>exact bN _ (gQ h)|_=>exact dB h
theorem yp{F:Fn}{x:PV}{t:Nat×Nat×List PV×Int}(O:g.Ok)(MO:yM g)(hF:FnAt g a F)(hC:AH g C n)(ha:kH A envs σ.nss.ls (n+1))(ra:σ.Vs [x] vs)(ht:NW σ.H x=some t)
  (p:σ.bD Hx.V (IG (jC F C) σ.H t) (fun v s'=>R (.ok (.ret v)) s') (fun e s'=>R (.error e) s')):codeAny (aM g.prog g.w) A (.call (.ref a) ⟨vs,[]⟩) R σ.s:=by
 revert p ra;refine aBC ht fun w q ns k et ex hw hq hi ne ra p=>?_;subst et ex;obtain⟨v,r',rfl,r1,r2⟩:=(show∃v r',vs=v::r'∧σ.V (.ref w) v∧σ.Vs [] r' from ra);cases(show r'=[]from r2);refine r1.ref (M:=fun v=>codeAny (aM g.prog g.w) A (.call (.ref a) ⟨[v],[]⟩) R σ.s) fun aw ew=>σ.at hq (fZ (σ.X.len▸(eF.mp hq).1)) fun _ _ _=>?_;have eq:=fZ (l:=σ.ι) (i:=q) (σ.X.len▸(eF.mp hq).1);refine σ.small hw hq hi ne ew eq fun σ' es ei eH el ep eo=>?_;rw[←es];refine Gs O MO hF hC (show kH A envs σ'.nss.ls (n+1) by unfold bY.ls;rw[el];exact ha) (show σ'.Vs [.ref 1] [.ref aw]from bE.cons (AT (by rw[ei];rfl)) bE.nil) ?_;unfold IG at p;rw[eH];revert p;dsimp only;generalize jC F C [.ref 1] [.list ns,.list [.ref 0,.int k]]=o;cases o with
 |fail=>exact fun p=>p
 |exc c d H'=>exact fun p=>p.elim
 |ok v H'=>
  refine fun p b τ' l e9 r=>?_;have p:σ.bD Hx.V (ob (EU v) fun b=>ob (IT H') fun e=> .ok (.bool b) ((σ.H.set q (.list e.1)).set w (.list [.ref q,.int e.2]))) (fun v s'=>R (.ok (.ret v)) s') (fun e s'=>R (.error e) s'):=p;refine p.ob fun bb e1 p=>p.ob fun e e2 p9=>?_;obtain⟨y0,y1,y2⟩:=aBD e2;subst e9;rw[Xr e1]at r;refine Hx.back (σ':=σ') (τ':=τ') σ hw hq ne ew eq es ei el ep eo l y0 y1 y2 fun τ l' pT mK=>?_;rw[r.bool,←pT];exact p9 (.bool bb) τ l' mK pG
theorem Hx.cx{P:Prop}(σ:Hx g)(hc:DR g a)(k: ∀υ,σ.Le υ→υ.s={σ.s with heap:=(σ.s.heap.push emptyDict).push (instObj a σ.s.heap.objs.size)}→υ.H=σ.H++[.ns [],.inst a σ.H.length]→υ.V (.ref (σ.H.length+1)) (.ref (σ.s.heap.objs.size+1))→P):P:=by
 have e1:fO g (σ.s.heap.push emptyDict) (σ.ι++[σ.s.heap.objs.size]) (.ns []) emptyDict:=⟨[],0,rfl,.nil,mD⟩;obtain⟨τ,eτ⟩: ∃τ,τ=σ.new emptyDict (.ns []) σ.s.toks rfl e1:=⟨_,rfl⟩;have es:τ.s={σ.s with heap:=σ.s.heap.push emptyDict}:=by rw[eτ];rfl
 have eH:τ.H=σ.H++[.ns []]:=by rw[eτ];rfl
 have ei:τ.ι=σ.ι++[σ.s.heap.objs.size]:=by rw[eτ];rfl
 have L:σ.Le τ:=eτ▸Hx.xI;have hs:τ.s.heap.objs.size=σ.s.heap.objs.size+1:=by rw[es];exact ZQ ..
 have hl:τ.H.length=σ.H.length+1:=by rw[eH];exact eO
 have e2:fO g (τ.s.heap.push (instObj a σ.s.heap.objs.size)) (τ.ι++[τ.s.heap.objs.size]) (.inst a σ.H.length) (instObj a σ.s.heap.objs.size):=⟨σ.s.heap.objs.size,by rw[ei,←σ.X.len];simp,rfl,hc⟩;have v:=Hx.HG (σ:=τ) (po:= .inst a σ.H.length) (t:=τ.s.toks) (hf:=rfl) (r:=e2);rw[hs,hl]at v;refine k (τ.new (instObj a σ.s.heap.objs.size) (.inst a σ.H.length) τ.s.toks rfl e2) (L.trans Hx.xI) ?_ ?_ v
 ·show aL.mk (τ.s.heap.push _) _ _ _ _=_
  rw[es]
 ·show τ.H++[.inst a σ.H.length]=_
  rw[eH,cM];rfl
theorem E5{i:Addr}(O:g.Ok)(hc:ClsAt g a i)(hC:IY g C n)(ha:kH A envs σ.nss.ls (n+1))(ra:σ.Vs as vs)
  (p:σ.bD Hx.V ((C (.aE (.ref i)) (.ref (σ.H.length+1)::as) (σ.H++[.ns [],.inst a σ.H.length])).bind fun v H'=>ob (BB v) fun _=> .ok (.ref (σ.H.length+1)) H') (fun v s'=>R (.ok (.ret v)) s') (fun e s'=>R (.error e) s')):
  codeAny (aM g.prog g.w) A (.call (.ref a) ⟨vs,[]⟩) R σ.s:=by
 have KI:=σ.stays O;refine make_core (makes_of KI hc.makes) (looks_findIn KI hc.init) (fun self=>bind_fn KI self hc.fn) (.inl rfl) ?_;refine σ.cx hc.cls fun υ L es eH rx=>?_;have q:=hC (A.under (.builtin "type.__call__" ⟨.ref a::vs,[]⟩)) envs υ (by rw[L.nss];exact ha.under) (.aE (.ref i)) (.ref (σ.H.length+1)::as) (.ref i) (.ref (σ.s.heap.objs.size+1)::vs) (InitBack (σ.s.heap.objs.size+1) R) JV (bE.cons rx (ra.le L)) ?_
 ·rw[es]at q;exact q
 ·rw[eH]
  rw[eH]at*;refine(p.le L).bind (R₁:=Hx.V) fun v u τ l r p=>p.ob fun _ e p9=>?_;rw[PM e]at r;exact⟨r.none,p9.now (rx.le l)⟩
theorem iu{b:Expr}{names:List (Str×dK)}{dd:D}(O:g.Ok)(MO:yM g)(GE:bK g {g.M.sc with names:=names} b dd)(hC:AH g C n)(hd:kH (A.deeper env) (env::envs) (env.locals::nb.ls) n)(lL:A.frames=some envs)(hf:env.frame=some env.locals)(eo:jL {g.M.sc with names:=names} env)(F:At g {g.M.sc with names:=names} env nb fr τ)
  (p:τ.oJ nb Hx.V (dd C fr τ.H) (fun v s'=>R (.ok (.ret v)) s') (fun e s'=>R (.error e) s')):codeAny (aM g.prog g.w) A (.expr b env) R τ.s:=by
 refine kla_codeExpr (GE env (A.deeper env) C nb (Ev.of eo (MO.sc.inner (lam:=g.M.sc.lam)) O (fun hl=>absurd (show g.M.sc.lam=true from hl) (by rw[MO.lam];exact nofun)) hd hC) fr τ F _ _ ?_);obtain⟨m,on⟩:=F.on;revert p;generalize dd C fr τ.H=o;cases o with
 |fail=>exact fun p=>p
 |exc c k H'=>exact fun p e υ l eH fl=>Lg (YT lL) hf (l.nss.trans on) hd.fns fl fun υ' l' mK sO=>p e υ' ⟨l'.nss,l.grow.trans l'.grow,l.pre.trans l'.pre,by rw[l'.sh,l.sh]⟩ (mK.trans eH) sO
 |ok v H'=>exact fun p u υ l eH r=>p u (υ.pop (l.nss.trans on)) ⟨rfl,l.grow,l.pre,l.sh⟩ eH r
theorem ir{r:Nat}{b:Expr}{sc:Scope}{dd:D}(O:g.Ok)(MO:yM g)(hd:iQ sc.names=true)(GE:bK g {g.M.sc with names:=sc.names} b dd)(hC:AH g C n)(ha:kH A envs σ.nss.ls (n+1))
  (e:σ.H[r]?=some (.lam b sc fr)) {fv:aF} (rf:σ.V (.ref r) fv) (p:σ.bD Hx.V (dd C fr σ.H) (fun v s'=>R (.ok (.ret v)) s') (fun e s'=>R (.error e) s')):codeAny (aM g.prog g.w) A (.call fv ⟨[],[]⟩) R σ.s:=by
 refine rf.ref (M:=fun fv=>codeAny (aM g.prog g.w) A (.call fv ⟨[],[]⟩) R σ.s) fun a ea=>σ.at e ea fun o e2 x=>?_;refine bQ fun G_ aQ=>?_;obtain⟨q,oM,c,lR,rfl,KY,Ie,hk,zG,zE,TM⟩:=x;refine aQ ?_;refine kla_callFunE (by have:=ha.depth;exact id (aX 610949502851755837797076455981201 rfl this)) e2 rfl zE zG rfl KY.vg ?_;rw[show bindArgs (kla_fn (aA "<lambda>") q ⟨[],[],none,[],[],none,[]⟩ b sc oM ((g.mg "__name__").getD .none) (.ref c) lR) ⟨[],[]⟩=pure []from rfl];refine bA (Rh TM (fun x hx=>nomatch hx) (fun h₁ dA oO=>?_) hk);have k₁: ∀b o,σ.s.heap.get? b=some o→h₁.get? b=some o:=fun b o e=>oO.extBut b o (lJ (fI e)) (eJ _ e);refine bQ fun G_ aQ=>?_;obtain⟨τ,eτ⟩: ∃τ:Hx g,τ=⟨{σ.s with heap:=h₁,toks:=σ.s.toks+0},_,σ.ι,σ.H,σ.X.MW dA (fQ _) k₁⟩:=⟨_,rfl⟩;have L:σ.iS τ.nss τ:=by subst eτ;exact⟨rfl,.ext k₁,.refl _,rfl⟩
 have p:=p.toN.le L;have eo:jL {g.M.sc with names:=sc.names} (newEnv sc σ.s.heap.objs.size mainGlobals oM (q++ ".<locals>.") (some a) (.ref c) none builtinsNs):=⟨hk,rfl,rfl,hd,fun x i e=>absurd rfl (TM _ (fD (slot_get e))),fun x i k e=> .inl (MF e)⟩;have key:=iu (τ:=τ) (nb:=σ.nss) (fr:=fr) (R:=R) O MO GE hC (ha.deeper (L:=σ.s.heap.objs.size) hk rfl) ha.frames rfl eo ⟨_,by subst eτ;rfl,by subst eτ;exact⟨fun i x p e f=>absurd f (Ie.2 i x p e),fun i x k n e eM f=>eM.elim (fun q=>absurd q (TM _ (fD e))) fun q=>Ie.1 i x n (q▸e) f⟩⟩ (by subst eτ;exact p);have nl:=O.noLimit τ;subst eτ;refine aQ ?_;exact⟨nl,key⟩
theorem Ix{f:PV}{a:Addr}(h:GT f=some a):f= .aE (.ref a):=by
 induction f using PV.casesOn with
 |aE v=>induction v using PySem.Value.casesOn with
  |ref b=>exact gQ h▸rfl|_=>exact dB h
 |_=>exact dB h
theorem no{α:Type}{l:List α}{u:Unit}(h:Mm l=some u):l=[]:=by
 cases l with
 |nil=>rfl|cons a b=>exact dB h
theorem Dc(O:g.Ok)(MO:yM g): ∀n,IY g (aG g.M n) n
 |0=>fun A envs σ ha f as fv vs R rf ra p=>p.elim
 |n+1=>fun A envs σ ha f as fv vs R rf ra p=>by
  have ih:=Dc O MO n;unfold aG at p;refine bQ fun G_ aQ=>?_;cases e:GT f with
  |some a=>
   rw[e]at p;have p:σ.bD Hx.V (RK g.M (aG g.M n) a as σ.H) (fun v s'=>R (.ok (.ret v)) s') (fun e s'=>R (.error e) s'):=p;rw[Ix e]at rf;cases rf.aE;unfold RK at p;cases hF:g.M.fn a with
   |some F=>rw[hF]at p;refine aQ ?_;exact Gs O MO (MO.fn a F hF) ih.plain ha ra p|none=>
    rw[hF]at p;have p:σ.bD Hx.V (match g.M.sm a with|some F=>RL F (aG g.M n) as σ.H|none=>KD g.M (aG g.M n) a as σ.H) (fun v s'=>R (.ok (.ret v)) s') (fun e s'=>R (.error e) s'):=p;cases hS:g.M.sm a with
    |some F=>rw[hS]at p;refine aQ ?_;exact p.ob fun x e1 p=>p.ob fun t e2 p=>yp O MO (MO.sm a F hS) ih.plain ha (MS e1▸ra) e2 p
    |none=>
    rw[hS]at p;have p:σ.bD Hx.V (KD g.M (aG g.M n) a as σ.H) (fun v s'=>R (.ok (.ret v)) s') (fun e s'=>R (.error e) s'):=p;refine aQ ?_;exact p.ob fun o e1 p=>p.ob fun i e2 p=>E5 O (MO.cls a i (e1.trans (bN some e2))) ih ha ra p
  |none=>
   rw[e]at p;have p:σ.bD Hx.V (KE g.M (aG g.M n) f as σ.H) (fun v s'=>R (.ok (.ret v)) s') (fun e s'=>R (.error e) s'):=p;refine aQ ?_;refine p.ob fun _ e1 p=>p.ob fun q e2 p=>p.cB fun hd p=>p.ob fun dd GE p=>?_;refine bQ fun G_ aQ=>?_;obtain⟨r,o,rfl,h2,h3⟩:=qG e2;rw[no e1]at ra;cases o with
   |lam b sc fr=>
    injection h3 with h3;subst h3;have:vs=[]:=ra;subst this;refine aQ ?_;exact ir O MO hd (MO.sT _ _ _ GE) ih.plain ha h2 rf p
   |_=>refine aQ ?_;exact dB h3
end
structure rV(K:Frag)(C i:Addr):Prop where
 obj: ∃oc od cd sl B,K.lookup C=some ⟨oc,od,.cls cd,sl⟩∧cd.hasDel=false∧cd.hasDict=true∧cd.mro=[.ref C,.ref B,.type "Exception",.type "BaseException",.type "object"]
 sa:findIn K (.ref C) "__setattr__"=some (some (.builtin "object.__setattr__"))
 pM: ∀S v,peek K S (checkBuiltinCall "Exception.__new__" ⟨[.ref C,v],[]⟩)=some ()
 Jx: ∀S,peek K S (isType (.ref C))=some true
 made: ∀S,peek K S (Sf (.ref C))=some (some "Exception.__new__")
 base: ∀S,peek K S (Sg (.ref C))=some (.ref C)
 self:mroIn K C (.ref C)=some true
 exc:mroIn K C (.type "Exception")=some true
 Cp:mroIn K C (.type "BaseException")=some true
 attr:mroIn K C (.type "AttributeError")=some false
 name:mroIn K C (.type "NameError")=some false
 call:specialIn K (.ref C) "__call__"=some (some (.builtin "type.__call__"))
 typ:instIn K (.ref C) (.type "type")=some true
 tp:typeIn K (.ref C)=some (.type "type")
 init:findIn K (.ref C) "__init__"=some (some (.ref i))
 fn:typeIn K (.ref i)=some (.type "function")
noncomputable abbrev kR(C t:Addr):Obj:={cls:= .ref C,data:= .fields #[.ref t,.none,.none,.none,.bool false,.none]}
noncomputable abbrev sG(rest:List aF):Obj:={cls:= .type "tuple",data:= .seq rest.toArray}
section
variable{prog:Program}{w:World}{A:cH}{K:Frag}{C i:Addr}{R:Result→aL→Prop}{h:Heap}{gs:Array GenState}{d:Drawn}{t:Nat}{os:OsState}
theorem O6{v:aF}(X:K.In h)(Y:rV K C i)
  (hq:R (.ok (.ret (.ref (h.objs.size+1)))) ⟨(h.push (sG [v])).push (kR C h.objs.size),gs,d,t,os⟩):
  codeAny (aM prog w) A (.call (.builtin "Exception.__new__") ⟨[.ref C,v],[]⟩) R ⟨h,gs,d,t,os⟩:=by
 refine bQ fun G_ aQ=>?_;obtain⟨oc,od,cd,sl,B,uH,GF,GI,pW⟩:=Y.obj;have aDV:cd.mro.isEmpty=false:=by rw[pW];rfl
 have F:=Wq;have aD7:=looks_mroIn (M:=aM prog w) X Y.exc;have aD6:=looks_mroIn (M:=aM prog w) X Y.attr;have aD8:=looks_mroIn (M:=aM prog w) X Y.name;have typ:=looks_instIn (M:=aM prog w) X Y.typ;refine aQ ?_;refine codeAny_call_builtin_code (ZI _ F.quiet) ((tV (M:=aM prog w) X (Y.pM _ v)).at ?_);have here:Looks (aM prog w) h (Bind.madeHere "BaseException.__new__" (.ref C)) ():=(tV (M:=aM prog w) X (Y.base _)).andThen ((tV (M:=aM prog w) X (Y.made _)).andThen (Uz (by rw[show(fF Va (some "Exception.__new__") !=some (Va "BaseException.__new__"))=false from by decide+kernel];rfl)));have aDS:=F.ends;refine codeAny_builtinAt F.entry ?_;unfold Builtin.«BaseException.__new__»;refine Xf ?_;show PySem.wpAt _ _ _ (stack>>=_) _ _ _;refine Xf (PySem.wpAt_stack fun p below=>Xg ?_)
 wp_walk
 refine Xg ?_;rw[F.owner];have ff:=tV (M:=aM prog w) X (Y.Jx _)
 repeat lk
 refine nd_load (eJ (kR C h.objs.size) (eJ (sG [v]) (X _ _ uH))) ?_;refine bA ?_;dsimp only;rw[GF];refine bA (bA (bA ?_));show R _ _;rw[ZQ];exact hq
theorem O4{v:aF}(X:K.In h)(Y:rV K C i)
  (hq:codeAny (aM prog w) (A.under (.builtin "type.__call__" ⟨[.ref C,v],[]⟩)) (.call (.ref i) ⟨[.ref (h.objs.size+1),v],[]⟩) (InitBack (h.objs.size+1) R) ⟨(h.push (sG [v])).push (kR C h.objs.size),gs,d,t,os⟩):
  codeAny (aM prog w) A (.call (.ref C) ⟨[v],[]⟩) R ⟨h,gs,d,t,os⟩:=by
 obtain⟨oc,od,cd,sl,B,uH,GF,GI,pW⟩:=Y.obj;have hC:=X _ _ uH;have made:=tV (M:=aM prog w) X (Y.made _);refine codeAny_of_tree ?_;show aP _ _ (callAny (.ref C) _) _ _ _;refine nd_load hC ?_;show aP _ _ (C3 (.ref C) _) _ _ _;unfold C3;refine aO ((looks_specialIn (M:=aM prog w) X Y.call).at ?_);dsimp only;rw[tc_bind];refine aO (bA (aO (bA ?_)));refine bA (a:=Fin.again (.call (.builtin "type.__call__") ⟨[.ref C,v],[]⟩)) (And.intro rfl ?_);refine codeAny_call_builtin_at (ZI _ (by decide+kernel)) entry_typeCall (check_slot tc_kind tc_split (looks_instIn (M:=aM prog w) X Y.typ) (tc_args _ _ _) ?_);unfold Builtin.«type.__call__»;have hm:Looks (aM prog w) h (mroOf (.ref C)) cd.mro:=((JP (part:=none) hC).andThen .now).andThen .now
 repeat(first|rw[aN (show¬cd.mro.isEmpty=true by rw[pW];exact lG)]|with_reducible refine DP ?_|lk)
 refine O6 X Y ?_;have k: ∀b o,h.get? b=some o→((h.push (sG [v])).push (kR C h.objs.size)).get? b=some o:=fun b o e=>eJ _ (eJ _ e);have t1:Looks (aM prog w) ((h.push (sG [v])).push (kR C h.objs.size)) (typeOf (.ref (h.objs.size+1))) (.ref C):=(JP (by heap_get)).andThen .now;have s1:=(looks_mroIn (M:=aM prog w) X Y.self).keeps k;have i1:=(looks_findIn (M:=aM prog w) X Y.init).keeps k;have b1:=(bind_fn (M:=aM prog w) X (.ref (h.objs.size+1)) Y.fn).keeps k;unfold isInstance callSpecial? specialOf
 repeat(first|with_reducible refine DP ?_|lk)
 refine codeAny_mono hq fun r s' z=>?_;rcases r with e|(v|_|_|_)<;>first|exact z|exact z.elim|skip
 obtain⟨rfl,z⟩:=z;exact bA (bA z)
end
section
variable{prog:Program}{w:World}{A:cH}{K:Frag}{C i e t₀:Addr}{E:aF→aL→Prop}{s:aL}{v:aF}{Q:aF→aL→Prop}
theorem N9(X:K.In s.heap)(Y:rV K C i)(he:s.heap.get? e=some (kR C t₀))(h: ∀h' t',(∀b o,b≠e→s.heap.get? b=some o→h'.get? b=some o)→h'.get? e=some (kR C t')→Q .none {s with heap:=h'}):
  aP (aM prog w) A (call (.builtin "Exception.__init__") [.ref e,v]) Q E s:=by
 obtain⟨oc,od,cd,sl,B,uH,GF,GI,pW⟩:=Y.obj;have F:=Wq;obtain⟨hp,gs,d,tk,os⟩:=s;have hC:=X _ _ uH;have ie:Looks (aM prog w) hp (isInstance (.ref e) (.type "Exception")) true:=((JP he).andThen .now).andThen (looks_mroIn X Y.exc);have aDX:=F.noStar;refine DP (codeAny_call_builtin F.init.plain F.initEntry ?_);unfold checkBuiltinCall;rw[F.initKind,F.initSplit,F.initRow]
 repeat lk
 have iE:(hp.push (sG [v])).get? e=some (kR C t₀):=eJ _ he;refine nd_load iE (nd_pure ?_);dsimp only;refine bA (bA (a:=aR t₀) (aO (AG iE rfl (by simp) ?_)));have hm:nP (·.setIfInBounds 0 (aR hp.objs.size)) (kR C t₀)=kR C hp.objs.size:=by rfl
 have BS:=rY (nP (·.setIfInBounds 0 (aR hp.objs.size))) iE (by rw[hm];rfl);rw[hm]at BS;refine Rf (bA ?_);exact h _ _ (fun b o hb e'=>(oF _ _ hb.symm).trans (eJ _ e')) BS
end
section
variable{g:Gl}{S:Sc}{σ τ:Hx g}{nb:bY}{env:Env}{A:cH}{E:aF→aL→Prop}{Q:Unit→aL→Prop}{C i e t₀:Addr}{k:Nat}{name:Str}{vs:Array aF}{p:PV}{v:aF}{m:Str→Option aF}{R:Result→aL→Prop}
theorem wp_at{M:Model}{α:Type}{x:Sem α}{Q:α→aL→Prop}{s s':aL}(h:s'=s)(k:aP M A x Q E s'):aP M A x Q E s:=h▸k
theorem nh{P:Prop}(he:σ.s.heap.get? e=some {cls:= .ref C,data:= .fields vs})(w:iK σ e)(GQ:rC vs[1]?=false)
  (h:(σ.s.heap.push emptyDict).get? e=some {cls:= .ref C,data:= .fields vs}→∀τ:Hx g,τ.s={σ.s with heap:=(σ.s.heap.push emptyDict).update e (fun o=>{o with dict:=some σ.s.heap.objs.size})}→σ.Le τ→τ.H=σ.H++[.ns []]→τ.ι=σ.ι++[σ.s.heap.objs.size]→
   τ.s.heap.get? e=some {cls:= .ref C,dict:=some σ.s.heap.objs.size,data:= .fields vs}→τ.s.heap.get? σ.s.heap.objs.size=some (dictOf [] 0)→iK τ e→P):P:=by
 have e1:fO g (σ.s.heap.push emptyDict) (σ.ι++[σ.s.heap.objs.size]) (.ns []) emptyDict:=⟨[],0,rfl,.nil,mD⟩;have eP:=lJ (fI he);have w1:iK (σ.new emptyDict (.ns []) σ.s.toks rfl e1) e:=⟨fun q=>(oG.mp q).elim w.ni fun q=>eP (eZ.mp q),w.nn,w.nt,w.np,w.base⟩;have GH:(σ.s.heap.push emptyDict).get? e=some {cls:= .ref C,data:= .fields vs}:=eJ _ he;exact h GH ((σ.new emptyDict (.ns []) σ.s.toks rfl e1).zN (h':=(σ.s.heap.push emptyDict).update e (fun o=>{o with dict:=some σ.s.heap.objs.size})) GH (IJ rfl GQ rfl) w1 (tL ..).extBut σ.s.toks) rfl (Hx.xI.trans Hx.zO) rfl rfl (rY (fun o=>{o with dict:=some σ.s.heap.objs.size}) GH rfl)
  ((oF _ _ eP).trans (jM _ rfl)) ⟨w1.ni,w.nn,w.nt,w.np,w.base⟩
theorem xz(O:g.Ok)(nd:g.attrs.Nodup)(hx:g.attrs[k]?=some name)(Y:rV g.K C i)(YO:tJ g C)
  (he:σ.s.heap.get? e=some {cls:= .ref C,data:= .fields vs}) (w:iK σ e) (GQ:rC vs[1]?=false) (rv:σ.V p v)
  (h: ∀τ dx,σ.Le τ→τ.H=σ.H++[.ns [(k,p)]]→τ.ι[σ.H.length]?=some dx→τ.s.heap.get? e=some {cls:= .ref C,dict:=some dx,data:= .fields vs}→iK τ e→Q () τ.s):aP (aM g.prog g.w) A (setAttr (.ref e) name v) Q E σ.s:=by
 refine bQ fun G_ aQ=>?_;obtain⟨oc,od,cd,sl,B,uH,GF,GI,pW⟩:=Y.obj;have KI:=σ.stays O;have I:InstAt σ.s.heap e {cls:= .ref C,data:= .fields vs} C none:=⟨he,rfl,rfl,trivial⟩;have SF:=PySem.F.store_Exception;have iX:clsIn g.K C=some cd:=by unfold clsIn;rw[uH]
 refine aQ ?_;refine set_plain KI I Y.sa ?_;have sub:Looks (aM g.prog g.w) σ.s.heap (isInstance (.ref e) (.type "object")) true:=I.type.andThen (looks_mroIn KI (by unfold mroIn;rw[iX,Vq,aN (by rw[pW];exact lG),pW];simp));have hm:Looks (aM g.prog g.w) σ.s.heap (mroOf (.ref C)) cd.mro:=(looks_clsIn KI iX).andThen .now;refine bQ fun G_ aQ=>?_;obtain⟨τ,L,eτ,eι,eH⟩: ∃τ,σ.Le τ∧τ.s={σ.s with toks:=σ.s.toks+1}∧τ.ι=σ.ι∧τ.H=σ.H:=⟨σ.tok (σ.s.toks+1),σ.AA _,rfl,rfl,rfl⟩;have Ic:τ.s.heap=σ.s.heap:=by rw[eτ]
 rw[←Ic]at I hm sub he KI;clear Ic;refine aQ ?_;refine codeAny_call_builtin SF.slot.plain SF.entry (@check_slot (aM g.prog g.w) _ _ {σ.s with toks:=σ.s.toks+1} "object.__setattr__" "object" "__setattr__" (.ref e) [.str name σ.s.toks,v] [] _ SF.kind SF.split (by rw[eτ]at sub;exact sub) (SF.args (.ref e) (.str name σ.s.toks) v) ?_);rw[osa_eq,refuse_eq];rw[←eτ];refine aO (aO (I.type.here (s:=τ.s) (aO (hm.here (s:=τ.s) ?_))));rw[pW,refuseLoop_ref,refuseLoop_ref,SF.passes];refine bA (aO (I.type.here (s:=τ.s) (aO ((looks_findIn KI (YO.2 k name hx)).here (s:=τ.s) (aO (bA ?_))))));show aP _ _ (aDH (.ref e) (.ref C) (.str name σ.s.toks) name v false) _ _ _;refine aO (bA (aO (aO (Rg he (aO ((looks_clsIn KI iX).here (s:=τ.s) ?_))))));rw[GI];refine nh he (⟨eι▸w.ni,by rw[L.nss];exact w.nn,w.nt,by rw[L.nss];exact w.np,w.base⟩) GQ fun GH υ es l eu ei BS GG w2=>?_;refine aO (Qz (aO (wpAny_update GH ?_)));refine bA (a:=some τ.s.heap.objs.size) (aO (bA (aO ?_)));have ll:=τ.X.len;refine wp_at es (Mz (d:=τ.H.length) hx nd (by rw[eu];simp) (by rw[ei,←ll];simp) GG .nil mD (lK _) ((rv.le L).le l) fun ω BI n' l' mK hs D' hz=>aO (aBS D' hz (bA ?_)));have eω:ω.ι=υ.ι:=Oe l'.pre (by rw[ω.X.len,υ.X.len,mK,dS]);refine h ω τ.s.heap.objs.size (L.trans (l.trans l')) ?_ ?_ ((hs.2 _ (lJ (fI he))).trans BS) ⟨eω▸w2.ni,by rw[l'.nss];exact w2.nn,w2.nt,by rw[l'.nss];exact w2.np,w2.base⟩
 ·rw[mK,eu,eH,List.set_append]
  simp[nsSet]
 ·rw[eω,ei,←eH,←ll]
  simp
end
noncomputable abbrev nJ:Str:=aA "self"
noncomputable abbrev lD:Str:=aA "word"
noncomputable abbrev vE:Str:=aA "Exception"
noncomputable abbrev GS:List (Str×dK):=[(nJ,.local),(lD,.local),(vE,aY)]
inductive Tk(g:Gl)(i:Addr):Prop
 |mk (name qual:Str) (params:Arguments) (scope:Scope) (kV doc pm:aF) (an:Option Addr) (uB ct oc:aF) (od:Option Addr) (oS:Array (Option aF)) (q1 q2 q3 q4 q5 q6 q7 q8 q9 MY:Pos) (uL:g.K.lookup i=some ⟨oc,od,.func (fnOf name qual params
   [.Expr (.Call (.Attribute (.Name vE q1) (aA "__init__") q2) [.Name nJ q3,.Name lD q4] [] q5) q6,.Assign [.Attribute (.Name nJ q7) lD q8] (.Name lD q9) MY] scope .none kV doc pm an uB ct),oS⟩)
  (iX:codeIn g.K uB qual=true) (GO:HX params=true) (LP:oU params=[nJ,lD]) (hk:scope.kind= .function) (zE:scope.isCoroutine=false) (zG:scope.isGenerator=false) (kS:scope.names=GS) (hline:(q2.endLine==q5.line)=true)
structure DV(g:Gl)(i k:Addr):Prop where
 fn:Tk g i
 glob:nsIn g.K mainGlobals vE=some none
 attr:g.attrs[k]?=some lD
 spec: ∀S,peek g.K S (specialOf (.type "Exception") "__getattribute__")=some (some (.builtin "type.__getattribute__"))
 re: ∀S,peek g.K S (opaqueClassAbove (.type "Exception"))=some none
 typ: ∀S,peek g.K S (typeOf (.type "Exception"))=some (.type "type")
 U3:findIn g.K (.type "type") "__getattribute__"=some (some (.builtin "type.__getattribute__"))
 hook: ∀S,peek g.K S (hookBefore (.type "type"))=some none
 sub:subIn g.K (.type "type") (.type "type")=some true
 find:findCls g.K (.type "Exception") (.type "type") (aA "__init__")=some (.val (.builtin "Exception.__init__"))
section
variable{g:Gl}{S:Sc}{σ τ:Hx g}{nb:bY}{env:Env}{A:cH}{E:aF→aL→Prop}{C i e t₀:Addr}{k:Nat}{p:PV}{v:aF}{m:Str→Option aF}{R:Result→aL→Prop}
theorem O2{i k:Addr}{A:cH}{E:aF→aL→Prop}{s:aL}{Q:aF×List aF→aL→Prop}{pl:Sem Bool}(X:g.K.In s.heap)(I:DV g i k)(h:Q (.builtin "Exception.__init__",[]) {s with toks:=s.toks+1}):
  aP (aM g.prog g.w) A (getMethod (.type "Exception") (aA "__init__") pl) Q E s:=by
 unfold getMethod;refine aO ((tV X (I.spec _)).here ?_);dsimp only;rw[aV canon_tga];refine aO (cls_open X (tV X (I.re _)) (tV X (I.typ _)) I.U3 (tV X (I.hook _)) I.sub I.find ?_);refine bA ?_;show aP _ _ (handedOut (.builtin "Exception.__init__")) _ _ _;rw[handedOut_of (by decide+kernel)];exact bA (bA h)
theorem ME{x:Str}{q:Pos}{s:aL}{Q:aF→aL→Prop}(hk:env.scope.kind= .function)(k:env.kindOf x=some .local)(hd:(x==("__debug__":Str))=false)(dA:s.heap.Ns env.locals m)(hm:m x=some v)(hq:Q v s):aP (aM g.prog g.w) A (eval (.Name x q) env) Q E s:=
 YN (aBR hk k dA hm hq) hd
theorem IV.ns(on:σ.nss=nb.on env.locals m):σ.s.heap.Ns env.locals m:=σ.X.ns (env.locals,m) (on▸ .head _)
theorem O3{q1 q2 q3 q4 q5 q6 q7 q8 q9 MY:Pos}{Q:Flow→aL→Prop}(O:g.Ok)(nd:g.attrs.Nodup)(Y:rV g.K C i)(YO:tJ g C)(IO:DV g i k)(hk:env.scope.kind= .function)(glob:env.globals=mainGlobals)(blt:env.builtins=builtinsNs)(Kt:env.kindOf nJ=some .local)(Kx:env.kindOf lD=some .local)(gd:env.kindOf vE=some aY)
  (Ma:m nJ=some (.ref e)) (Mb:m lD=some v) (on:σ.nss=nb.on env.locals m) (he:σ.s.heap.get? e=some (kR C t₀)) (w:iK σ e) (rv:σ.V p v) (hline:(q2.endLine==q5.line)=true)
  (h: ∀τ dx t',σ.Le τ→τ.H=σ.H++[.ns [(k,p)]]→τ.ι[σ.H.length]?=some dx→τ.s.heap.get? e=some {kR C t' with dict:=some dx}→iK τ e→Q .next τ.s):
  aP (aM g.prog g.w) A (execs [.Expr (.Call (.Attribute (.Name vE q1) (aA "__init__") q2) [.Name nJ q3,.Name lD q4] [] q5) q6,.Assign [.Attribute (.Name nJ q7) lD q8] (.Name lD q9) MY] env) Q E σ.s:=by
 have T:=topRead_of O.T;rw[arm_execs_cons];refine aO (Qx ?_ (by unfold interactive;rw[hk];rfl) rfl);rw[arm_eval_Call,yU rfl];refine aO (Sy hk gd (Ta (by rw[glob];exact T.g.keeps σ.X.stays) (mg_none_of O.X T.g IO.glob) (by rw[blt];exact T.b.keeps σ.X.stays) ((T.builtins vE (by decide)).trans (show bootBuiltins vE=some (.type "Exception") by decide+kernel)) ?_) (by decide));refine aO (xX ?_);unfold methodCall;refine aO (mV ?_);unfold calleeOf methodCallPos;rw[(show methodCallForm ([iL nJ q3,iL lD q4].length+([]:List Keyword).length) (backTo q5 (starEach [iL nJ q3,iL lD q4] env)) (backToKw q5 (keywordEach [] env))=true by rfl)];refine O2 (O.X.keeps σ.X.stays) IO ?_;refine aO ?_;rw[aV (by rw[hline];rfl)];refine bA (IX (by rfl) ?_);refine Sz (spliced_cons (x:=eval (.Name nJ q3) env) ?_);refine ME hk Kt (by decide) (IV.ns on) Ma (spliced_cons (x:=eval (.Name lD q4) env) (ME hk Kx (by decide) (IV.ns on) Mb (ZG ?_)));refine N9 (O.X.keeps σ.X.stays) Y he fun h₂ t' zI BS=>?_;refine bQ fun G_ aQ=>?_;obtain⟨τ,L,eτ,eH,X4,w2,el⟩: ∃τ,σ.Le τ∧τ.s={σ.s with heap:=h₂,toks:=σ.s.toks+1}∧τ.H=σ.H∧τ.s.heap.get? e=some (kR C t')∧iK τ e∧τ.nss=σ.nss:=⟨σ.zN he (IJ rfl rfl rfl) w zI (σ.s.toks+1),Hx.zO,rfl,rfl,BS,⟨w.ni,w.nn,w.nt,w.np,w.base⟩,rfl⟩;have Nl:=el.trans on;refine aQ ?_;refine wp_at eτ ?_;rw[arm_execs_cons];refine aO (plainObj_wpAny_Assign_Attribute (ME hk Kx (by decide) (IV.ns Nl) Mb (ME hk Kt (by decide) (IV.ns Nl) Ma ?_)));refine xz O nd IO.attr Y YO X4 w2 rfl (rv.le L) fun υ dx l mK ei X5 w3=>?_;rw[arm_execs_nil];exact bA (h υ dx t' (L.trans l) (eH▸mK) (eH▸ei) X5 w3)
theorem O1(O:g.Ok)(mx:g.attrs.Nodup)(Y:rV g.K C i)(YO:tJ g C)(IO:DV g i k)(au:A.depth<recursionLimit)(he:σ.s.heap.get? e=some (kR C t₀))(w:iK σ e)(rv:σ.V p v)
  (h: ∀τ dx t',σ.Le τ→τ.H=σ.H++[.ns [(k,p)]]→τ.ι[σ.H.length]?=some dx→τ.s.heap.get? e=some {kR C t' with dict:=some dx}→iK τ e→R (.ok (.ret .none)) τ.s):
  codeAny (aM g.prog g.w) A (.call (.ref i) ⟨[.ref e,v],[]⟩) R σ.s:=by
 refine bQ fun G_ aQ=>?_;obtain⟨name,qual,params,scope,kV,doc,pm,an,uB,ct,oc,od,oS,q1,q2,q3,q4,q5,q6,q7,q8,q9,MY,uL,iX,GO,LP,hk,zE,zG,kS,hline⟩:=IO.fn;have KI:=σ.stays O;refine aQ ?_;refine codeAny_call_function (body:=_) au (KI _ _ uL) rfl zE zG rfl (codeRec_of KI iX) ?_;rw[Cq GO rfl (by show(oU params).Nodup;rw[LP];decide) (by show(oU params).length=_;rw[LP];rfl)];refine bA ?_;show aP _ _ (newFunctionEnv scope mainGlobals [] ((oU params).zip [.ref e,v]) _ _ _ none builtinsNs) _ _ _;rw[LP];have LG: ∀x k,GS.lookup x=some k→scope.names.lookup x=some k:=fun x k q=>kS▸q;refine Rh (by rw[kS];decide) (fun x hx=>LG _ _ ((dJ.mp hx).elim (fun q=>by rw[q];show GS.lookup nJ=_;decide) fun hx=>by rw[eZ.mp hx];show GS.lookup lD=_;decide)) (fun h₁ dA oO=>?_) hk;have k₁: ∀b o,σ.s.heap.get? b=some o→h₁.get? b=some o:=fun b o e=>oO.extBut b o (lJ (fI e)) (eJ _ e);refine bQ fun G_ aQ=>?_;obtain⟨τ,eτ,eH,ei,on,G⟩: ∃τ:Hx g,τ.s={σ.s with heap:=h₁,toks:=σ.s.toks+2}∧τ.H=σ.H∧τ.ι=σ.ι∧τ.nss=σ.nss.on σ.s.heap.objs.size _∧eA g σ.s.heap τ.s.heap:=⟨⟨{σ.s with heap:=h₁,toks:=σ.s.toks+2},_,σ.ι,σ.H,(σ.X.MW dA (fQ _) k₁)⟩,rfl,rfl,rfl,rfl,.ext k₁⟩;have nl:=O.noLimit τ;rw[eτ]at nl;refine aQ ?_;refine⟨nl,codeAny_func (wp_at eτ ?_)⟩;refine O3 (nb:=σ.nss) (k:=k) (p:=p) O mx Y YO IO hk rfl rfl (LG _ _ (by decide)) (LG _ _ (by decide)) (LG _ _ (by decide)) rfl rfl on (by rw[eτ];exact k₁ _ _ he) (⟨ei▸w.ni,by rw[on];exact fun q=>(dJ.mp q).elim (lJ (fI he)) w.nn,w.nt,by rw[on];exact w.np,w.base⟩) (by unfold Hx.V;rw[ei];exact dH.mono σ.X.dZ G (.refl _) _ rv) hline fun υ dx t' l mK GG iE w'=>?_;have WD:=l.nss.trans on;exact h (υ.pop WD) dx t' ⟨rfl,G.trans l.grow,ei▸l.pre,l.sh.trans (by rw[eτ];rfl)⟩ (eH▸mK) (eH▸GG) iE ⟨w'.ni,fun q=>w'.nn (by rw[WD];exact .tail _ q),w'.nt,by have:=w'.np;rw[WD]at this;exact this,w'.base⟩
end
section
variable{prog:Program}{w:World}{A:cH}{E:aF→aL→Prop}{s:aL}{K:Frag}{env:Env}{Q:Flow→aL→Prop}
inductive Bv(K:Frag)(E:aF→aL→Prop):aF→aL→Prop
 |mk (C i e:Addr) (oe:Obj) (vs:Array aF) (s:aL) (X:K.In s.heap) (Y:rV K C i) (he:s.heap.get? e=some oe) (hc:oe.cls= .ref C) (hd:oe.data= .fields vs) (hv:vs[1]?=some .none) (hE:E (.ref e) s):Bv K E (.ref e) s
theorem vc{x:Sem aF}(hh:A.handled=none)(h:aP (aM prog w) A x (Bv K E) E s):aP (aM prog w) A (raiseStmt env (some x) none) Q E s:=by
 unfold raiseStmt;refine aO (rS h (fun v s₁ h₁=>?_) fun _ _ x=>x);refine bQ fun G_ aQ=>?_;obtain⟨C,i,e,o,vs,_,X,Y,he,hc,hd,hv,hE⟩:=h₁;obtain⟨hp,gs,d,tk,os⟩:=s₁;obtain⟨qi,qm,qj,oS⟩:=o;dsimp only at hc hd;subst hc hd;obtain⟨oc,od,cd,sl,B,uH,GF,GI,pW⟩:=Y.obj;have te:Looks (aM prog w) hp (typeOf (.ref e)) (.ref C):=(JP he).andThen .now;have tC:=looks_typeIn (M:=aM prog w) X Y.tp;have it:Looks (aM prog w) hp (isInstance (.ref e) (.type "type")) false:=te.andThen (looks_mroIn X (by unfold mroIn;rw[(show clsIn K C=some cd by unfold clsIn;rw[uH]),Vq,aN (by rw[pW];exact lG),pW];simp));have ib:Looks (aM prog w) hp (isInstance (.ref e) (.type "BaseException")) true:=te.andThen (looks_mroIn X Y.Cp);refine aQ ?_
 repeat lk
 rw[hv];refine bA ?_;rw[aN (by decide)];exact bA (aBV hh hE)
end
section
variable{g:Gl}{S:Sc}{σ τ:Hx g}{nb:bY}{env:Env}{A:cH}{E:aF→aL→Prop}{x a:Str}{np nB pos cp ap tp:Pos}{c:Addr}{i k tk:Nat}{d:D}{e:Expr}{w:Str}
structure rW(g:Gl):Prop where
 ok: ∀c∈g.FW,tJ g c∧∃i k,rV g.K c i∧DV g i k
theorem i9(EO:rW g)(hs:S.slot x=some (i,aY))(hv:S.glob x=some (.aE (.ref c)))(hk:S.attr (aA "word")=some k)(lM:isStar e=false)(hex:S.exc c=true)(hd:bK g S e d):
  lQ g S (.Raise (some (.Call (.Name x np) [e] [] nB)) none pos) (mA c k d):=by
 intro env A C rest V fr σ F Q E p;refine bQ fun G_ aQ=>?_;obtain⟨YO,Jb,k',Y,IO⟩:=EO.ok c (V.sc.exc c hex);have Z0:k'=k:=(yJ (eF.mp IO.attr).1 V.sc.attrs).mp (IO.attr.trans (V.sc.attr _ _ hk).symm);subst Z0;refine aQ ?_;rw[arm_exec_Raise];refine aO (xX ?_);show aP _ A (raiseStmt env (some (do let v←eval (.Call (.Name x np) [e] [] nB) env;standAt pos;pure v)) none) Q E σ.s;refine vc (K:=g.K) V.hand (aO ?_);refine bQ fun G_ aQ=>?_;obtain⟨hs,TO,X0⟩:=Sc.slot_of hs;obtain⟨u,hu,r,LD⟩:=V.sc.glob x _ hv;have r0:σ.V (.aE (.ref c)) u:=(r _ σ.X.stays).mono σ.X.dZ (.refl _ _) (Pre.nil _);cases r0.aE;have lU:nN g S [e] (aC d aH):= .cons lM hd .nil;refine aQ ?_;refine F.frm fun m f=>Call_Name (trees:=backTo nB (starEach [e] env)) rfl (nameG_K f V.ok.X (topRead_of V.ok.T) hu ?_ V.eo.glob V.eo.kind ((V.eo.names x i _ hs).elim id fun q=>nomatch q.1) TO);refine callWith_of (P:=g.K.In) (first:=[]) (by rw[lU.xS];rfl) (keeps_K (LD c rfl)) ?_;have e1:starEach [e] env=[(false,eval e env)]:=by cases e<;>first|rfl|injection lM
 rw[e1];refine Sz (x:=eval e env) (spliced_cons (hd env A C rest V fr σ F _ E (p.bind (R₁:=Hx.V) F fun y v τ l r F p=>ZG ⟨τ.stays V.ok,DP ?_⟩)));show codeAny _ A (.call (.ref c) ⟨[v],[]⟩) _ _;refine O4 (h:=τ.s.heap) (gs:=τ.s.gens) (d:=τ.s.drawn) (t:=τ.s.toks) (os:=τ.s.os) (τ.stays V.ok) Y ?_;have w:=τ.fresh (a:=τ.s.heap.objs.size+1) (ZP (Aw _)) (yO τ.X.size);have L:=(τ.kZ (sG [v]) τ.s.toks).trans ((τ.push (sG [v]) τ.s.toks).kZ (kR c τ.s.heap.objs.size) τ.s.toks);refine O1 (σ:=(τ.push (sG [v]) τ.s.toks).push (kR c τ.s.heap.objs.size) τ.s.toks) V.ok V.sc.attrs Y YO IO (by have:=V.depth;show A.depth+1<_;exact id (aS 1165293698975004894639949073 rfl this)) (show((τ.s.heap.push (sG [v])).push (kR c τ.s.heap.objs.size)).get? (τ.s.heap.objs.size+1)=some (kR c τ.s.heap.objs.size) by heap_get) ⟨w.ni,w.nn,w.nt,w.np,w.base⟩ (r.le L) fun ω dx t' l' eH GG iE w'=>?_;exact⟨rfl,aO (xX (bA (.mk c Jb (τ.s.heap.objs.size+1) _ _ _ (ω.stays V.ok) Y iE rfl rfl rfl (p (τ.s.heap.objs.size+1) ω ((L.trans l').toS F) eH ⟨YO,_,_,dx,iE,rfl,rfl,GG,rfl,(show 1<6 by decide),w.base,w.nt,w'.ni,w'.np,.none rfl⟩))))⟩
noncomputable def yD(g:Gl)(S:Sc)(e:Expr)(d:D):Prop:= ∀(env:Env) (A:cH) (C:dI) (rest:bY),jL S env→sD g S→g.Ok→∀(fr:aW) (σ:Hx g),At g S env rest fr σ→
 ∀(Q E:aF→aL→Prop),σ.bD Hx.V (d C fr σ.H) Q E→aP (aM g.prog g.w) A (eval e env) Q E σ.s
theorem W4{c:Const}(e:FN c=some d):yD g S (.Constant c k pos) d:=fun _ _ _ _ _ _ _ _ _ _ _ _ p=>RT e p
theorem W5(hx:wE S x=some d)(ha:S.attr a=some i):yD g S (.Tuple [.Constant (.str w) k cp,.Attribute (.Name x np) a ap] tk tp) (bM (aC (aB (.str w)) (aC (eR d i) aH))):=by
 intro env A C rest eo sc ok fr σ F Q E p;refine aBI (Tb (x:=eval (.Constant (.str w) k cp) env) (RT (d:=aB (.str w)) (C:=C) (fr:=fr) rfl (Hx.bD.bind (R₁:=Hx.V) (R:=Hx.V) (o:= .ok (.str w) σ.H) (f:=fun v H=>(d C fr H).bind fun x H=>(yV x i H).bind fun u H=>rF [v,u] H) (Q:=Q) ?_ fun y v τ l r p=>?_)))
 ·have p:σ.bD Hx.V (((((d C fr σ.H).bind fun x H=>yV x i H).bind fun v H=>(Out.ok [v] H).bind fun vs H=> .ok vs H).bind fun vs H=> .ok (PV.str w::vs) H).bind fun vs H=>rF vs H) Q E:=p
  rw[Out.bind_assoc,Out.bind_assoc,Out.bind_assoc]at p;exact p
 refine Tb (x:=eval (.Attribute (.Name x np) a ap) env) (Attribute_any_ (Md hx eo sc ok (F.le l) (p.bind (R₁:=Hx.V) fun z u υ l2 r2 p=>((F.le l).le l2).frm fun m f=>Cj ok sc.attrs (sc.attr _ _ ha) f r2 (p.bind (R₁:=Hx.V) fun z' u' ω l3 r3 p=>ZG ?_))) ?_)
 ·have q:=p.CV (bE.cons (r.le (l2.trans l3)) (bE.cons r3 bE.nil))
  exact⟨bW q.1 (by decide),q.2.1⟩
 ·rw[arm_eval_Attribute,yU rfl]
end
section
variable{prog:Program}{w:World}{A:cH}{E:aF→aL→Prop}{s:aL}{K:Frag}
theorem aAP:subIn K (.type "type") (.type "tuple")=some false:=by
 show(fastBuiltinMro "type").map (·.contains (oK "tuple"))=some false
 decide+kernel
theorem O5{C i e:Addr}{o:Obj}{Q:Bool→aL→Prop}(X:K.In s.heap)(Y:rV K C i)(he:s.heap.get? e=some o)(hc:o.cls= .ref C)(hq:Q true s):aP (aM prog w) A (excMatches (.ref e) (.ref C)) Q E s:=by
 obtain⟨hp,gs,d,tk,os⟩:=s;obtain⟨qi,qm,qj,oS⟩:=o;dsimp only at hc;subst hc;have te:Looks (aM prog w) hp (typeOf (.ref e)) (.ref C):=(JP he).andThen .now;have tup:Looks (aM prog w) hp (isInstance (.ref C) (.type "tuple")) false:=(looks_typeIn X Y.tp).andThen (looks_subIn X aAP);have ff:=tV (M:=aM prog w) X (Y.Jx _);have sb:=looks_mroIn (M:=aM prog w) X Y.Cp;have ss:=looks_mroIn (M:=aM prog w) X Y.self;unfold excMatches
 repeat lk
 exact hq
end
section
variable{g:Gl}{S:Sc}{σ τ:Hx g}{nss:bY}{env:Env}{A:cH}{C:dI}{rest:bY}{E:aF→aL→Prop}{a e c:Addr}{o:Obj}{vs:Array aF}{k:Nat}{d:D}{ex:Expr}{pos Pc np GN:Pos}{fr:aW}
theorem Hx.Gj(σ:Hx g)(ho:σ.s.heap.get? a=some o)(hd:o.data= .fields vs)(np: ∀p∈σ.nss.bU,p.1≠a)(ni:a∉σ.ι)(nt:a∉g.jR)(hb:g.base.objs.size≤a):iK σ a:=
 ⟨ni,fun q=>by
  obtain⟨p,hp,e'⟩:=dY.mp q;obtain⟨o',es,ep,q1,q2,_⟩:=σ.X.ns p hp;have q3:=ho.symm.trans (e'▸q1);injection q3 with q3;rw[←q3,hd]at q2;injection q2,nt,np,hb⟩
theorem Go{d:Nat}{Q:Unit→aL→Prop}(F:nK σ e c d)(h: ∀τ,σ.Le τ→τ.H=σ.H→nK τ e c d→Q () τ.s):aP (aM g.prog g.w) A (setFlight (.ref e) none) Q E σ.s:=by
 have F₀:=F;obtain⟨hc,oe,vs,dx,a1,a2,a3,a4,a5,a6,a7,a8,a9,pH,aT⟩:=F;unfold setFlight;cases aT with
 |none hT=>
  refine aO (vG a1 a5 hT ?_);rw[aN (by decide)];exact bA (h σ .refl rfl F₀)
 |tb T oT ts h1 h2 h3 h4 h6 h7 h8 h9 GB Hc=>
  refine aO (vG a1 a5 h1 ?_);rw[aV (show(aR T !=fR)=true from rfl)];have gC:=(YW.mp h6).1;refine AG h3 h4.2 gC ?_;have hm:nP (·.setIfInBounds 3 fR) oT={oT with data:= .fields (ts.setIfInBounds 3 .none)}:=VE _ h4.2;exact h (σ.zN h3 (IJ h4.2 h7 (by rw[h4.1];decide)) (σ.Gj h3 h4.2 Hc GB h9 h8) (tL ..).extBut σ.s.toks) Hx.zO rfl ⟨hc,oe,vs,dx,(oF _ _ h2).trans a1,a2,a3,a4,a5,a6,a7,a8,a9,pH,.tb T _ (ts.setIfInBounds 3 .none) h1 h2 (show(σ.s.heap.update T (nP (·.setIfInBounds 3 fR))).get? T=some {oT with data:= .fields (ts.setIfInBounds 3 .none)} by rw[rY _ h3 (by rw[hm];rfl),hm]) ⟨h4.1,rfl⟩ (by rw[DQ,aV rfl,aV gC]) (by rw[DQ];exact h7) h8 h9 GB Hc⟩
theorem oq{d:Nat}{e₀:Env}{outer:List Env}{Q:Unit→aL→Prop}(lL:A.frames=some (e₀::outer))(TP:e₀.frame=env.frame)(sR: ∀e∈e₀::outer,e.scope.kind= .function∧∃a∈σ.nss.ls,e.frame=some a)(F:nK σ e c d)
  (h: ∀τ,σ.Le τ→τ.H=σ.H→nK τ e c d→Q () τ.s):aP (aM g.prog g.w) A (noteFrame (.ref e) env) (fun _ s₂=>aP (aM g.prog g.w) A (setFlight (.ref e) none) Q E s₂) E σ.s:=by
 refine bQ fun G_ aQ=>?_;obtain⟨hc,oe,vs,dx,a1,a2,a3,a4,a5,a6,a7,a8,a9,pH,aT⟩:=F;obtain⟨_,p,hp,hL⟩:=sR e₀ (.head _);have en:noteFrame (.ref e) env=noteFrame (.ref e) e₀:=by
  unfold noteFrame PySem.frameOf;rw[TP]
 refine aQ ?_;rw[en];refine rS (Mt (g:=g) lL (TG σ sR) hL a1 a5 a6 aT (Q:=Q) fun h' N=>?_) (fun _ _ q=>q A) fun _ _ q=>q;have q:=N.Nu (Gw sR) a1 a5 a2 a7 a8 a9 pH aT;exact h ⟨{σ.s with heap:=h'},σ.nss,σ.ι,σ.H,q.1⟩ ⟨rfl,q.2,.refl _,rfl⟩ rfl (N.flying hc a2 a3 a4 a6 a7 a8 a9 pH rfl rfl rfl)
noncomputable def Hx.EM(S:Sc)(env:Env)(rest:bY)(σ:Hx g)(o:Out (cO×aW))(Q:Flow→aL→Prop)(E:aF→aL→Prop):Prop:=match o with
 | .exc c d H=> ∀e τ,σ.Le τ→τ.H=H→nK τ e c d→E (.ref e) τ.s|o=>σ.cD S env rest o Q E
noncomputable def EP(g:Gl)(S:Sc)(b:List Stmt)(d:DS):Prop:= ∀(env:Env) (A:cH) (C:dI) (rest:bY),Ev g S env A C rest→∀(fr:aW) (σ:Hx g),At g S env rest fr σ→
 ∀(Q:Flow→aL→Prop) (E:aF→aL→Prop),σ.EM S env rest (d C fr σ.H) Q E→aP (aM g.prog g.w) A (execs b env) Q E σ.s
theorem Hx.EM.bind{α β:Type}{R₁:Hx g→α→β→Prop}{o:Out α}{f:α→cO×aW}{Q:Flow→aL→Prop}{Q₁:β→aL→Prop}(p:σ.EM S env rest (o.bind fun v H=> .ok (f v) H) Q E)(F:At g S env rest fr σ)
  (k: ∀a b τ,σ.Le τ→R₁ τ a b→At g S env rest fr τ→τ.cD S env rest (.ok (f a) τ.H) Q E→Q₁ b τ.s):σ.bD R₁ o Q₁ E:=by
 cases o with
 |ok a H'=>exact fun b τ l e r=>k a b τ l r (F.le l) (e▸Hx.cD.gD (o:= .ok (f a) H') p (l.toS F))
 |exc c d H'=>exact p|fail=>exact p
theorem wu{o:Out PV}:((o.bind fun v H=>(.ok (cO.ret v,fr) H:Out (cO×aW))).bind fun r H=>match r with|(cO.next,fr)=>aK C fr H|(cO.ret v,fr)=> .ok (cO.ret v,fr) H)=o.bind fun v H=> .ok (cO.ret v,fr) H:=Out.bind_assoc ..
theorem wj{o:Out PV}:((o.bind fun v H=>(.ok (cO.next,fr) H:Out (cO×aW))).bind fun r H=>match r with|(cO.next,fr)=>aK C fr H|(cO.ret v,fr)=> .ok (cO.ret v,fr) H)=o.bind fun v H=> .ok (cO.next,fr) H:=Out.bind_assoc ..
theorem z9(he:bK g S ex d):EP g S [.Return (some ex) pos] (aI (bJ d) aK):=fun env A C rest V fr σ F Q E p=>by
 rw[arm_execs_cons];have p:σ.EM S env rest ((d C fr σ.H).bind fun v H=> .ok (cO.ret v,fr) H) Q E:=wu▸p;exact aO (Qy (he env A C rest V fr σ F _ E (p.bind (R₁:=Hx.V) F fun y v τ l r F p=>bA (p v τ (Hx.Le.refl.toS F) rfl r))))
theorem z8(hc:pY ex=false)(he:bK g S ex d):EP g S [.Expr ex pos] (aI (eN d) aK):=fun env A C rest V fr σ F Q E p=>by
 rw[arm_execs_cons];have p:σ.EM S env rest ((d C fr σ.H).bind fun v H=> .ok (cO.next,fr) H) Q E:=wj▸p;refine aO (Qx (he env A C rest V fr σ F _ E (p.bind (R₁:=Hx.V) F fun y v τ l r F p=>?_)) (by unfold interactive;rw[V.eo.kind];rfl) (by cases ex<;>first|rfl|injection hc));dsimp only;rw[arm_execs_nil];exact bA (p.next F)
theorem Hx.cD.Dd{α β:Type}{R₁:Hx g→α→β→Prop}{o:Out α}{K:α→PH→Out (cO×aW)}{Q:Flow→aL→Prop}{Q₁:β→aL→Prop}{E':aF→aL→Prop}(p:σ.cD S env rest ((calm o).bind K) Q E)(F:At g S env rest fr σ)
  (k: ∀a b τ,σ.Le τ→R₁ τ a b→At g S env rest fr τ→τ.cD S env rest (K a τ.H) Q E→Q₁ b τ.s):σ.bD R₁ o Q₁ E':=by
 cases o with
 |ok a H'=>exact fun b τ l e r=>k a b τ l r (F.le l) (e▸Hx.cD.gD (o:=K a H') p (l.toS F))
 |exc c d H'=>exact p.elim|fail=>exact p.elim
theorem Zg{z:Str}{j:Nat}{d:Nat}{Q:Unit→aL→Prop}(eo:jL S env)(hz:S.slot z=some (j,.local))(hj:j<fr.length)(F:At g S env rest fr σ)(fl:nK σ e c d)
  (q: ∀τ,σ.gF env rest τ→τ.H=σ.H++[.exc c d]→At g S env rest (fr.set j (some (.ref σ.H.length))) τ→Q () τ.s):aP (aM g.prog g.w) A (storeName env z (.ref e)) Q E σ.s:=by
 refine bQ fun G_ aQ=>?_;obtain⟨hc,oe,vs,dx,b1,b2,b3,b4,b5,b6,b7,b8,b9,Ye,_⟩:=fl;have w:=σ.Gj b1 b5 Ye b9 b8 b7;rcases σ.X.adopt (po:= .exc c d) b1 b7 b9 w.nn b8 ⟨dx,vs,(Pre.snoc σ.ι e).get b4,b2,b3,b5,hc⟩with X'|⟨pp,hp,hq⟩
 ·have L:σ.Le ⟨σ.s,σ.nss,σ.ι++[e],σ.H++[.exc c d],X'⟩:=⟨rfl,.refl _ _,.snoc _ _,rfl⟩
  refine aQ ?_;refine xQ (σ:=⟨σ.s,σ.nss,σ.ι++[e],σ.H++[.exc c d],X'⟩) (t:= .loc j) eo (by unfold nC;rw[hz]) (F.le L) (AT (i:=σ.H.length) (by show(σ.ι++[e])[σ.H.length]?=_;rw[←σ.X.len];simp)) ?_;rw[vC,aV hj];exact fun τ l eH F'=>q τ ((L.toS F).trans l) eH F'
 ·exact absurd hq (w.np pp hp)
theorem aAQ{z:Str}{Q:Unit→aL→Prop}(eo:jL S env)(Id:env.kindOf z=some .local)(F:At g S env rest fr σ)(q: ∀τ,σ.gF env rest τ→τ.H=σ.H→τ.ι=σ.ι→Q () τ.s):aP (aM g.prog g.w) A (do bindName env z .none;unbindBehindTheSuite env z pos) Q E σ.s:=by
 obtain⟨m,on,_⟩:=F;have X:Cx g σ.s.heap (rest.on env.locals m) σ.ι σ.H:=on▸σ.X;refine aO (aBL (aBX (m:=m) Id (X.ns _ (.head _)) (fun h₇ hn oO=>?_) eo.hp));have X₇:=X.XE hn oO;unfold unbindBehindTheSuite;refine wpAny_onRaise (wpAny_unbindName_local Id (X₇.1.ns _ (.head _)) (v:= .none) (by simp) eo.hp fun h₈ u hn oO=>?_);have X₈:=X₇.1.XE hn oO;exact q ⟨{σ.s with heap:=h₈,toks:=_},_,σ.ι,σ.H,X₈.1⟩ ⟨⟨_,rfl⟩,X₇.2.trans X₈.2,.refl _,rfl⟩ rfl rfl
theorem Hm{Q:Flow→aL→Prop}(hd:yD g S ex d)(eo:jL S env)(sc:sD g S)(ok:g.Ok)(F:At g S env rest fr σ)(p:σ.bD Hx.V (d C fr σ.H) (fun b=>Q (.ret b)) E):aP (aM g.prog g.w) A (execs [.Return (some ex) Pc] env) Q E σ.s:=by
 rw[arm_execs_cons];exact aO (Qy (hd env _ C rest eo sc ok fr σ F _ _ (p.mono fun b τ _ q=>bA q)))
theorem j9(EO:rW g){b:List Stmt}{db:DS}{x:Str}{y:Option Str}{i:Nat}{as_:Option Nat}(hb:EP g S b db)(hs:S.slot x=some (i,aY))(hv:S.glob x=some (.aE (.ref c)))(hex:S.exc c=true)
  (has:match y with|none=>as_=none|some z=> ∃j,as_=some j∧S.slot z=some (j,.local)) (hd:yD g S ex d):lQ g S (.Try b [.ExceptHandler (some (.Name x np)) y [.Return (some ex) Pc] GN] [] [] pos) (qJ db c as_ d):=by
 intro env A C rest V fr σ F Q E p;refine wpAny_Try_except (hb env A C rest V fr σ F _ _ ?_);unfold qJ at p;revert p;generalize db C fr σ.H=o;cases o with
 |fail=>exact fun p=>p
 |ok r H'=>
  obtain⟨fl,fr'⟩:=r;cases fl with
  |next=>exact fun p τ l eH F'=>by rw[arm_execs_nil];exact bA (p τ l eH F')
  |ret v=>exact fun p=>p
 |exc c' k H'=>
  refine fun p=>?_;have p:σ.cD S env rest (Hi c as_ d C fr c' k H') Q E:=p;refine p.cB fun wS p e₁ τ l eH fl=>?_;have wS:=cK wS;subst wS;subst eH;have F₁:=F.le l;have p:=p.gD (l.toS F);clear F;obtain⟨e₀,outer,lL,TP,sR⟩:=V.frames;refine oq lL TP (fun e he=>⟨(sR e he).1,(sR e he).2.imp fun a q=>⟨F₁.ls q.1,q.2⟩⟩) fl fun υ l2 Eo BN=>?_;have F₂:=F₁.le l2;have p:=p.gD (l2.toS F₁);rw[←Eo]at p;clear Eo F₁ l fl l2;obtain⟨YO,Jb,k',Y,IO⟩:=EO.ok c' (V.sc.exc c' hex);obtain⟨hs,TO,X0⟩:=Sc.slot_of hs;obtain⟨u,hu,r,LD⟩:=V.sc.glob x _ hv;have r0:υ.V (.aE (.ref c')) u:=(r _ υ.X.stays).mono υ.X.dZ (.refl _ _) (Pre.nil _);cases r0.aE;have S8:=BN;obtain⟨_,oe,vs,dx,a1,a2,_,_,_,_,_,_,_,_,_⟩:=S8;refine F₂.frm fun m f=>wpAny_handleBy_cons (codeAny_handlers_test (nameG_K f V.ok.X (topRead_of V.ok.T) hu ?_ V.eo.glob V.eo.kind ((V.eo.names x i _ hs).elim id fun q=>nomatch q.1) TO)) nofun;refine O5 (υ.stays V.ok) Y a1 a2 ?_;cases y with
  |none=>
   subst has;exact codeAny_handlers_suite (Go BN fun ω l3 SC Gm=>Hm hd V.eo V.sc V.ok (F₂.le l3) ((SC▸p.gD (l3.toS F₂):ω.cD S env rest ((calm (d C fr ω.H)).bind fun v H=> .ok (.ret v,fr) H) Q E).Dd (R₁:=Hx.V) (F₂.le l3) fun v b τ l r F p=>p b τ (Hx.Le.refl.toS F) rfl r))
  |some z=>
   obtain⟨j,rfl,hz⟩:=has;have p:υ.cD S env rest (cB (decide (j<fr.length)) ((calm (d C (fr.set j (some (.ref υ.H.length))) (υ.H++[.exc c' k]))).bind fun v H=> .ok (.ret v,fr.set j none) H)) Q E:=p;refine p.cB fun hj p=>?_;refine codeAny_handlers_suite_as (Go BN fun ω l3 SC Gm=>Zg V.eo hz (cK hj) (F₂.le l3) Gm fun ω2 l4 L4 F4=>?_);have p:=(p.gD (l3.toS F₂)).gD l4;rw[←SC,←L4]at p;exact Hm hd V.eo V.sc V.ok F4 (p.Dd (R₁:=Hx.V) F4 fun v b τ l r F p=>aAQ V.eo ((V.eo.names z j _ (Sc.slot_of hz).1).elim id fun q=>nomatch q.1) F fun ζ l5 L5 ei5=>p b ζ l5 L5 (r.gD l5))
end
noncomputable def jF{α:Type}(n:Nat)(P:α→Prop):KasT α→Prop
 | .ret a=>P a| .ask i j k=>i<n∧j<n∧∀b,jF n P (k b)
theorem jF.bind{α β:Type}{n:Nat}{P:α→Prop}{R:β→Prop}{f:α→KasT β}: ∀{t:KasT α},jF n P t→(∀a,P a→jF n R (f a))→jF n R (t.bind f)
 | .ret a,h,k=>k a h| .ask i j kk,h,k=>⟨h.1,h.2.1,fun b=>jF.bind (h.2.2 b) k⟩
theorem jF.eval{α:Type}{n:Nat}{P:α→Prop}{lt:Nat→Nat→Bool}: ∀{t:KasT α},jF n P t→P (KP t lt)
 | .ret a,h=>h| .ask i j k,h=>jF.eval (t:=k (lt i j)) (h.2.2 _)
theorem jF.run{α:Type}{n:Nat}{P:α→Prop}{lt:Nat→Nat→Bool}{cmp:Nat→Nat→(Bool→aL→Prop)→aL→Prop}{s:aL}{G:α→aL→Prop}(hc: ∀i j C,i<n→j<n→C (lt i j) s→cmp i j C s): ∀{t:KasT α},jF n P t→G (KP t lt) s→t.kasWp cmp G s
 | .ret a,_,g=>g| .ask i j k,h,g=>hc i j _ h.1 h.2.1 (jF.run hc (h.2.2 _) g)
section
variable{n:Nat}
noncomputable def Pl(n:Nat)(p:Array Nat):Prop:=p.Perm (yL (fP n))
theorem Pl.lt(hn:0<n){p:Array Nat}(h:Pl n p)(k:Nat):p.getD k 0<n:=by
 by_cases hk:k<p.size
 ·have e:p.getD k 0=p[k]:=by simp[Rx,hk]
  rw[e];have:p[k]∈(yL (fP n)):=(aB1 h).mp (Array.getElem_mem hk);simpa using this
 ·have e:p.getD k 0=0:=by simp[Rx,hk]
  rw[e];exact hn
theorem Pl.rev{p:Array Nat}(h:Pl n p)(i j:Nat):Pl n (kas_rev p i j):=(mirror_perm p i j _).trans h
theorem Pl.Zs{p:Array Nat}(h:Pl n p)(i j:Nat):Pl n (bubble p i j):=(bubble_perm p i j).trans h
theorem UJ(hn:0<n){p:Array Nat}(h:Pl n p): ∀(f k:Nat),jF n (fun _=>True) (kas_asc p f k)
 |0,_=>trivial|f+1,k=>by
  refine⟨h.lt hn _,h.lt hn _,fun b=>?_⟩;cases b
  ·exact UJ hn h f (k+1)
  ·exact trivial
theorem LV(hn:0<n): ∀(f:Nat) {p:Array Nat} (_:Pl n p) (k q:Nat),jF n (fun r:Array Nat×Nat×Nat=>Pl n r.1) (kas_desc f p k q)
 |0,_,h,_,_=>h|f+1,p,h,k,q=>by
  refine⟨h.lt hn _,h.lt hn _,fun b=>?_⟩;cases b
  ·refine⟨h.lt hn _,h.lt hn _,fun d=>?_⟩
   cases d
   ·exact LV hn f h _ _
   ·exact h
  ·show jF n _ (if q>0 then _ else _)
   split
   ·exact LV hn f (h.rev _ _) _ _
   ·exact LV hn f h _ _
theorem Kl(hn:0<n){p:Array Nat}(h:Pl n p)(k r:Nat):jF n (fun r:Nat×Array Nat=>Pl n r.2) (kas_tail3 k r p):=
 (UJ hn (h.rev _ _) _ _).bind fun _ _=>h.rev _ _
theorem Kj(hn:0<n){p:Array Nat}(h:Pl n p)(k r:Nat):jF n (fun r:Nat×Array Nat=>Pl n r.2) (kas_descPart k r p):=
 (LV hn _ h _ _).bind fun a ha=>by
  show jF n _ (if a.2.2>0 then _ else _);split
  ·exact Kl hn (Pl.rev ha _ _) _ _
  ·exact Kl hn ha _ _
theorem fz(hn:0<n){p:Array Nat}(h:Pl n p)(r:Nat):jF n (fun r:Nat×Array Nat=>Pl n r.2) (kas_count r p):=
 (UJ hn h _ _).bind fun a _=>by
  split
  ·exact h
  ·split
   ·refine⟨h.lt hn _,h.lt hn _,fun c=>?_⟩
    cases c
    ·exact Kj hn (h.rev _ _) _ _
    ·exact h
   ·exact Kj hn h _ _
theorem UK(hn:0<n){p:Array Nat}(h:Pl n p)(k:Nat): ∀(f l r:Nat),jF n (fun _=>True) (kas_place p k f l r)
 |0,_,_=>trivial|f+1,l,r=>by
  unfold kas_place;split
  ·exact trivial
  ·refine⟨h.lt hn _,h.lt hn _,fun c=>?_⟩
   cases c
   ·exact UK hn h k f _ _
   ·exact UK hn h k f _ _
theorem Ki(hn:0<n): ∀(f:Nat) {p:Array Nat} (_:Pl n p) (k:Nat),jF n (Pl n) (kas_bin f p k)
 |0,_,h,_=>h|f+1,p,h,k=>(UK hn h k k 0 k).bind fun l _=>Ki hn f (h.Zs _ _) _
theorem Kk(hn:0<n):jF n (Pl n) (kas_sort n):=
 (fz hn (p:=yL (fP n)) (.refl _) n).bind fun a ha=>by
  split
  ·exact Ki hn _ ha _
  ·exact ha
end
theorem XH(n:Nat)(lt:Nat→Nat→Bool):(mQ n lt).Perm (fP n):=by
 unfold mQ;split
 ·exact .refl _
 ·rename_i h
  have:=(Kk (n:=n) (aS 1057731427500049 rfl h)).eval (lt:=lt);simpa using Array.perm_iff_toList_perm.mp this
theorem Po(n:Nat)(lt:Nat→Nat→Bool):(mQ n lt).length=n:=by rw[(XH n lt).length_eq,EF]
theorem yq{n:Nat}{lt:Nat→Nat→Bool}{i:Nat}(h:i∈mQ n lt):i<n:=by simpa using(XH n lt).mem_iff.mp h
section
variable{prog:Program}{w:World}{A:cH}{E:aF→aL→Prop}{s:aL}
theorem yt{vs:List aF}{lt:Nat→Nat→Bool}(h2:vs.length<2):(vs.toArray.zip vs.toArray).map (·.2)=yL ((mQ vs.length lt).map fun i=>vs.getD i fR):=by
 unfold mQ;rw[aV h2]
 induction vs using List.casesOn with
 |nil=>simp|cons v r=>induction r using List.casesOn with
  |nil=>simp[List.range_succ]|cons u r=>exact absurd h2 (yP.mpr (Nat.le_add_left 2 _))
theorem jr{a:Addr}{vs:List aF}{n:Nat}{κ:SortKind}{lt:Nat→Nat→Bool}{P:Xb→aL→Prop}(ho:s.heap.get? a=some (cQ vs n))(wJ:vs.length<64)
  (hκ:2≤vs.length→∀(s':aL) (Q:SortKind→aL→Prop),(∀b o,b≠a→s.heap.get? b=some o→s'.heap.get? b=some o)→Q κ s'→aP (aM prog w) A (keyKind' vs.toArray) Q (fun _ _=>False) s')
  (LH: ∀(s':aL) (i j:Nat) (C:Bool→aL→Prop),(∀b o,b≠a→s.heap.get? b=some o→s'.heap.get? b=some o)→i<vs.length→j<vs.length→C (lt i j) s'→aP (aM prog w) A (keyLt' κ (vs.getD i fR) (vs.getD j fR)) C (fun _ _=>False) s')
  (h:P (.done (.ret .none)) {s with heap:=sortedHeap s.heap a vs (yL ((mQ vs.length lt).map fun i=>vs.getD i fR))}):aP (aM prog w) A (Builtin.«list.sort» ⟨[.ref a],[]⟩) P E s:=by
 rw[list_sort_plain];have ha:a<s.heap.objs.size:=fI ho;refine aO (listItems_at ho rfl ?_);refine aO (listUpdate_at ho rfl ?_ (by rw[fN,sizeLine_eq];exact aS 77904894094539582315301238965616784 rfl wJ) (lK _));obtain⟨e1,pX⟩: ∃e1,(s.heap.update a (mE fun _=>(#[]:Array aF))).get? a=some (seqObj "list" #[] e1):=⟨_,get?_update_seq ho (fun _=> #[])⟩;refine aO (seqEpoch_at pX rfl ?_);refine aO (wpAny_newTuple ?_ (by show vs.length≤_;rw[sizeLine_eq];exact aS 77904894094539582315301238965616784 rfl wJ));refine aO (Ri ?_ (lK _));refine mV ?_;have BZ:(((s.heap.update a (mE fun _=>(#[]:Array aF))).push (seqObj "tuple" vs.toArray 0)).push (seqObj "list" #[] 0)).get? a=some (seqObj "list" #[] e1):=
  eJ _ (eJ _ pX)
 show aP (aM prog w) A _ P E {s with heap:=((s.heap.update a (mE fun _=>(#[]:Array aF))).push (seqObj "tuple" vs.toArray 0)).push (seqObj "list" #[] 0)};have keep: ∀b o,b≠a→s.heap.get? b=some o→(((s.heap.update a (mE fun _=>(#[]:Array aF))).push (seqObj "tuple" vs.toArray 0)).push (seqObj "list" #[] 0)).get? b=some o:=fun b o hb e=>
  eJ _ (eJ _ ((oF _ _ (gH hb)).trans e))
 dsimp only;by_cases h2:vs.length<2
 ·have dQ:vs.toArray.size<2:=by rw[fN];exact h2
  rw[aV dQ,aV dQ];refine aO (bA (aO (bA ?_)));dsimp only;refine aO (seqEpoch_at BZ rfl ?_);have LM:(arrOf (SortSt.mk' general' (vs.toArray.zip vs.toArray) #[] 7 none)).map (·.2)=yL ((mQ vs.length lt).map fun i=>vs.getD i fR):=by
   exact yt h2
  rw[LM];refine aO (listUpdate_at BZ rfl ?_ (lK _) (by rw[fN,cR,Po,sizeLine_eq];exact aS 77904894094539582315301238965747856 rfl wJ));simp only[bne_self_eq_false,xZ,if_false];exact bA h
 ·have Hd:2≤vs.length:=by exact aS 1057731427502096 rfl h2
  have dQ: ¬vs.toArray.size<2:=by rw[fN];exact aS 1057731427696788 rfl h2
  rw[aN dQ,aN dQ];refine aO (rS (hκ Hd _ (fun κ' s'=>κ'=κ∧s'={s with heap:=((s.heap.update a (mE fun _=>(#[]:Array aF))).push (seqObj "tuple" vs.toArray 0)).push (seqObj "list" #[] 0)}) keep ⟨rfl,rfl⟩) (fun κ' s' hk=>?_) fun _ _ x=>x.elim);obtain⟨rfl,rfl⟩:=hk;refine aO (rS (kat_run (Q:=fun zW s'=>(arrOf zW).map (·.2)=yL ((mQ vs.length lt).map fun i=>vs.getD i fR)∧failedOf zW=none∧s'={s with heap:=((s.heap.update a (mE fun _=>(#[]:Array aF))).push (seqObj "tuple" vs.toArray 0)).push (seqObj "list" #[] 0)})
   (G:=fun p s'=>p.toList=mQ vs.length lt∧s'={s with heap:=((s.heap.update a (mE fun _=>(#[]:Array aF))).push (seqObj "tuple" vs.toArray 0)).push (seqObj "list" #[] 0)})
   rfl Hd wJ (fun p' zW s' a1 a2 a3 a4=>⟨by rw[kat_snds rfl a2,a4.1],a3,a4.2⟩) ((Kk (n:=vs.length) (aS 1057731427500049 rfl h2)).run (lt:=lt) (fun i j C hi hj hc=>LH _ i j C keep hi hj hc) ⟨by unfold mQ;rw[aN h2],rfl⟩)) ?_ fun _ _ e=>e)
  rintro⟨⟨⟩,zW⟩ s' ⟨LM,hf,rfl⟩;dsimp only at LM hf⊢;refine aO (seqEpoch_at BZ rfl ?_);rw[LM];refine aO (listUpdate_at BZ rfl ?_ (lK _) (by rw[fN,cR,Po,sizeLine_eq];exact aS 77904894094539582315301238965747856 rfl wJ));rw[hf];simp only[bne_self_eq_false,xZ,if_false];exact bA h
end
section
variable{prog:Program}{w:World}{A:cH}{E:aF→aL→Prop}{s:aL}
theorem sortedHeap_at{h:Heap}{a:Addr}{vs:List aF}{n:Nat}{out:Array aF}(ho:h.get? a=some (cQ vs n)):(∃k,(sortedHeap h a vs out).get? a=some {cls:= .type "list",data:= .seq out k})∧∀b o,b≠a→h.get? b=some o→(sortedHeap h a vs out).get? b=some o:=by
 unfold sortedHeap;obtain⟨e1,pX⟩: ∃e1,(h.update a (mE fun _=>(#[]:Array aF))).get? a=some (seqObj "list" #[] e1):=⟨_,get?_update_seq ho (fun _=> #[])⟩;have BZ:(((h.update a (mE fun _=>(#[]:Array aF))).push (seqObj "tuple" vs.toArray 0)).push (seqObj "list" #[] 0)).get? a=some (seqObj "list" #[] e1):=
  eJ _ (eJ _ pX)
 refine⟨⟨_,get?_update_seq BZ (fun _=>out)⟩,fun b o hb e=>?_⟩;rw[oF _ _ (gH hb)];exact eJ _ (eJ _ ((oF _ _ (gH hb)).trans e))
theorem G1{a b:Int}{t u:Tok}{Q:Bool→aL→Prop}(h:Q (decide (a<b)) s):aP (aM prog w) A (oneLt' false (.int a t) (.int b u)) Q E s:=
 kat_one _ _ (Wf (show W.BoolBack Q (.bool (decide (a<b))) s from h))
theorem yv{vs:List aF}{κ:SortKind}{lt:Nat→Nat→Bool}{Q:aF→aL→Prop}(wJ:vs.length<64)
  (hκ:2≤vs.length→∀(A:cH) (s':aL) (Q:SortKind→aL→Prop),(∀b o,s.heap.get? b=some o→s'.heap.get? b=some o)→Q κ s'→aP (aM prog w) A (keyKind' vs.toArray) Q (fun _ _=>False) s')
  (LH: ∀(A:cH) (s':aL) (i j:Nat) (C:Bool→aL→Prop),(∀b o,s.heap.get? b=some o→s'.heap.get? b=some o)→i<vs.length→j<vs.length→C (lt i j) s'→aP (aM prog w) A (keyLt' κ (vs.getD i fR) (vs.getD j fR)) C (fun _ _=>False) s')
  (h: ∀h' k,(∀b o,s.heap.get? b=some o→h'.get? b=some o)→h'.get? s.heap.objs.size=some (cQ ((mQ vs.length lt).map fun i=>vs.getD i fR) k)→Q (.ref s.heap.objs.size) {s with heap:=h'}):
  aP (aM prog w) A (do let l←newList vs;let _←holding [l] (call (.builtin "list.sort") [l] []);ret l) (fun fin s'=>match fin with| .done (.ret v)=>Q v s'|_=>False) E s:=by
 refine aO (Ri ?_ (by rw[sizeLine_eq];exact aS 77904894094539582315301238965616784 rfl wJ));have TW:(s.heap.push (cQ vs 0)).get? s.heap.objs.size=some (cQ vs 0):=jM _ rfl;have lift: ∀{s':aL},(∀b o,b≠s.heap.objs.size→(s.heap.push (cQ vs 0)).get? b=some o→s'.heap.get? b=some o)→∀b o,s.heap.get? b=some o→s'.heap.get? b=some o:=fun k b o e=>k b o (lJ (fI e)) (eJ _ e);refine aO (mV (rR slot_list_sort ⟨_,TW,rfl⟩ entry_list_sort (jr (s:={s with heap:=s.heap.push (cQ vs 0)}) (κ:=κ) (lt:=lt) TW wJ (fun h2 s' Q k=>hκ h2 _ s' Q (lift k)) (fun s' i j C k hi hj=>LH _ s' i j C (lift k) hi hj) ?_) (args_list_sort _)));refine⟨_,rfl,bA ?_⟩;obtain⟨⟨k,hk⟩,keep⟩:=sortedHeap_at (out:=yL ((mQ vs.length lt).map fun i=>vs.getD i fR)) TW;exact h _ k (fun b o e=>keep b o (lJ (fI e)) (eJ _ e)) hk
end
section
variable{g:Gl}{S:Sc}
noncomputable def Sa(g:Gl)(s:aL)(l:List PV)(vs:List aF)(κ:SortKind):Prop:=(2≤vs.length→∀(A:cH) (s':aL) (Q:SortKind→aL→Prop),(∀b o,s.heap.get? b=some o→s'.heap.get? b=some o)→Q κ s'→aP (aM g.prog g.w) A (keyKind' vs.toArray) Q (fun _ _=>False) s')∧
  (∀(A:cH) (s':aL) (i j:Nat) (C:Bool→aL→Prop),(∀b o,s.heap.get? b=some o→s'.heap.get? b=some o)→i<vs.length→j<vs.length→C (ltV (l.getD i .none) (l.getD j .none)) s'→aP (aM g.prog g.w) A (keyLt' κ (vs.getD i fR) (vs.getD j fR)) C (fun _ _=>False) s')
theorem bE.at{h:Heap}{ι:List Addr}{l:List PV}{vs:List aF}(r:bE g h ι l vs){i:Nat}(hi:i<vs.length):l.getD i .none∈l∧dH g h ι (l.getD i .none) (vs.getD i fR):=by
 have hl:i<l.length:=by rw[r.length]at hi;exact hi
 have hp:l[i]?=some l[i]:=fZ hl;refine r.get hp fun v hv rv=>?_;rw[show l.getD i .none=l[i] by simp[PC,hp],show vs.getD i fR=v by simp[PC,hv]];exact⟨JI _,rv⟩
theorem OR{α:Type}{o:Option α}{f:α→Bool}(h:o.any f=true): ∃a,o=some a∧f a=true:=by
 induction o using Option.casesOn with
 |none=>injection h|some a=>exact⟨a,rfl,h⟩
theorem PP{l:List PV}(h:l.all pZ=true){p:PV}(m:p∈l): ∃a,p= .int a:=by
 obtain⟨a,e⟩:=vU.mp (jT.mp h p m);exact⟨a,iV e⟩
theorem QA{l:List PV}(h:l.all Ju=true){p:PV}(m:p∈l): ∃a,p= .str a:=by
 obtain⟨a,e⟩:=vU.mp (jT.mp h p m);exact⟨a,pJ e⟩
theorem PZ{l:List PV}{x:Str}(h:l.all (UH x)=true){p:PV}(m:p∈l): ∃n,p= .tup [.str x,.int n]:=by
 obtain⟨q,e,e2⟩:=OR (jT.mp h p m);obtain⟨y,n⟩:=q;have e2:y=x:=cK e2;subst e2;exact⟨n,sr e⟩
theorem dm{σ:Hx g}{l:List PV}{vs:List aF}(r:σ.Vs l vs)(k: ∀p∈l,∃a,p= .int a): ∃ns,IntsAre vs ns:=by
 induction l generalizing vs with
 |nil=>cases(show vs=[]from r);exact⟨[],.nil⟩|cons p l ih=>
  obtain⟨v,r',rfl,r1,r2⟩:=(show∃v r',vs=v::r'∧σ.V p v∧σ.Vs l r' from r);obtain⟨ns,dA⟩:=ih r2 fun q hq=>k q (.tail _ hq);obtain⟨a,rfl⟩:=k p (.head _);exact r1.int fun t=>⟨a::ns,.cons a t dA⟩
theorem x4{σ:Hx g}{l:List PV}{vs:List aF}(r:σ.Vs l vs)(k: ∀p∈l,∃a,p= .str a): ∃ns,StrsAre vs ns:=by
 induction l generalizing vs with
 |nil=>cases(show vs=[]from r);exact⟨[],.nil⟩|cons p l ih=>
  obtain⟨v,r',rfl,r1,r2⟩:=(show∃v r',vs=v::r'∧σ.V p v∧σ.Vs l r' from r);obtain⟨ns,dA⟩:=ih r2 fun q hq=>k q (.tail _ hq);obtain⟨a,rfl⟩:=k p (.head _);exact r1.str fun t=>⟨a::ns,.cons a t dA⟩
theorem WM{σ:Hx g}{x:Str}{n:Int}{M:aF→Prop}{v:aF}(r:σ.V (.tup [.str x,.int n]) v)(k: ∀a t u k,σ.s.heap.get? a=some (fV [.str x t,.int n u] k)→M (.ref a)):M v:=by
 refine r.tup fun a vs kk e rv=>?_;revert e;refine rv.two (M:=fun vs=>σ.s.heap.get? a=some (fV vs kk)→M (.ref a)) fun v1 v2 r1 r2=>?_;exact Hx.V.str (M:=fun v1=>σ.s.heap.get? a=some (fV [v1,v2] kk)→M (.ref a)) r1 fun t=>Hx.V.int (M:=fun v2=>σ.s.heap.get? a=some (fV [.str x t,v2] kk)→M (.ref a)) r2 fun u=>k a t u kk
theorem gb{σ:Hx g}{h':Heap}{x:Str}(k: ∀b o,σ.s.heap.get? b=some o→h'.get? b=some o){l:List PV}{vs:List aF}(r:σ.Vs l vs)(q: ∀p∈l,∃n,p= .tup [.str x,.int n]): ∃fs,KatTups h' vs fs∧fs.length=vs.length∧∀v∈fs,∃t,v= .str x t:=by
 induction l generalizing vs with
 |nil=>cases(show vs=[]from r);exact⟨[],.nil,rfl,fun v hv=>nomatch hv⟩|cons p l ih=>
  obtain⟨v,r',rfl,r1,r2⟩:=(show∃v r',vs=v::r'∧σ.V p v∧σ.Vs l r' from r);obtain⟨fs,h1,h2,h3⟩:=ih r2 fun p hp=>q p (.tail _ hp);obtain⟨n,rfl⟩:=q p (.head _);exact WM (M:=fun v=> ∃fs,KatTups h' (v::r') fs∧fs.length=(v::r').length∧∀v∈fs,∃t,v= .str x t) r1 fun a t u kk e=>⟨.str x t::fs,.cons (k _ _ e) rfl rfl rfl h1,bN (· +1) h2,fun v hv=>(dJ.mp hv).elim (fun e=>⟨t,e⟩) (h3 v)⟩
theorem gm{vs:List aF}{ns:List Int}{A:cH}{s:aL}{Q:SortKind→aL→Prop}(h:IntsAre vs ns)(h2:2≤vs.length)(q:Q oneType' s):aP (aM g.prog g.w) A (keyKind' vs.toArray) Q (fun _ _=>False) s:=by
 induction vs using List.casesOn with
 |nil=>exact absurd h2 (by decide)|cons v r=>induction r using List.casesOn with
  |nil=>exact absurd h2 (by decide: ¬2≤1)|cons v2 r=>rw[keyKind_ints h];exact bA q
theorem gn{vs:List aF}{ns:List Str}{A:cH}{s:aL}{Q:SortKind→aL→Prop}(h:StrsAre vs ns)(h2:2≤vs.length)(q:Q oneType' s):aP (aM g.prog g.w) A (keyKind' vs.toArray) Q (fun _ _=>False) s:=by
 induction vs using List.casesOn with
 |nil=>exact absurd h2 (by decide)|cons v r=>induction r using List.casesOn with
  |nil=>exact absurd h2 (by decide: ¬2≤1)|cons v2 r=>rw[keyKind_strs h];exact bA q
theorem lt_int{σ:Hx g}{p q:PV}{v u:aF}{A:cH}{s:aL}{C:Bool→aL→Prop}(hp: ∃a,p= .int a)(hq: ∃a,q= .int a)(rp:σ.V p v)(rq:σ.V q u)(c:C (ltV p q) s):aP (aM g.prog g.w) A (keyLt' oneType' v u) C (fun _ _=>False) s:=by
 obtain⟨a,rfl⟩:=hp;obtain⟨b,rfl⟩:=hq;refine rp.int fun t=>rq.int fun t'=>?_;rw[keyLt'_oneType];exact oneLt_int c
theorem lt_str{σ:Hx g}{p q:PV}{v u:aF}{A:cH}{s:aL}{C:Bool→aL→Prop}(hp: ∃a,p= .str a)(hq: ∃a,q= .str a)(rp:σ.V p v)(rq:σ.V q u)(c:C (ltV p q) s):aP (aM g.prog g.w) A (keyLt' oneType' v u) C (fun _ _=>False) s:=by
 obtain⟨a,rfl⟩:=hp;obtain⟨b,rfl⟩:=hq;refine rp.str fun t=>rq.str fun t'=>?_;rw[keyLt'_oneType];exact oneLt_str c
theorem kj{σ:Hx g}{p q:PV}{v u:aF}{x:Str}{A:cH}{s:aL}{C:Bool→aL→Prop}(hp: ∃n,p= .tup [.str x,.int n])(hq: ∃n,q= .tup [.str x,.int n])(rp:σ.V p v)(rq:σ.V q u)(k: ∀b o,σ.s.heap.get? b=some o→s.heap.get? b=some o)(c:C (ltV p q) s):
  aP (aM g.prog g.w) A (keyLt' (tuples' (oK "str" !=oK "tuple")) v u) C (fun _ _=>False) s:=by
 obtain⟨n,rfl⟩:=hp;obtain⟨n',rfl⟩:=hq;refine WM (M:=fun v=>aP (aM g.prog g.w) A (keyLt' (tuples' (oK "str" !=oK "tuple")) v u) C (fun _ _=>False) s) rp fun a t w kk e=>WM (M:=fun u=>aP (aM g.prog g.w) A (keyLt' (tuples' (oK "str" !=oK "tuple")) (.ref a) u) C (fun _ _=>False) s) rq fun a' t' w' kk' e'=>?_;refine kat_lt (k _ _ e) rfl (k _ _ e') rfl (kat_cons (aBN ?_));rw[cC rfl];refine kat_yes (kat_cons (aBM ?_));have c:C (decide (n<n')) s:=c;cases hq:(n==n')with
 |true=>
  have e:=eq_of_beq hq;subst e;refine kat_yes (kat_nil ?_);simpa using c
 |false=>exact kat_no (G1 c)
theorem yu{σ:Hx g}{l:List PV}{vs:List aF}(hs:sortable l=true)(r:σ.Vs l vs): ∃κ:SortKind,Sa g σ.s l vs κ:=by
 rcases OA.mp hs with hs|hs
 ·rcases OA.mp hs with hs|hs
  ·obtain⟨ns,hI⟩:=dm r fun p=>PP hs
   exact⟨oneType',fun h2 A s' Q _ q=>gm hI h2 q,fun A s' i j C _ hi hj c=>lt_int (PP hs (r.at hi).1) (PP hs (r.at hj).1) (r.at hi).2 (r.at hj).2 c⟩
  ·obtain⟨ns,hI⟩:=x4 r fun p=>QA hs
   exact⟨oneType',fun h2 A s' Q _ q=>gn hI h2 q,fun A s' i j C _ hi hj c=>lt_str (QA hs (r.at hi).1) (QA hs (r.at hj).1) (r.at hi).2 (r.at hj).2 c⟩
 ·obtain⟨p,_,hs⟩:=OR hs
  obtain⟨y,_,hs⟩:=OR hs;refine⟨tuples' (oK "str" !=oK "tuple"),fun h2 A s' Q k q=>?_,fun A s' i j C k hi hj c=>kj (PZ hs (r.at hi).1) (PZ hs (r.at hj).1) (r.at hi).2 (r.at hj).2 k c⟩;obtain⟨fs,h1,h3,h4⟩:=gb k r fun p=>PZ hs;refine kat_kind h1 (aX 2223995931557118410769 rfl h2 h3) (T:= .type "str") (fun v hv=>?_) (by decide) q;obtain⟨t,rfl⟩:=h4 v hv;exact Uz rfl
theorem yr{h:Heap}{ι:List Addr}{l:List PV}{vs:List aF}(r:bE g h ι l vs)(lt:Nat→Nat→Bool):bE g h ι ((mQ l.length lt).map fun i=>l.getD i .none) ((mQ vs.length lt).map fun i=>vs.getD i fR):=by
 rw[←r.length];have key: ∀{is:List Nat},(∀i∈is,i<vs.length)→bE g h ι (is.map fun i=>l.getD i .none) (is.map fun i=>vs.getD i fR):=by
  intro is
  induction is with
  |nil=>intro _;exact bE.nil|cons i is ih=>exact fun hi=>bE.cons (r.at (hi i (.head _))).2 (ih fun j hj=>hi j (.tail _ hj))
 exact key fun i hi=>yq hi
theorem ys{H:PH}{x:PV}{l:List PV}{P:PV→List PV→Prop}(e:XI H x=some l)(h1: ∀r l,H[r]?=some (.list l)→P (.ref r) l)(h2: ∀r es lk,H[r]?=some (.dict es lk)→P (.ref r) (es.map fun e=>e.1.val)):P x l:=by
 obtain⟨r,o,e1,e2,e3⟩:=qG e;subst e1
 induction o using PO.casesOn with
 |list l=>injection e3 with e3;subst e3;exact h1 r l e2
 |dict es lk=>injection e3 with e3;subst e3;exact h2 r es lk e2
 |_=>injection e3
theorem Pq{σ τ:Hx g}{A:cH}{Q E:aF→aL→Prop}{l:List PV}{vs:List aF}(L:σ.Le τ)(eH:τ.H=σ.H)(hs:sortable l=true)(hl:l.length<64)(r:τ.Vs l vs)(p:σ.bD Hx.V (iG (gN l) σ.H) Q E):
  aP (aM g.prog g.w) A (do let l←newList vs;let _←holding [l] (call (.builtin "list.sort") [l] []);ret l) (fun fin s'=>match fin with| .done (.ret v)=>Q v s'|_=>False) E τ.s:=by
 obtain⟨κ,h1,h2⟩:=yu hs r;rw[←r.length]at hl;have p:=p.le L;rw[←eH]at p;exact yv (κ:=κ) (lt:=fun i j=>ltV (l.getD i .none) (l.getD j .none)) hl h1 h2 (Q:=Q) fun h' k keep ho=>p.VJ (t:=τ.s.toks) (yr r _) keep (BQ _) τ.X.size ho
theorem qy:vS g (.builtin "sorted") DI:=by
 intro A σ Q E x a hh hu O ra p;refine p.ob fun l e p=>p.cB fun hc p9=>?_;obtain⟨hs,hl⟩:=eY.mp hc;have hl:=cK hl;revert ra hs hl p9;refine ys (P:=fun x l=>σ.V x a→σ.bD Hx.V (iG (gN l) σ.H) Q E→sortable l=true→l.length<64→aP (aM g.prog g.w) A (call (.builtin "sorted") [a]) Q E σ.s) e (fun r l e ra p hs hl=>?_) (fun r es lk e ra p hs hl=>?_)
 ·refine ra.list (M:=fun a=>aP (aM g.prog g.w) A (call (.builtin "sorted") [a]) Q E σ.s) e fun a' vs n ea et rv=>?_
  refine ZF kind_sorted plain_sorted entry_sorted (args_sorted1 _) ?_;unfold Builtin.«sorted»;refine aO (m:=checkCount "sorted" 1 1 _) (bA ?_);refine aO (collect_list ⟨_,et,rfl,_,rfl⟩ ?_ (by rw[sizeLine_eq];exact aX 163378409652805612404175157736615956267152 rfl rv.length hl));have k1: ∀b o,σ.s.heap.get? b=some o→((σ.s.heap.push (seqObj "list" #[] 0)).update σ.s.heap.objs.size (mE (· ++vs.toArray))).get? b=some o:=fun b o e=>
   (oF _ _ (Vk (fI e))).trans (eJ _ e)
  refine rS (Pq (τ:=σ.ext k1) σ.uD rfl hs hl (rv.le σ.uD) p) (fun fin s' q=>?_) fun _ _ q=>q;rcases fin with(v|_|_|_)|_<;>first|exact q.elim|exact⟨_,rfl,q⟩
 ·refine ra.dict (M:=fun a=>aP (aM g.prog g.w) A (call (.builtin "sorted") [a]) Q E σ.s) e fun a' ds n ea et y _=>?_
  rw[cR]at hl;refine ZF kind_sorted plain_sorted entry_sorted (args_sorted1 _) ?_;unfold Builtin.«sorted»;refine aO (m:=checkCount "sorted" 1 1 _) (bA ?_);refine aO (kdu_collect (k9 (n:=n) (oP O ea)) hh et (by rw[sizeLine_eq];exact aX 163378409652805612404175157736615956267152 rfl y.length hl) fun h' tk acc k1 hi=>?_);rw[Bz (f:=aCK) hi.1 fun i v e=>hi.2 i v e];have L:=σ.uD (k:=k1);refine rS (Pq (τ:=(σ.ext k1).tok tk) (L.trans (Hx.AA _)) rfl hs (by rw[cR];exact hl) (bE.mono σ.X.dZ L.grow (Pre.nil _) _ (Ez y)) p) (fun fin s' q=>?_) fun _ _ q=>q;rcases fin with(v|_|_|_)|_<;>first|exact q.elim|exact⟨_,rfl,q⟩
end
theorem x7:isSubtype (.type "dict_values") (.type "set")=pure false:=by rw[isSubtype_type];kernel_rfl
theorem x6:isSubtype (.type "dict_values") (.type "frozenset")=pure false:=by rw[isSubtype_type];kernel_rfl
section
variable{prog:Program}{w:World}{A:cH}{E:aF→aL→Prop}{s:aL}
theorem ya{v d S:Addr}{ds:List fM}{n:Nat}{ns:List Int}{led:Bool}{P:Result→aL→Prop}(hh:A.handled=none)(hS:s.heap.get? S=some {cls:= .type "set",dict:=none,data:= .set #[] 0 (.fresh 0 0 led)})
  (hv:s.heap.IsValuesView v d) (ho:s.heap.get? d=some (fJ ds n)) (hi:IntsAre (ds.map (·.val)) ns) (hb:ds.length+1<scanBound) (hd:d≠S)
  (h: ∀h' tk,h'.SetOf (intKind prog w) S (fun k'=>(firstMet (fun i=>ns.getD i 0) ds.length).any (· ==k')) (firstMet (fun i=>ns.getD i 0) ds.length).length→(∀b o,b≠S→s.heap.get? b=some o→h'.get? b=some o)→P (.ok (.ret .none)) {s with heap:=h',toks:=tk}):
  codeAny (aM prog w) A (.call (.builtin "set.__init__") ⟨[.ref S,.ref v],[]⟩) P s:=by
 have hT:s.TypeIs (.ref S) "set":=⟨_,hS,rfl⟩;refine codeAny_call_builtin yT.init.plain PySem.F.entry_set_init (check_set_init_1 hT ?_);refine bQ fun G_ aQ=>?_;obtain⟨⟨aD2,aD4,aD3,aD5⟩,LO,TN,LA⟩:=id hv;simp only at TN LA;subst TN LA;have aDZ:=x7;have aDY:=x6;have eP:(oK "dict_values"==oK "dict")=false:=by decide
 refine aQ ?_;unfold Builtin.«set.__init__» noKeywords aCB;generalize V8:pyIter=PI
 wp_walk
 subst V8;refine Qm hv ho ?_;refine aO (wpAny_runValue ?_);have ls:=fI hS;have ld:=fI ho;have Y6:A.in1.in1.handled=none:=by simp[hh]
 have V9:S∉[s.heap.objs.size,d]:=fun q=>(dJ.mp q).elim (lJ ls) fun q=>hd (eZ.mp q).symm;have be: ∀(i:Nat) (v:aF),(∃e,ds[i]?=some e∧v=e.val)→∃t,v= .int ((fun i=>ns.getD i 0) i) t:=fun i v hv=>by
  obtain⟨e,he,rfl⟩:=hv;exact IntsAre.int_at hi i e.val (by rw[fW,he];rfl)
 refine codeAny_set_update_loopS ((Qq Y6 _ d (lJ ld) ds n).toS) S V9 (fun i=>ns.getD i 0) be hb (ds.length-0) 0 _ rfl (lK _) ?hI ?hS0 ?hR
 case hI=>exact⟨⟨_,jM _ rfl,rfl,rfl⟩,eJ _ ho⟩
 case hS0=>exact SetOf_congr ((setObjOf_fresh (knd:=intKind prog w) led).setOf (eJ _ hS) (by decide)) (fun _=>rfl) rfl
 case hR=>
  intro s' hm TK;obtain⟨h',g',d',NO,ri⟩:=s';have eg:g'=s.gens:=hm.gens;have ed:d'=s.drawn:=hm.drawn;have eo:ri=s.os:=hm.os;subst eg;subst ed;subst eo;show aP _ _ _ _ _ _;refine bA ?_;show aP _ _ (ret fR) _ _ _;exact bA (h h' NO TK fun b o hb e=>hm.heap b o (fun q=>(dJ.mp q).elim hb fun q=>lJ (fI e) (eZ.mp q)) (eJ _ e))
theorem C5{v d:Addr}{ds:List fM}{n:Nat}{ns:List Int}{Q:aF→aL→Prop}
  (hh:A.handled=none) (hv:s.heap.IsValuesView v d) (ho:s.heap.get? d=some (fJ ds n)) (hi:IntsAre (ds.map (·.val)) ns) (hb:ds.length+1<scanBound)
  (h: ∀(h':Heap) (tk:Nat),h'.SetOf (intKind prog w) s.heap.objs.size (fun k'=>(firstMet (fun i=>ns.getD i 0) ds.length).any (· ==k')) (firstMet (fun i=>ns.getD i 0) ds.length).length→
   (∀b o,b<s.heap.objs.size→s.heap.get? b=some o→h'.get? b=some o)→Q (.ref s.heap.objs.size) {s with heap:=h',toks:=tk}):
  aP (aM prog w) A (call (.type "set") [.ref v]) Q E s:=by
 obtain⟨c,tl,pW⟩:=yT.mro;have aDT:=yT.made;have aD0:=yT.sub;refine DP (codeAny_of_tree ?_);show aP _ _ (callAny (.type "set") _) _ _ _;refine bA ⟨ZI _ (by decide+kernel),codeAny_builtin PySem.F.entry_type_call ?_⟩;rw[cH.under_plain (PySem.weight_type_call_type "set" [.ref v] []) rfl];have h1:=yT.notType;have h2:=yT.canCreate;have hct:=PySem.F.typeCall_set_1 (.ref v)
 repeat(any_goals (first|assumption|wp_step))
 refine codeAny_mono (code_set_new_1 (.ref v) (E:=E) (Q₁:=fun obj s₁=> ∃led:Bool,obj= .ref s.heap.objs.size∧s₁={s with heap:=s.heap.push {cls:= .type "set",dict:=none,data:= .set #[] 0 (.fresh 0 0 led)}}) fun led=>⟨led,rfl,rfl⟩) fun r s₁ hr=>?_
 induction r using Except.casesOn with
 |error e=>exact hr|ok fl=>
  induction fl using PySem.Flow.casesOn with
  |ret obj=>
   obtain⟨led,rfl,rfl⟩:=hr;have hS:(s.heap.push {cls:= .type "set",dict:=none,data:= .set #[] 0 (.fresh 0 0 led)}).get? s.heap.objs.size=some {cls:= .type "set",dict:=none,data:= .set #[] 0 (.fresh 0 0 led)}:=jM _ rfl;have LE: ∀b o,s.heap.get? b=some o→(s.heap.push {cls:= .type "set",dict:=none,data:= .set #[] 0 (.fresh 0 0 led)}).get? b=some o:=fun _ _ e=>eJ _ e;have ls:d≠s.heap.objs.size:=lJ (fI ho);generalize s.heap.push {cls:= .type "set",dict:=none,data:= .set #[] 0 (.fresh 0 0 led)}=h1 at hS LE⊢;have hli:=yT.init.lookup;have hbi:=yT.init.bind (.ref s.heap.objs.size);have hT:aL.TypeIs {s with heap:=h1} (.ref s.heap.objs.size) "set":=⟨_,hS,rfl⟩;have GQ:h1.IsValuesView v d:=by obtain⟨ov,LO,hv⟩:=hv;exact⟨ov,LE _ _ LO,hv⟩
   repeat(any_goals (first|assumption|wp_step))
   refine ya (s:={s with heap:=h1}) (by simp[hh]) hS GQ (LE _ _ ho) hi hb ls fun h' tk TK eM=>?_
   repeat(any_goals (first|assumption|wp_step))
   exact h _ _ TK fun b o hb e=>eM b o (lJ hb) (LE _ _ e)
  |_=>exact hr.elim
end
section
variable{g:Gl}{S:Sc}{σ τ:Hx g}{A:cH}{Q E:aF→aL→Prop}
theorem aAU{l:List PV}{vs:List aF}{ns:List Int}(e:intsOf l=some ns)(r:σ.Vs l vs):IntsAre vs ns:=by
 induction l generalizing vs ns with
 |nil=>cases(show vs=[]from r);injection e with e;subst e;exact .nil
 |cons p l ih=>
  obtain⟨v,r',rfl,r1,r2⟩:=(show∃v r',vs=v::r'∧σ.V p v∧σ.Vs l r' from r);exact cY e fun a e1 e=>kA (M:=fun ns=>IntsAre (v::r') ns) e fun q e2=>(iV e1▸r1:σ.V (.int a) v).int (M:=fun v=>IntsAre (v::r') (a::q)) fun t=> .cons a t (ih e2 r2)
theorem dq{vs:List aF}{ns:List Int}(x:IntsAre vs ns):vs.length=ns.length:=by
 induction x with
 |nil=>rfl|cons n t _ ih=>exact bN (· +1) ih
theorem range_getD(ns:List Int):(fP ns.length).map (fun i=>ns.getD i 0)=ns:=by
 apply JG;intro i;rw[fW];by_cases h:i<ns.length
 ·rw[PD h,pE,fZ h]
  simp[PC,h]
 ·rw[jN (by simp;exact aX 66007515414672 rfl h),jN (by exact aX 66007515414672 rfl h)];rfl
theorem xx{es:cA}{a v:Addr}{ds:List fM}{n:Nat}{ns:List Int}(hh:A.handled=none)(et:σ.s.heap.get? a=some (fJ ds n))(y:lH g σ.s.heap σ.ι es ds)(hv:σ.s.heap.IsValuesView v a)(dA:intsOf (es.map (·.2))=some ns)(hl:ns.length≤100)(p:σ.bD Hx.V (.ok (.int (distinct ns)) σ.H) Q E):
  aP (aM g.prog g.w) A (call (.type "set") [.ref v]) (fun u s'=>aP (aM g.prog g.w) A (call (.builtin "len") [u]) Q E s') E σ.s:=by
 have hi:=aAU (σ:=σ) dA (SG y);have hlen:ds.length=ns.length:=by have:=dq hi;rw[cR]at this;exact this
 refine C5 hh hv et hi (by unfold scanBound;exact aX 594454234493820473630008542481 rfl hlen hl) fun h' tk hS k=>?_;obtain⟨o,pT,ep,t,ho,hex,hd,hel,aDU,gC,hf,hn⟩:=hS;refine call_len_set (s:={σ.s with heap:=h',toks:=tk}) ho hex hd hf ?_ ?_
 ·rw[hn]
  have:=firstMet_length_le (fun i=>ns.getD i 0) ds.length;have h2:(2:Int)^63=9223372036854775808:=by decide
  exact aX 166058133291993569660748205022005254242457 rfl hn gC
 ·have e1:pT.size=distinct ns:=by
   rw[hn];unfold firstMet distinct;rw[hlen,range_getD]
  rw[e1];exact p _ ((σ.ext fun b o e=>k b o (fI e) e).tok _) (Hx.uD.trans (Hx.AA _)) rfl mX
theorem j7{x z m':Str}{i j:Nat}{o:Expr}{d:D}{np zp apos nB zV pos:Pos}(hs:S.slot x=some (i,aY))(hg:S.glob x=none)(hx:x=aA "len")(hs':S.slot z=some (j,aY))(TQ:S.glob z=none)(hz:z=aA "set")(hm:m'=aA "values")
  (hc:sS o=false) (hl:(apos.endLine==nB.line)=true) (he:bK g S o d):
  bK g S (.Call (.Name x np) [.Call (.Name z zp) [.Call (.Attribute o m' apos) [] [] nB] [] zV] [] pos) (p1 zT d):=by
 intro env A C rest V fr σ F Q E p;subst hm;refine Call_Name (trees:=backTo pos (starEach [.Call (.Name z zp) [.Call (.Attribute o (aA "values") apos) [] [] nB] [] zV] env)) rfl (HF hs hg (show qW x=some (.builtin "len") by subst hx;decide) V F ?_);refine IX rfl (evalArgs_plain (x:=eval (.Call (.Name z zp) [.Call (.Attribute o (aA "values") apos) [] [] nB] [] zV) env) (rest:=[]) (spliced_cons ?_));refine Call_Name (trees:=backTo zV (starEach [.Call (.Attribute o (aA "values") apos) [] [] nB] env)) rfl (HF hs' TQ (show qW z=some (.type "set") by subst hz;decide) V F ?_);refine Bl rfl (evalArgs_plain (x:=eval (.Call (.Attribute o (aA "values") apos) [] [] nB) env) (rest:=[]) (spliced_cons ?_));refine Qv (yU hc) rfl hl (he env A C rest V fr σ F _ E (Hx.bD.bind (R₁:=Hx.V) p fun y v τ l r p=>p.ob fun q e p=>p.ob fun ns dA p=>p.cB fun hle p9=>?_));obtain⟨rfl,e9⟩:=sJ e;refine r.dict e9 fun a ds nn ea et y _=>⟨"dict","dict.values",Bm,Bq,Xa,⟨_,et,rfl⟩,fun b q=>by injection q with q;subst q;exact⟨_,et,rfl⟩,?_⟩;refine IX rfl (Bu (Qo (s:=τ.s) (oP V.ok ea) et (spliced_nil ?_)));have G:=τ.kZ {cls:= .type "dict_values",data:= .fields #[.ref a]} τ.s.toks;exact rS (xx (σ:=τ.push {cls:= .type "dict_values",data:= .fields #[.ref a]} τ.s.toks) (Q:=Q) V.hand (eJ _ et) (lH.mono τ.X.dZ G.grow G.pre _ y) ⟨_,jM _ rfl,rfl,rfl⟩ dA (cK hle) (p9.le G)) (fun u s' q=>spliced_nil q) fun _ _ q=>q
end
section
set_option backward.match.sparseCases false
set_option genCtorIdx false
noncomputable section
noncomputable def iR{α β:Type}(o:Option α)(f: ∀a,o=some a→Option β):Option β:=match o,f with
 |none,_=>none|some a,f=>f a rfl
noncomputable def fH{β:Type}(b:Bool)(f:b=true→Option β):Option β:=match b,f with
 |false,_=>none|true,f=>f rfl
structure Sm(S:Sc)(e:Expr)(d:D)(b:Bool):Prop where
 s: ∀g,bK g S e d
 st:isStar e=false
 nm: ∀op,behindInMarks op e=false
 si: ∀(env:Env) (v:aF),foldedSetIterable e env v=pure v
 t:b=true→∀g,iN g S e (bF d)
 asg: ∀{x xp pos t},nC S x=some t→∀g,lQ g S (.Assign [.Name x xp] e pos) (cW t d)
abbrev CE(S:Sc)(e:Expr):={p:D×Bool//Sm S e p.1 p.2}
def CE.d{S:Sc}{e:Expr}(c:CE S e):D:=c.1.1
theorem CE.s{S:Sc}{e:Expr}(c:CE S e)(g:Gl):bK g S e c.d:=c.2.s g
abbrev CT(S:Sc)(e:Expr):={d:DT// ∀g,iN g S e d}
abbrev So(S:Sc)(es:List Expr):={d:Ds// ∀g,nN g S es d}
abbrev ZB(S:Sc)(ks:List (Option Expr))(vs:List Expr):={d:Ds//(∀g,EN g S ks vs d)∧ks.length=vs.length∧ks.all (·.isSome)=true∧(ks=[]→d=aH)}
abbrev FE:= ∀S e,Option (CE S e)
abbrev FT:= ∀S e,Option (CT S e)
variable{S:Sc}
noncomputable def CE.ok{e:Expr}(d:D)(s: ∀g,bK g S e d)(st:isStar e=false)(nm: ∀op,behindInMarks op e=false)(si: ∀(env:Env) (v:aF),foldedSetIterable e env v=pure v)(hc:pY e=false)(t: ∀(env:Env) (whole:Sem aF),isTrue e env whole=(do let v←whole;standAt e.pos;holding [v] (truthy v))):Option (CE S e):=
 some ⟨(d,true),s,st,nm,si,fun _ g=>Ps (s g) t,fun ht g=>Pt ht hc (s g)⟩
noncomputable def CE.VN{e:Expr}(d:D)(s: ∀g,bK g S e d)(st:isStar e=false)(nm: ∀op,behindInMarks op e=false)(si: ∀(env:Env) (v:aF),foldedSetIterable e env v=pure v)(hc:pY e=false)(b:Bool)(t:b=true→∀g,iN g S e (bF d)):Option (CE S e):=
 some ⟨(d,b),s,st,nm,si,t,fun ht g=>Pt ht hc (s g)⟩
abbrev OF(e:Expr):={y:Str// ∃p,e= .Name y p}
noncomputable def CW: ∀e,Option (OF e)
 | .Name y p=>some ⟨y,p,rfl⟩|_=>none
abbrev ZY(e:Expr):={c:Const// ∃k p,e= .Constant c k p}
noncomputable def RS: ∀e,Option (ZY e)
 | .Constant c k p=>some ⟨c,k,p,rfl⟩|_=>none
abbrev Rv(e:Expr):={q:Expr×Str×Pos//e= .Attribute q.1 q.2.1 q.2.2}
noncomputable def Ce: ∀e,Option (Rv e)
 | .Attribute o a p=>some ⟨(o,a,p),rfl⟩|_=>none
abbrev Sk(e:Expr):={q:Expr×Expr// ∃p,e= .Call q.1 [q.2] [] p}
noncomputable def RI: ∀e,Option (Sk e)
 | .Call f as ks p=>(match as,ks with
  | [a],[]=>some ⟨(f,a),p,rfl⟩|_,_=>none)
 |_=>none
noncomputable def strOf: ∀c:Const,Option {w:Str//c= .str w}
 | .str w=>some ⟨w,rfl⟩|_=>none
noncomputable def FK(f: ∀e,Option (CE S e)): ∀es,Option (So S es)
 | []=>some ⟨aH,fun _=> .nil⟩|e::r=>(f e).bind fun c=>(FK f r).bind fun l=>some ⟨aC c.d l.1,fun g=> .cons c.2.st (c.s g) (l.2 g)⟩
noncomputable def Cz(f: ∀e,Option (CE S e)): ∀ks vs,Option (ZB S ks vs)
 | [],[]=>some ⟨aH,fun _=>za,rfl,rfl,fun _=>rfl⟩|some k::ks,v::vs=>(f k).bind fun a=>(f v).bind fun b=>(Cz f ks vs).bind fun l=>some ⟨aC a.d (aC b.d l.1),fun g=>yz (a.s g) (b.s g) (l.2.1 g),bN (· +1) l.2.2.1,l.2.2.2.1,fun q=>Mc q⟩
 |_,_=>none
theorem I8{ks:List (Option Expr)}{vs:List Expr}{pos:Pos}(l:ZB S ks vs)(hn:ks.length≤15)(g:Gl):bK g S (.Dict ks vs pos) (mM l.1):=by
 by_cases hk:ks=[]
 ·have e:=l.2.2.2.2 hk
  have hv:vs=[]:=JM.mp (by rw[←l.2.2.1,hk];rfl);rw[e];subst hk hv;exact zz
 ·exact zy hk l.2.2.1 l.2.2.2.1 hn (l.2.1 g)
def KW(S:Sc)(x:Str):Option Nat:=(S.slot x).bind fun p=>if p.2=aY then some p.1 else none
def MA(S:Sc)(x:Str):Option Nat:=(S.slot x).bind fun p=>if p.2= .local then some p.1 else none
theorem Km{k:dK}{o:Option (Nat×dK)}{i:Nat}(h:(o.bind fun p=>if p.2=k then some p.1 else none)=some i):o=some (i,k):=
 cY h fun p e h=>by
  by_cases hk:p.2=k
  ·rw[aV hk]at h;exact e.trans (bN some (Prod.ext (gQ h) hk))
  ·rw[aN hk]at h;exact dB h
theorem TI{x:Str}{i:Nat}(h:KW S x=some i):S.slot x=some (i,aY):=Km h
theorem MB{x:Str}{i:Nat}(h:MA S x=some i):S.slot x=some (i,.local):=Km h
theorem nR{x:Str}{s:String}(h:jG x s=true):x=aA s:=cK h
abbrev vJ(S:Sc)(x:Str):={i:Nat//S.slot x=some (i,aY)∧S.glob x=none}
def GU(S:Sc)(x:Str):Option (vJ S x):=iR (KW S x) fun i h=>fH (S.glob x).isNone fun n=>some ⟨i,TI h,PT.mp n⟩
abbrev B1(x:Str):={p:aF×(PV→PH→Out PV)//(∀g,vS g p.1 p.2)∧qW x=some p.1}
def Yo(x:Str):Option (B1 x):=
 (fH (jG x "len") fun h=>some ⟨(_,fX),fun _=>qu,by rw[nR h];decide⟩).or<|
 (fH (jG x "abs") fun h=>some ⟨(_,pI),fun _=>qr,by rw[nR h];decide⟩).or<|
 (fH (jG x "int") fun h=>some ⟨(_,intOp),fun _=>qt,by rw[nR h];decide⟩).or<|
 (fH (jG x "list") fun h=>some ⟨(_,zM),fun _=>qw,by rw[nR h];decide⟩).or<|
 (fH (jG x "sorted") fun h=>some ⟨(_,DI),fun _=>qy,by rw[nR h];decide⟩).or<|
 (fH (jG x "str") fun h=>some ⟨(.type "str",VM),fun _=>qx,by rw[nR h];decide⟩)
def VP(e o:Expr):Prop:= ∃m ap cp,e= .Call (.Attribute o m ap) [] [] cp∧m=aA "values"∧sS o=false∧(ap.endLine==cp.line)=true
abbrev We(e:Expr):={o:Expr//VP e o}
def Qp: ∀e,Option (We e)
 | .Call f as ks cp=>(match as,ks with
  | [],[]=>(Ce f).bind fun r=>fH (jG r.1.2.1 "values") fun h1=>fH (!sS r.1.1) fun h2=>fH (r.1.2.2.endLine==cp.line) fun h3=>some ⟨r.1.1,r.1.2.1,r.1.2.2,cp,bN (fun f=>vL f [] [] cp) r.2,nR h1,oL h2,h3⟩
  |_,_=>none)
 |_=>none
def SP(S:Sc)(e o:Expr):Prop:= ∃f a z,VP a o∧(∃p,e= .Call f [a] [] p)∧(∃p,f= .Name z p)∧z=aA "set"∧∃i,S.slot z=some (i,aY)∧S.glob z=none
def setOf(S:Sc)(e:Expr):Option {o:Expr//SP S e o}:=
 (RI e).bind fun q=>(CW q.1.1).bind fun n=>fH (jG n.1 "set") fun h=>(GU S n.1).bind fun b=>(Qp q.1.2).bind fun v=>some ⟨v.1,_,_,_,v.2,q.2,n.2,nR h,b.1,b.2⟩
noncomputable def CE.call{f:Expr}{as:List Expr}{pos:Pos}(d:D)(s: ∀g,bK g S (.Call f as [] pos) d):Option (CE S (.Call f as [] pos)):=CE.ok d s rfl (fun _=>rfl) (fun _ _=>rfl) rfl fun _ _=>rfl
theorem aAW{g:Gl}{x:Str}{np pos:Pos}{a o:Expr}{d:D}(b:vJ S x)(hx:x=aA "list")(v:VP a o)(h:bK g S o d):bK g S (.Call (.Name x np) [a] [] pos) (p1 AE d):=by
 refine bQ fun G_ aQ=>?_;obtain⟨m,ap,cp,rfl,hm,hc,hl⟩:=v;refine aQ ?_;exact k7 b.2.1 b.2.2 hx hm hc hl h
theorem xw{g:Gl}{x:Str}{np pos:Pos}{a o:Expr}{d:D}(b:vJ S x)(hx:x=aA "len")(w:SP S a o)(h:bK g S o d):bK g S (.Call (.Name x np) [a] [] pos) (p1 zT d):=by
 refine bQ fun G_ aQ=>?_;obtain⟨f,a,z,⟨m,ap,cp,rfl,hm,hc,hl⟩,⟨sp,rfl⟩,⟨zp,rfl⟩,hz,i,h1,h2⟩:=w;refine aQ ?_;exact j7 b.2.1 b.2.2 hx h1 h2 hz hm hc hl h
theorem fj{g:Gl}{x:Str}{np pos:Pos}{e e':Expr}{d:D}(b:vJ S x)(hx:x=aA "isinstance")(n:OF e')(b':vJ S n.1)(hy:n.1=aA "tuple")(lM:isStar e=false)(h:bK g S e d):bK g S (.Call (.Name x np) [e,e'] [] pos) (p1 zK d):=by
 obtain⟨y,p,rfl⟩:=n;exact g0 b.2.1 b.2.2 hx b'.2.1 b'.2.2 hy lM h
def Zx(f: ∀e,Option (CE S e)){x:Str}(b:vJ S x)(np:Pos)(a:Expr)(pos:Pos):Option (CE S (.Call (.Name x np) [a] [] pos)):=
 (fH (jG x "list") fun h=>(Qp a).bind fun v=>(f v.1).bind fun c=>CE.call (p1 AE c.d) fun g=>aAW b (nR h) v.2 (c.s g)).or<|
 (fH (jG x "len") fun h=>(setOf S a).bind fun w=>(f w.1).bind fun c=>CE.call (p1 zT c.d) fun g=>xw b (nR h) w.2 (c.s g)).or<|
 (Yo x).bind fun o=>(f a).bind fun c=>CE.call (p1 o.1.2 c.d) fun g=>zm b.2.1 b.2.2 o.2.2 (o.2.1 g) c.2.st (c.s g)
def Zy(f: ∀e,Option (CE S e)){x:Str}(b:vJ S x)(np:Pos)(a a':Expr)(pos:Pos):Option (CE S (.Call (.Name x np) [a,a'] [] pos)):=
 (fH (jG x "isinstance") fun h=>(CW a').bind fun n=>fH (jG n.1 "tuple") fun h2=>(GU S n.1).bind fun b2=>(f a).bind fun c=>CE.call (p1 zK c.d) fun g=>fj b (nR h) n b2 (nR h2) c.2.st (c.s g)).or<|
 fH (jG x "min") fun h=>(f a).bind fun c=>(f a').bind fun c'=>CE.call (p2 xG c.d c'.d) fun g=>i7 b.2.1 b.2.2 (nR h) c.2.st c'.2.st (c.s g) (c'.s g)
noncomputable def refOf: ∀v:PV,Option {a:Addr//v= .aE (.ref a)}
 | .aE v=>(match v with
  | .ref a=>some ⟨a,rfl⟩|_=>none)
 |_=>none
def A1(f: ∀e,Option (CE S e))(x:Str)(np:Pos)(as:List Expr)(pos:Pos):Option (CE S (.Call (.Name x np) as [] pos)):=
 (iR (KW S x) fun i hs=>iR (S.glob x) fun v hv=>(refOf v).bind fun a=>(FK f as).bind fun l=>CE.call (aZ (aB (.aE (.ref a.1))) l.1) fun g=>zq (TI hs) (hv.trans (bN some a.2)) (l.2 g)).or<|
 match as with
 | []=>iR (MA S x) fun i hs=>CE.call (DA (aD i)) fun _=>zt (MB hs)
 | [a]=>(GU S x).bind fun b=>Zx f b np a pos
 | [a,a']=>(GU S x).bind fun b=>Zy f b np a a' pos
 |_=>none
def A0(f: ∀e,Option (CE S e))(o:Expr)(m:Str)(as:List Expr)(ap pos:Pos):Option (CE S (.Call (.Attribute o m ap) as [] pos)):=
 fH (!sS o) fun h1=>fH (decide (as.length<20)) fun h2=>fH (ap.endLine==pos.line) fun h3=>(f o).bind fun c=>(FK f as).bind fun l=>
  (iR (S.xF m) fun cf hm=>CE.call (fC cf.1 cf.2 c.d l.1) fun g=>i6 (oL h1) h3 hm (cK h2) (c.s g) (l.2 g)).or<|
  iR (KA m as.length) fun b hb=>CE.call (hV b c.d l.1) fun g=>zo (oL h1) h3 hb (cK h2) (c.s g) (l.2 g)
def Zz(f: ∀e,Option (CE S e))(as:List Expr)(pos:Pos): ∀fn,Option (CE S (.Call fn as [] pos))
 | .Name x np=>A1 f x np as pos| .Attribute o m ap=>A0 f o m as ap pos|_=>none
def Cy(f: ∀e,Option (CE S e)): ∀e,Option {d:D// ∀g,JJ g S e d}
 |none=>some ⟨aB .none,fun _=>rfl⟩|some e=>(f e).bind fun c=>some ⟨c.d,c.s⟩
noncomputable def CE.sub{o i:Expr}{pos:Pos}(d:D)(s: ∀g,bK g S (.Subscript o i pos) d):Option (CE S (.Subscript o i pos)):=CE.ok d s rfl (fun _=>rfl) (fun _ _=>rfl) rfl fun _ _=>rfl
noncomputable def nj: ∀e:Expr,Option {x:Expr// ∃p,e= .UnaryOp .USub x p}
 | .UnaryOp op x p=>(match op with
  | .USub=>some ⟨x,p,rfl⟩|_=>none)
 |_=>none
theorem vv{g:Gl}{o u x:Expr}{k:Const}{d:D}{q pos:Pos}(hu: ∃p,u= .UnaryOp .USub x p)(hx: ∃n p,x= .Constant k n p)(hk:k= .int 1)(h:bK g S o d):bK g S (.Subscript o (.Slice none none (some u) q) pos) (zP d):=by
 obtain⟨p,rfl⟩:=hu;obtain⟨n,p,rfl⟩:=hx;subst hk;exact j5 h rfl
def A6(f: ∀e,Option (CE S e))(o:Expr)(c:CE S o)(pos q:Pos): ∀lo hi st,Option (CE S (.Subscript o (.Slice lo hi st q) pos))
 |lo,hi,none=>fH (lo.isSome !=hi.isSome) fun _=>(Cy f lo).bind fun a=>(Cy f hi).bind fun b=>CE.sub (qH c.d a.1 b.1) fun g=>zx (c.s g) (a.2 g) (b.2 g)
 |none,none,some u=>(nj u).bind fun x=>(RS x.1).bind fun k=>fH (decide (k.1= .int 1)) fun h=>CE.sub (zP c.d) fun g=>vv x.2 k.2 (cK h) (c.s g)
 |_,_,_=>none
def B8(f: ∀e,Option (CE S e))(o:Expr)(i:Expr)(pos:Pos):Option (CE S (.Subscript o i pos)):=(f o).bind fun c=>match i with
 | .Slice lo hi st q=>A6 f o c pos q lo hi st|i=>(f i).bind fun b=>CE.sub (bC c.d b.d) fun g=>d8 (c.s g) (b.s g)
abbrev ZD(S:Sc)(e:Expr):={d:dI→aW→PH→Out It//(∀g,vV g S e d)∧∀(env:Env) (v:aF),foldedSetIterable e env v=pure v}
theorem vx{e f a:Expr}{x:Str}(q: ∃p,e= .Call f [a] [] p)(n: ∃p,f= .Name x p)(h:x=aA "range")(b:vJ S x)(c:CE S a):(∀g,vV g S e (rN c.d))∧∀(env:Env) (v:aF),foldedSetIterable e env v=pure v:=by
 obtain⟨p,rfl⟩:=q;obtain⟨np,rfl⟩:=n;exact⟨fun g=>src_range b.2.1 b.2.2 h c.2.st (c.s g),fun _ _=>rfl⟩
def B7(f: ∀e,Option (CE S e))(e:Expr):Option (ZD S e):=
 (RI e).bind fun q=>(CW q.1.1).bind fun n=>fH (jG n.1 "range") fun h=>(GU S n.1).bind fun b=>(f q.1.2).bind fun c=>some ⟨rN c.d,vx q.2 n.2 (nR h) b c⟩
def Da(f: ∀e,Option (CE S e))(e:Expr):Option (ZD S e):=(B7 f e).or<|(f e).bind fun c=>some ⟨lF c.d,fun g=>m6 (c.s g),c.2.si⟩
noncomputable def RJ(f: ∀e,Option (CT S e))(pos:Pos): ∀op es,Option (CT S (.BoolOp op es pos))
 | .And,[]=>some ⟨rO,fun _=>zc⟩| .Or,[]=>some ⟨oV,fun _=>zj⟩| .And,e::r=>(f e).bind fun a=>(RJ f pos .And r).bind fun b=>some ⟨jK a.1 b.1,fun g=>zb (a.2 g) (b.2 g)⟩
 | .Or,e::r=>(f e).bind fun a=>(RJ f pos .Or r).bind fun b=>some ⟨gY a.1 b.1,fun g=>zi (a.2 g) (b.2 g)⟩
noncomputable def CE.cmp{l:Expr}{ops:List CmpOp}{rs:List Expr}{pos:Pos}(d:D)(s: ∀g,bK g S (.Compare l ops rs pos) d)(t: ∀g,iN g S (.Compare l ops rs pos) (bF d)):Option (CE S (.Compare l ops rs pos)):=CE.VN d s rfl (fun _=>rfl) (fun _ _=>rfl) rfl true fun _=>t
theorem LU{g:Gl}{l r:Expr}{pos:Pos}{k:Const}{d:D}(h: ∃n p,r= .Constant k n p)(hk:k= .none)(s:bK g S l d):(bK g S (.Compare l [.Is] [r] pos) (rI d)∧iN g S (.Compare l [.Is] [r] pos) (bF (rI d)))∧bK g S (.Compare l [.IsNot] [r] pos) (xK d)∧iN g S (.Compare l [.IsNot] [r] pos) (bF (xK d)):=by
 obtain⟨n,p,rfl⟩:=h;subst hk;exact⟨⟨f8 s,zf s⟩,f9 s,zg s⟩
def B3(l r:Expr)(a:CE S l)(k:ZY r)(hk:k.1= .none)(pos:Pos): ∀op,Option (CE S (.Compare l [op] [r] pos))
 | .Is=>CE.cmp (rI a.d) (fun g=>(LU k.2 hk (a.s g)).1.1) fun g=>(LU k.2 hk (a.s g)).1.2
 | .IsNot=>CE.cmp (xK a.d) (fun g=>(LU k.2 hk (a.s g)).2.1) fun g=>(LU k.2 hk (a.s g)).2.2
 |_=>none
def A2(f: ∀e,Option (CE S e))(l:Expr)(a:CE S l)(pos:Pos)(op:CmpOp)(r:Expr):Option (CE S (.Compare l [op] [r] pos)):=
 ((RS r).bind fun k=>fH (decide (k.1= .none)) fun h=>B3 l r a k (cK h) pos op).or<|
 (f r).bind fun b=>CE.cmp (bB op a.d b.d) (fun g=>zu (a.s g) (b.s g) (b.2.nm op)) fun g=>zd (a.s g) (b.s g) (b.2.nm op)
def A5(f: ∀e,Option (CE S e))(l:Expr)(pos:Pos): ∀ops rs,Option (CE S (.Compare l ops rs pos))
 | [op],[r]=>(f l).bind fun a=>A2 f l a pos op r
 | [oA,kY],[m,r]=>(f l).bind fun a=>(f m).bind fun b=>(f r).bind fun c=>CE.cmp (vA oA kY a.d b.d c.d) (fun g=>zv (a.s g) (b.s g) (c.s g) (c.2.nm kY)) fun g=>ze (a.s g) (b.s g) (c.s g) (c.2.nm kY)
 |_,_=>none
theorem MC{S:Sc}{sc:Scope}(h:(S.lam&&sc.kind== .function&&!sc.isGenerator&&!sc.isCoroutine)=true):S.lam=true∧sc.kind= .function∧sc.isGenerator=false∧sc.isCoroutine=false:=by
 simp only[mW,beq_iff_eq,yA]at h;exact⟨h.1.1.1,h.1.1.2,h.1.2,h.2⟩
def A3(f:FE)(S:Sc)(elt:Expr)(v:Str)(vp:Pos)(it:Expr)(sc:Scope)(pos:Pos):Option (CE S (.ListComp elt [⟨.Name v vp,it,[],0⟩] sc pos)):=
 (Da (f S) it).bind fun src=>iR (nY S sc.names 0) fun links hl=>iR (MA (S.inner sc.names) v) fun iv nW=>(f (S.inner sc.names) elt).bind fun c=>fH (iQ sc.names) fun h1=>fH (sc.kind== .function) fun h2=>
  have s: ∀g,bK g S (.ListComp elt [⟨.Name v vp,it,[],0⟩] sc pos) (nI src.1 sc.names.length iv links c.d):=fun g=>Pv src.2.2 (MB nW) hl (eq_of_beq h2) h1 (src.2.1 g) (c.s g)
  some ⟨(_,true),s,rfl,(fun _=>rfl),(fun _ _=>rfl),fun _ g=>Ps (s g) fun _ _=>rfl,fun ht g=>zk ht src.2.2 (MB nW) hl (eq_of_beq h2) h1 (src.2.1 g) (c.s g)⟩
def A4(f:FE)(S:Sc)(elt it:Expr)(sc:Scope)(pos:Pos): ∀tg,Option (CE S (.ListComp elt [⟨tg,it,[],0⟩] sc pos))
 | .Name v vp=>A3 f S elt v vp it sc pos|_=>none
def A8(f:FE)(S:Sc)(elt:Expr)(sc:Scope)(pos:Pos): ∀gs,Option (CE S (.ListComp elt gs sc pos))
 | [⟨tg,it,[],0⟩]=>A4 f S elt it sc pos tg|_=>none
def B4(S:Sc)(b:Expr)(sc:Scope)(pos:Pos): ∀ps,Option (CE S (.Lambda ps b sc pos))
 |⟨[],[],none,[],[],none,[]⟩=>iR (nY S sc.names 0) fun links hl=>fH (S.lam&&sc.kind== .function&&!sc.isGenerator&&!sc.isCoroutine) fun h=>
   CE.ok (sW b sc links) (fun _=>g8 hl (MC h).1 (MC h).2.1 (MC h).2.2.1 (MC h).2.2.2) rfl (fun _=>rfl) (fun _ _=>rfl) rfl fun _ _=>rfl
 |_=>none
def C0(x:Expr)(a:CE S x)(pos:Pos): ∀op,Option (CE S (.UnaryOp op x pos))
 | .USub=>CE.VN (xM a.d) (fun g=>i8 (a.s g)) rfl (fun _=>rfl) (fun _ _=>rfl) rfl false uX|_=>none
def cE(f:FE)(ft:FT)(S:Sc): ∀e,Option (CE S e)
 | .Constant c _ _=>iR (FN c) fun d h=>CE.ok d (fun _=>zw h) rfl (fun _=>rfl) (fun _ _=>rfl) rfl fun _ _=>rfl
 | .Name x _=>iR (wE S x) fun d h=>CE.ok d (fun _=>Pw h) rfl (fun _=>rfl) (fun _ _=>rfl) rfl fun _ _=>rfl
 | .BinOp l op r _=>(f S l).bind fun a=>(f S r).bind fun b=>CE.ok (bV op a.d b.d) (fun g=>zn (a.s g) (b.s g)) rfl (fun _=>rfl) (fun _ _=>rfl) rfl fun _ _=>rfl
 | .UnaryOp op x pos=>(f S x).bind fun a=>C0 x a pos op
 | .Compare l ops rs pos=>A5 (f S) l pos ops rs| .IfExp t a b _=>(ft S t).bind fun t=>(f S a).bind fun a=>(f S b).bind fun b=>CE.VN (jB t.1 a.d b.d) (fun g=>g7 (t.2 g) (a.s g) (b.s g)) rfl (fun _=>rfl) (fun _ _=>rfl) rfl false uX
 | .Tuple es _ _=>(FK (f S) es).bind fun l=>CE.ok (bM l.1) (fun g=>k4 (l.2 g).sound) rfl (fun _=>rfl) (fun _ _=>rfl) rfl fun _ _=>rfl
 | .List es _=>(FK (f S) es).bind fun l=>CE.ok (dN l.1) (fun g=>g9 (l.2 g).sound) rfl (fun _=>rfl) (fun _ _=>rfl) rfl fun _ _=>rfl
 | .Dict ks vs _=>fH (decide (ks.length≤15)) fun h=>(Cz (f S) ks vs).bind fun l=>CE.ok (mM l.1) (I8 l (cK h)) rfl (fun _=>rfl) (fun _ _=>rfl) rfl fun _ _=>rfl
 | .Attribute o a _=>fH (!sS o) fun h=>(f S o).bind fun c=>iR (S.attr a) fun k hk=>CE.ok (eR c.d k) (fun g=>zl (oL h) hk (c.s g)) rfl (fun _=>rfl) (fun _ _=>rfl) rfl fun _ _=>rfl
 | .Subscript o i pos=>B8 (f S) o i pos| .Call fn as [] pos=>Zz (f S) as pos fn| .ListComp elt gs sc pos=>A8 f S elt sc pos gs| .Lambda ps b sc pos=>B4 S b sc pos ps|_=>none
def B5(ft:FT)(S:Sc)(x:Expr)(pos:Pos): ∀op,Option (CT S (.UnaryOp op x pos))
 | .Not=>(ft S x).bind fun t=>some ⟨tB t.1,fun g=>zh (t.2 g)⟩
 |_=>none
def cT(f:FE)(ft:FT)(S:Sc): ∀e,Option (CT S e)
 | .UnaryOp op x pos=>B5 ft S x pos op| .BoolOp op es pos=>RJ (ft S) pos op es|e=>(f S e).bind fun c=>fH c.1.2 fun h=>some ⟨bF c.d,c.2.t h⟩
def cN(n:Nat):FE×FT:=Nat.rec (motive:=fun _=>FE×FT) ⟨fun _ _=>none,fun _ _=>none⟩ (fun _ p=>⟨fun S e=>cE p.1 p.2 S e,fun S e=>cT p.1 p.2 S e⟩) n
abbrev CS(S:Sc)(st:Stmt):={d:DS// ∀g,rW g→lQ g S st d}
abbrev CB(S:Sc)(b:List Stmt):={d:DS// ∀g,rW g→pF g S b d}
abbrev ZE(S:Sc)(b:List Stmt):={d:DS// ∀g,EP g S b d}
abbrev Su(S:Sc)(e:Expr):={put:PV→aW→PH→Out aW// ∀g,AI g S e put}
abbrev CH(S:Sc)(e:Expr):={d:D// ∀g,yD g S e d}
def Zv(f: ∀e,Option (CE S e))(v:Expr)(pos:Pos): ∀ts,Option (CS S (.Assign ts v pos))
 | [.Name x _]=>iR (nC S x) fun t ht=>(f v).bind fun c=>some ⟨cW t c.d,fun g _=>c.2.asg ht g⟩
 | [.Attribute o a _]=>fH (!pY v) fun h=>(f v).bind fun c=>(f o).bind fun co=>iR (S.attr a) fun k hk=>some ⟨jD co.d k c.d,fun g _=>j6 (oL h) hk (co.s g) (c.s g)⟩
 | [.Subscript o i _]=>fH (!pY v) fun h=>(f v).bind fun c=>(f o).bind fun co=>(f i).bind fun ci=>some ⟨mN co.d ci.d c.d,fun g _=>j8 (oL h) (co.s g) (ci.s g) (c.s g)⟩
 | [.Tuple ts _ _]=>fH (IR v) fun h1=>fH (FQ (namesIn ts)) fun h2=>iR (BF S ts) fun l hl=>(f v).bind fun c=>some ⟨jQ l c.d,fun g _=>k6 h1 h2 hl (c.s g)⟩
 |_=>none
def B9(f: ∀e,Option (CE S e)): ∀b,Option (ZE S b)
 | [.Return (some e) _]=>(f e).bind fun c=>some ⟨aI (bJ c.d) aK,fun g=>z9 (c.s g)⟩
 | [.Expr e _]=>fH (!pY e) fun h=>(f e).bind fun c=>some ⟨aI (eN c.d) aK,fun g=>z8 (oL h) (c.s g)⟩
 |_=>none
theorem su{g:Gl}{a b o:Expr}{k:Nat}{pos ap:Pos}{d:D}{i:Nat}{c:Const}{w x y:Str}(hc: ∃k p,a= .Constant c k p)(hw:c= .str w)(hq:b= .Attribute o x ap)(hn: ∃p,o= .Name y p)(h:wE S y=some d)(hi:S.attr x=some i):yD g S (.Tuple [a,b] k pos) (bM (aC (aB (.str w)) (aC (eR d i) aH))):=by
 obtain⟨k,p,rfl⟩:=hc;obtain⟨p,rfl⟩:=hn;subst hw hq;exact W5 h hi
def A9(S:Sc): ∀e,Option (CH S e)
 | .Constant c _ _=>iR (FN c) fun d h=>some ⟨d,fun _=>W4 h⟩
 | .Tuple ts _ _=>(match ts with
  | [a,b]=>(RS a).bind fun c=>(strOf c.1).bind fun w=>(Ce b).bind fun q=>(CW q.1.1).bind fun n=>iR (wE S n.1) fun d h=>iR (S.attr q.1.2.1) fun i hi=>some ⟨bM (aC (aB (.str w.1)) (aC (eR d i) aH)),fun _=>su c.2 w.2 q.2 n.2 h hi⟩
  |_=>none)
 |_=>none
abbrev OP(S:Sc)(c:Str):={a:Addr// ∃i,S.slot c=some (i,aY)∧S.glob c=some (.aE (.ref a))∧S.exc a=true}
def Rq(S:Sc)(c:Str):Option (OP S c):=iR (KW S c) fun i hs=>iR (S.glob c) fun v hv=>(refOf v).bind fun a=>fH (S.exc a.1) fun h=>some ⟨a.1,i,TI hs,hv.trans (bN some a.2),h⟩
abbrev Bw(s:List Stmt):={e:Expr// ∃p,s=[.Return (some e) p]}
noncomputable def wc: ∀s,Option (Bw s)
 | [.Return (some e) p]=>some ⟨e,p,rfl⟩|_=>none
def YU(S:Sc)(as_:Option Nat)(y:Option Str):Prop:=match y with|none=>as_=none|some z=> ∃j,as_=some j∧S.slot z=some (j,.local)
def Xs(S:Sc): ∀y,Option {j:Option Nat//YU S j y}
 |none=>some ⟨none,rfl⟩|some z=>iR (MA S z) fun j hj=>some ⟨some j,j,rfl,MB hj⟩
theorem aAF{g:Gl}{b:List Stmt}{db:DS}{t:Expr}{y:Option Str}{s:List Stmt}{hp pos:Pos}{d:D}(EO:rW g)(hb:EP g S b db)(n:OF t)(x:OP S n.1)(r:Bw s)(j:{j:Option Nat//YU S j y})(hd:yD g S r.1 d):lQ g S (.Try b [.ExceptHandler (some t) y s hp] [] [] pos) (qJ db x.1 j.1 d):=by
 obtain⟨c,np,rfl⟩:=n;obtain⟨e,p,rfl⟩:=r;exact x.2.elim fun i q=>j9 EO (as_:=j.1) hb q.1 q.2.1 q.2.2 j.2 hd
def B0(b:List Stmt)(cb:ZE S b)(pos:Pos): ∀hs,Option (CS S (.Try b hs [] [] pos))
 | [.ExceptHandler (some t) y s _]=>(CW t).bind fun n=>(Rq S n.1).bind fun x=>(wc s).bind fun r=>(Xs S y).bind fun j=>(A9 S r.1).bind fun h=>some ⟨qJ cb.1 x.1 j.1 h.1,fun g EO=>aAF EO (cb.2 g) n x r j (h.2 g)⟩
 |_=>none
def A7(S:Sc): ∀e,Option (Su S e)
 | .Name x _=>iR (nC S x) fun t h=>some ⟨jJ t,fun _=>T4 h⟩
 | .Tuple ts _ _=>iR (BF S ts) fun l h=>some ⟨MX l,fun _=>T5 h⟩
 |_=>none
theorem vd{g:Gl}{e f a:Expr}{c:Str}{pos:Pos}{d:D}{k:Nat}(EO:rW g)(q: ∃p,e= .Call f [a] [] p)(n: ∃p,f= .Name c p)(x:OP S c)(hk:S.attr (aA "word")=some k)(lM:isStar a=false)(h:bK g S a d):lQ g S (.Raise (some e) none pos) (mA x.1 k d):=by
 obtain⟨p,rfl⟩:=q;obtain⟨np,rfl⟩:=n;exact x.2.elim fun i r=>i9 EO r.1 r.2.1 hk lM r.2.2 h
def B6(f: ∀e,Option (CE S e))(pos:Pos)(e:Expr):Option (CS S (.Raise (some e) none pos)):=
 (RI e).bind fun q=>(CW q.1.1).bind fun n=>(Rq S n.1).bind fun x=>iR (S.attr (aA "word")) fun k hk=>(f q.1.2).bind fun ca=>some ⟨mA x.1 k ca.d,fun g o=>vd o q.2 n.2 x hk ca.2.st (ca.s g)⟩
def cS(f:FE)(ft:FT)(fb: ∀S b,Option (CB S b))(S:Sc): ∀st,Option (CS S st)
 | .Assign ts v pos=>Zv (f S) v pos ts| .Expr e _=>fH (!pY e) fun h=>(f S e).bind fun c=>some ⟨eN c.d,fun g _=>b0 (oL h) (c.s g)⟩
 | .Return (some e) _=>(f S e).bind fun c=>some ⟨bJ c.d,fun g _=>j4 (c.s g)⟩
 | .If t a b _=>(ft S t).bind fun t=>(fb S a).bind fun a=>(fb S b).bind fun b=>some ⟨bR t.1 a.1 b.1,fun g o=>d9 (t.2 g) (a.2 g o) (b.2 g o)⟩
 | .While t b [] _=>(ft S t).bind fun t=>(fb S b).bind fun b=>some ⟨DF t.1 b.1,fun g o=>k8 (t.2 g) (b.2 g o)⟩
 | .For tg it b [] _=>(A7 S tg).bind fun tg=>(Da (f S) it).bind fun src=>(fb S b).bind fun b=>some ⟨kE tg.1 src.1 b.1,fun g o=>d7 src.2.2 (tg.2 g) (src.2.1 g) (b.2 g o)⟩
 | .Raise (some e) none pos=>B6 (f S) pos e| .Try b hs [] [] pos=>(B9 (f S) b).bind fun cb=>B0 b cb pos hs
 |_=>none
noncomputable def Cw(fs: ∀S st,Option (CS S st))(S:Sc): ∀b,Option (CB S b)
 | []=>some ⟨aK,fun _ _=>yx⟩|st::r=>(fs S st).bind fun a=>(Cw fs S r).bind fun b=>some ⟨aI a.1 b.1,fun g o=>yw (a.2 g o) (b.2 g o)⟩
def Zw(n:Nat): ∀S b,Option (CB S b):=Nat.rec (motive:=fun _=> ∀S b,Option (CB S b)) (fun _ _=>none) (fun n p=>Cw (cS (cN n).1 (cN n).2 p)) n
end
end
end
noncomputable section
open PySem
section
def Yy:DS:=(aI (bJ (bM (aC (aB (PV.str (aA "enum"))) (aC (aB (PV.int 1)) (aC (aD 0) aH))))) aK)
def R3:Fn:=⟨[(aA "value",aU)],[.loc 0],Yy⟩
def Yz:DS:=(aI (bR (gY (tB (bF (p1 zK (aD 0)))) (gY (bF (bB bO (aD 0) (bM aH))) oV)) (aI (bJ (bM aH)) aK) aK) (aI (bR (bF (bB bO (bC (aD 0) (aB (PV.int 0))) (aB (PV.str (aA "agg"))))) (aI (bJ (bC (aD 0) (aB (PV.int 1)))) aK) aK) (aI (bR (bF (bB bO (bC (aD 0) (aB (PV.int 0))) (aB (PV.str (aA "enum"))))) (aI (bJ (jB (bF (rI (bC (aD 0) (aB (PV.int 2))))) (bM aH) (bM (aC (bC (aD 0) (aB (PV.int 2))) aH)))) aK) aK) (aI (bJ (jB (bF (bB bO (bC (aD 0) (aB (PV.int 0))) (aB (PV.str (aA "any"))))) (bM (aC (bC (aD 0) (aB (PV.int 2))) aH)) (bM aH))) aK))))
def R4:Fn:=⟨[(aA "value",aU),(aA "isinstance",aY),(aA "tuple",aY)],[.loc 0],Yz⟩
def yW:DS:=(aI (jQ [Tg.loc 1,Tg.loc 2] (bM (aC (dN aH) (aC (dN (aC (aD 0) aH)) aH)))) (aI (DF (bF (aD 2)) (aI (cW (Tg.loc 3) (hV BM.qD (aD 2) aH)) (aI (bR (jK (bF (p1 zK (aD 3))) (jK (bF (bB kI (aD 3) (bM aH))) rO)) (aI (cW (Tg.loc 4) (bC (aD 3) (aB (PV.int 0)))) (aI (bR (bF (bB vK (aD 4) (aB (PV.tup [PV.str (aA "ref"),PV.str (aA "buf"),PV.str (aA "box")])))) (aI (eN (hV BM.append (aD 1) (aC (bM (aC (aB (PV.str (aA "strong"))) (aC (bC (aD 3) (aB (PV.int 1))) aH))) aH))) aK) (aI (bR (jK (bF (bB bO (aD 4) (aB (PV.str (aA "fn"))))) (jK (bF (bB kI (bC (aD 3) (aB (PV.int 2))) (aB (PV.int 0)))) rO)) (aI (eN (hV BM.append (aD 1) (aC (bM (aC (aB (PV.str (aA "strong"))) (aC (bC (aD 3) (aB (PV.int 2))) aH))) aH))) aK) (aI (bR (gY (bF (bB bO (aD 4) (aB (PV.str (aA "unowned"))))) (gY (jK (bF (bB bO (aD 4) (aB (PV.str (aA "weak"))))) (jK (bF (bB kI (bC (aD 3) (aB (PV.int 1))) (aB (PV.int 0)))) rO)) oV)) (aI (eN (hV BM.append (aD 1) (aC (bM (aC (aD 4) (aC (bC (aD 3) (aB (PV.int 1))) aH))) aH))) aK) (aI (eN (hV BM.extend (aD 2) (aC (zP (aZ (aB (PV.aE (aR 81))) (aC (aD 3) aH))) aH))) aK)) aK)) aK)) aK)) aK) aK))) (aI (bJ (aD 1)) aK)))
def KQ:Fn:=⟨[(aA "value",aU),(aA "found",aU),(aA "waiting",aU),(aA "here",aU),(aA "word",aU),(aA "isinstance",aY),(aA "tuple",aY),(aA "COUNTED",aY),(aA "parts_of",aY)],[.loc 0],yW⟩
def Za:DS:=(aI (cW (Tg.loc 3) (bC (aD 0) (aB (PV.int 1)))) (aI (bJ (bM (aC (aB (PV.str (aA "agg"))) (aC (bV gP (bV gP (qH (aD 3) (aB PV.none) (aD 1)) (bM (aC (aD 2) aH))) (qH (aD 3) (bV gP (aD 1) (aB (PV.int 1))) (aB PV.none))) aH)))) aK))
def R5:Fn:=⟨[(aA "value",aU),(aA "index",aU),(aA "part",aU),(aA "parts",aU)],[.loc 0,.loc 1,.loc 2],Za⟩
def Yg:DS:=(aI (bJ (bM (aC (aB (PV.str (aA "at"))) (aC (aD 0) (aC (bM (aC (aD 1) aH)) aH))))) aK)
def O9:Fn:=⟨[(aA "root",aU),(aA "index",aU)],[.loc 0,.loc 1],Yg⟩
def Yh:DS:=(aI (bJ (bM (aC (aB (PV.str (aA "at"))) (aC (bC (aD 0) (aB (PV.int 1))) (aC (bV gP (bC (aD 0) (aB (PV.int 2))) (bM (aC (aD 1) aH))) aH))))) aK)
def P3:Fn:=⟨[(aA "place",aU),(aA "index",aU)],[.loc 0,.loc 1],Yh⟩
def WU:DS:=(aI (kE (jJ (Tg.loc 3)) (lF (qH (aD 1) (aB (PV.int 1)) (aB PV.none))) (aI (bR (gY (bF (rI (aD 2))) (gY (jK (bF (bB kI (aD 3) (aB (PV.int (-1))))) (jK (bF (bB ZH (aD 3) (p1 fX (bC (aD 2) (aB (PV.int 1)))))) rO)) oV)) (aI (bJ (aB PV.none)) aK) aK) (aI (cW (Tg.loc 2) (jB (bF (bB bO (aD 3) (aB (PV.int (-1))))) (bC (aD 2) (aB (PV.int 2))) (bC (bC (aD 2) (aB (PV.int 1))) (aD 3)))) aK))) (aI (bJ (aD 2)) aK))
def QD:DS:=(aI (cW (Tg.loc 1) (bC (aD 0) (aB (PV.int 2)))) (aI (cW (Tg.loc 2) (aZ (aB (PV.aE (aR 194))) (aC (bC (aD 0) (aB (PV.int 1))) (aC (bC (aD 1) (aB (PV.int 0))) aH)))) WU))
def P4:Fn:=⟨[(aA "place",aU),(aA "path",aU),(aA "value",aU),(aA "index",aU),(aA "element_at",aY),(aA "WITHIN",aY),(aA "len",aY)],[.loc 0],QD⟩
def Yi:DS:=(aI (bR (bF (bB bO (aD 1) (bM aH))) (aI (bJ (aD 2)) aK) aK) (aI (cW (Tg.loc 3) (bC (aD 1) (aB (PV.int 0)))) (aI (bR (bF (bB bO (aD 3) (aB (PV.int (-1))))) (aI (bJ (bM (aC (aB (PV.str (aA "any"))) (aC (bC (aD 0) (aB (PV.int 1))) (aC (aZ (aB (PV.aE (aR 124))) (aC (bC (aD 0) (aB (PV.int 2))) (aC (qH (aD 1) (aB (PV.int 1)) (aB PV.none)) (aC (aD 2) aH)))) aH))))) aK) aK) (aI (bR (bF (rI (aD 0))) (aI (cW (Tg.loc 0) (bM (aC (aB (PV.str (aA "agg"))) (aC (bM aH) aH)))) aK) aK) (aI (bR (bF (bB ZH (aD 3) (p1 fX (bC (aD 0) (aB (PV.int 1)))))) (aI (cW (Tg.loc 0) (bM (aC (aB (PV.str (aA "agg"))) (aC (bV gP (bC (aD 0) (aB (PV.int 1))) (bV vT (bM (aC (aB PV.none) aH)) (bV jV (bV gP (aD 3) (aB (PV.int 1))) (p1 fX (bC (aD 0) (aB (PV.int 1))))))) aH)))) aK) aK) (aI (bJ (aZ (aB (PV.aE (aR 95))) (aC (aD 0) (aC (aD 3) (aC (aZ (aB (PV.aE (aR 124))) (aC (bC (bC (aD 0) (aB (PV.int 1))) (aD 3)) (aC (qH (aD 1) (aB (PV.int 1)) (aB PV.none)) (aC (aD 2) aH)))) aH))))) aK))))))
def P5:Fn:=⟨[(aA "value",aU),(aA "path",aU),(aA "part",aU),(aA "index",aU),(aA "WITHIN",aY),(aA "laid",aY),(aA "len",aY),(aA "with_part",aY)],[.loc 0,.loc 1,.loc 2],Yi⟩
def QF:DS:=(aI (jQ [Tg.loc 2,Tg.loc 3] (bM (aC (bC (aD 0) (aB (PV.int 1))) (aC (bC (aD 0) (aB (PV.int 2))) aH)))) (aI (mN (aD 2) (bC (aD 3) (aB (PV.int 0))) (aZ (aB (PV.aE (aR 124))) (aC (aZ (aB (PV.aE (aR 194))) (aC (aD 2) (aC (bC (aD 3) (aB (PV.int 0))) aH))) (aC (qH (aD 3) (aB (PV.int 1)) (aB PV.none)) (aC (aD 1) aH))))) aK))
def Fk:Fn:=⟨[(aA "place",aU),(aA "value",aU),(aA "root",aU),(aA "path",aU),(aA "laid",aY),(aA "element_at",aY)],[.loc 0,.loc 1],QF⟩
def EW:DS:=(aI (cW (Tg.loc 1) (aZ (aB (PV.aE (aR 117))) (aC (aD 0) aH))) (aI (bR (bF (rI (aD 1))) (aI (bR (bF (bB bO (qH (bC (aD 0) (aB (PV.int 1))) (aB (PV.int 1)) (aB PV.none)) (dN (aC (aB (PV.tup [PV.str (aA "global")])) aH)))) (aI (mA 63 0 (aB (PV.str (aA "unset")))) aK) aK) (aI (mA 51 0 (aB (PV.str (aA "an empty place is read")))) aK)) aK) (aI (bJ (aD 1)) aK)))
def SN:Fn:=⟨[(aA "place",aU),(aA "value",aU),(aA "read_place",aY),(aA "GLOBAL",aY),(aA "Trap",aY),(aA "FormFault",aY)],[.loc 0],EW⟩
def Yj:DS:=(aI (bR (tB (bF (vA DU DU (aB (PV.int (-9223372036854775808))) (aD 0) (aB (PV.int 9223372036854775807))))) (aI (mA 63 0 (aB (PV.str (aA "overflow")))) aK) aK) (aI (bJ (aD 0)) aK))
def P6:Fn:=⟨[(aA "number",aU),(aA "LEAST",aY),(aA "GREATEST",aY),(aA "Trap",aY)],[.loc 0],Yj⟩
def Yk:DS:=(aI (bR (bF (bB bO (aD 1) (aB (PV.int 0)))) (aI (mA 63 0 (aB (PV.str (aA "division")))) aK) aK) (aI (cW (Tg.loc 2) (bV BA (p1 pI (aD 0)) (p1 pI (aD 1)))) (aI (bR (bF (bB kI (bB rU (aD 0) (aB (PV.int 0))) (bB rU (aD 1) (aB (PV.int 0))))) (aI (cW (Tg.loc 2) (bV jV (aB (PV.int 0)) (aD 2))) aK) aK) (aI (eN (aZ (aB (PV.aE (aR 145))) (aC (aD 2) aH))) (aI (bJ (bM (aC (aD 2) (aC (bV jV (aD 0) (bV vT (aD 2) (aD 1))) aH)))) aK)))))
def P7:Fn:=⟨[(aA "one",aU),(aA "other",aU),(aA "quotient",aU),(aA "Trap",aY),(aA "abs",aY),(aA "in_range",aY)],[.loc 0,.loc 1],Yk⟩
def Yl:DS:=(aI (bR (bF (bB bO (aD 0) (aB (PV.str (aA "neg"))))) (aI (bJ (aZ (aB (PV.aE (aR 145))) (aC (bV jV (aB (PV.int 0)) (bC (aD 1) (aB (PV.int 0)))) aH))) aK) aK) (aI (jQ [Tg.loc 2,Tg.loc 3] (aD 1)) (aI (bR (bF (bB bO (aD 0) (aB (PV.str (aA "add"))))) (aI (bJ (aZ (aB (PV.aE (aR 145))) (aC (bV gP (aD 2) (aD 3)) aH))) aK) aK) (aI (bR (bF (bB bO (aD 0) (aB (PV.str (aA "sub"))))) (aI (bJ (aZ (aB (PV.aE (aR 145))) (aC (bV jV (aD 2) (aD 3)) aH))) aK) aK) (aI (bR (bF (bB bO (aD 0) (aB (PV.str (aA "mul"))))) (aI (bJ (aZ (aB (PV.aE (aR 145))) (aC (bV vT (aD 2) (aD 3)) aH))) aK) aK) (aI (bJ (bC (aZ (aB (PV.aE (aR 152))) (aC (aD 2) (aC (aD 3) aH))) (jB (bF (bB bO (aD 0) (aB (PV.str (aA "div"))))) (aB (PV.int 0)) (aB (PV.int 1))))) aK))))))
def P8:Fn:=⟨[(aA "name",aU),(aA "args",aU),(aA "one",aU),(aA "other",aU),(aA "in_range",aY),(aA "parted",aY)],[.loc 0,.loc 1],Yl⟩
def QG:DS:=(aI (bR (bF (bB OH (bV gP (p1 fX (aD 0)) (p1 fX (aD 1))) (aB (PV.int 1000000)))) (aI (mA 63 0 (aB (PV.str (aA "size")))) aK) aK) (aI (bJ (bV gP (aD 0) (aD 1))) aK))
def Fl:Fn:=⟨[(aA "one",aU),(aA "other",aU),(aA "len",aY),(aA "MOST_SIZE",aY),(aA "Trap",aY)],[.loc 0,.loc 1],QG⟩
def Ym:DS:=(aI (bR (bF (bB bO (aD 0) (aB (PV.str (aA "eq"))))) (aI (bJ (bB bO (aD 1) (aD 2))) aK) aK) (aI (bR (bF (bB bO (aD 0) (aB (PV.str (aA "ne"))))) (aI (bJ (bB kI (aD 1) (aD 2))) aK) aK) (aI (bR (bF (bB bO (aD 0) (aB (PV.str (aA "lt"))))) (aI (bJ (bB rU (aD 1) (aD 2))) aK) aK) (aI (bR (bF (bB bO (aD 0) (aB (PV.str (aA "le"))))) (aI (bJ (bB DU (aD 1) (aD 2))) aK) aK) (aI (bJ (jB (bF (bB bO (aD 0) (aB (PV.str (aA "gt"))))) (bB OH (aD 1) (aD 2)) (bB ZH (aD 1) (aD 2)))) aK)))))
def P9:Fn:=⟨[(aA "name",aU),(aA "one",aU),(aA "other",aU)],[.loc 0,.loc 1,.loc 2],Ym⟩
def Yn:DS:=(aI (bR (bF (bB vK (aD 0) (bM (aC (aB (PV.str (aA "add"))) (aC (aB (PV.str (aA "sub"))) (aC (aB (PV.str (aA "mul"))) (aC (aB (PV.str (aA "div"))) (aC (aB (PV.str (aA "rem"))) (aC (aB (PV.str (aA "neg"))) aH))))))))) (aI (bJ (aZ (aB (PV.aE (aR 159))) (aC (aD 0) (aC (aD 1) aH)))) aK) aK) (aI (bR (bF (bB vK (aD 0) (bM (aC (aB (PV.str (aA "eq"))) (aC (aB (PV.str (aA "ne"))) (aC (aB (PV.str (aA "lt"))) (aC (aB (PV.str (aA "le"))) (aC (aB (PV.str (aA "gt"))) (aC (aB (PV.str (aA "ge"))) aH))))))))) (aI (bJ (p1 intOp (aZ (aB (PV.aE (aR 173))) (aC (aD 0) (aC (bC (aD 1) (aB (PV.int 0))) (aC (bC (aD 1) (aB (PV.int 1))) aH)))))) aK) aK) (aI (bR (bF (bB bO (aD 0) (aB (PV.str (aA "not"))))) (aI (bJ (bV jV (aB (PV.int 1)) (bC (aD 1) (aB (PV.int 0))))) aK) aK) (aI (bR (bF (bB bO (aD 0) (aB (PV.str (aA "and"))))) (aI (bJ (bV aCY (bC (aD 1) (aB (PV.int 0))) (bC (aD 1) (aB (PV.int 1))))) aK) aK) (aI (bR (bF (bB bO (aD 0) (aB (PV.str (aA "or"))))) (aI (bJ (bV aCZ (bC (aD 1) (aB (PV.int 0))) (bC (aD 1) (aB (PV.int 1))))) aK) aK) (aI (bR (bF (bB bO (aD 0) (aB (PV.str (aA "concat"))))) (aI (bJ (aZ (aB (PV.aE (aR 166))) (aC (bC (aD 1) (aB (PV.int 0))) (aC (bC (aD 1) (aB (PV.int 1))) aH)))) aK) aK) (aI (bR (bF (bB bO (aD 0) (aB (PV.str (aA "string_count"))))) (aI (bJ (p1 fX (bC (aD 1) (aB (PV.int 0))))) aK) aK) (aI (bR (bF (bB bO (aD 0) (aB (PV.str (aA "string_empty"))))) (aI (bJ (p1 intOp (bB bO (bC (aD 1) (aB (PV.int 0))) (aB (PV.str (aA "")))))) aK) aK) (aI (bR (bF (bB bO (aD 0) (aB (PV.str (aA "is_nil"))))) (aI (bJ (p1 intOp (bB bO (bC (bC (aD 1) (aB (PV.int 0))) (aB (PV.int 1))) (aB (PV.int 0))))) aK) aK) (aI (mA 51 0 (bV gP (aB (PV.str (aA "no builtin "))) (p1 VM (aD 0)))) aK))))))))))
def Q0:Fn:=⟨[(aA "name",aU),(aA "args",aU),(aA "reckoned",aY),(aA "int",aY),(aA "stands_so",aY),(aA "joined",aY),(aA "len",aY),(aA "FormFault",aY),(aA "str",aY)],[.loc 0,.loc 1],Yn⟩
def EX:DS:=(aI (cW (Tg.loc 2) (bC (aZ (aB (PV.aE (aR 138))) (aC (aD 1) aH)) (aB (PV.int 1)))) (aI (cW (Tg.loc 3) (fC 375 365 (aD 0) (aC (aD 2) aH))) (aI (bR (bF (bB kI (aD 3) (aD 2))) (aI (eN (aZ (aB (PV.aE (aR 131))) (aC (aD 1) (aC (bM (aC (aB (PV.str (aA "buf"))) (aC (aD 3) aH))) aH)))) aK) aK) (aI (bJ (fC 375 360 (aD 0) (aC (aD 3) aH))) aK))))
def SO:Fn:=⟨[(aA "heap",aU),(aA "place",aU),(aA "number",aU),(aA "own",aU),(aA "full",aY),(aA "write_place",aY)],[.loc 0,.loc 1],EX⟩
def EY:DS:=(aI (bR (tB (bF (vA DU rU (aB (PV.int 0)) (aD 1) (p1 fX (aD 0))))) (aI (mA 63 0 (aB (PV.str (aA "index")))) aK) aK) (aI (bJ (bC (aD 0) (aD 1))) aK))
def SQ:Fn:=⟨[(aA "elements",aU),(aA "index",aU),(aA "len",aY),(aA "Trap",aY)],[.loc 0,.loc 1],EY⟩
def EZ:DS:=(aI (cW (Tg.loc 3) (aZ (aB (PV.aE (aR 187))) (aC (aD 0) (aC (aD 1) aH)))) (aI (eN (aZ (aB (PV.aE (aR 194))) (aC (aD 3) (aC (aD 2) aH)))) (aI (bJ (aZ (aB (PV.aE (aR 103))) (aC (aD 3) (aC (aD 2) aH)))) aK)))
def SR:Fn:=⟨[(aA "heap",aU),(aA "place",aU),(aA "index",aU),(aA "elements",aU),(aA "own_elements",aY),(aA "element_at",aY),(aA "place_in",aY)],[.loc 0,.loc 1,.loc 2],EZ⟩
def kL:DS:=(aI (bR (bF (bB bO (aD 1) (aB (PV.str (aA "array#make"))))) (aI (bJ (bM (aC (aB (PV.str (aA "buf"))) (aC (fC 375 255 (cL 0) (aC (aB (PV.str (aA "buffer"))) (aC (aB (PV.str (aA ""))) (aC (aD 2) aH)))) aH)))) aK) aK) (aI (cW (Tg.loc 3) (fC 375 360 (cL 0) (aC (bC (bC (aD 2) (aB (PV.int 0))) (aB (PV.int 1))) aH))) (aI (bR (bF (bB bO (aD 1) (aB (PV.str (aA "array#count"))))) (aI (bJ (p1 fX (aD 3))) aK) aK) (aI (bR (bF (bB bO (aD 1) (aB (PV.str (aA "array#get"))))) (aI (bJ (fC 375 311 (cL 0) (aC (aZ (aB (PV.aE (aR 194))) (aC (aD 3) (aC (bC (aD 2) (aB (PV.int 1))) aH))) aH))) aK) aK) (aI (bR (bF (bB bO (aD 1) (aB (PV.str (aA "array#concat"))))) (aI (cW (Tg.loc 4) (aZ (aB (PV.aE (aR 166))) (aC (aD 3) (aC (fC 375 360 (cL 0) (aC (bC (bC (aD 2) (aB (PV.int 1))) (aB (PV.int 1))) aH)) aH)))) (aI (bJ (bM (aC (aB (PV.str (aA "buf"))) (aC (fC 375 255 (cL 0) (aC (aB (PV.str (aA "buffer"))) (aC (aB (PV.str (aA ""))) (aC (nI (lF (aD 4)) (JL (JS {kind:=sE,names:=[(aA ".0",aU),(aA "value",aU),(aA "heap",gS)],isGenerator:=false,isCoroutine:=false})) 1 [(2,0)] (fC 375 311 (cL 2) (aC (aD 1) aH))) aH)))) aH)))) aK)) aK) (aI (bR (bF (bB bO (aD 3) (dN aH))) (aI (bJ (aB (PV.tup [PV.str (aA "enum"),PV.int 0,PV.none]))) aK) aK) (aI (bJ (aZ (aB (PV.aE (aR 74))) (aC (fC 375 311 (cL 0) (aC (bC (aD 3) (jB (bF (bB bO (aD 1) (aB (PV.str (aA "array#first"))))) (aB (PV.int 0)) (xM (aB (PV.int 1))))) aH)) aH))) aK)))))))
def sM:Fn:=⟨[(aA "heap",jO),(aA "name",aU),(aA "args",aU),(aA "elements",aU),(aA "both",aU),(aA "len",aY),(aA "element_at",aY),(aA "joined",aY),(aA "NONE",aY),(aA "some",aY)],[.fS 0,.loc 1,.loc 2],kL⟩
def qV:DS:=(aI (bR (bF (bB bO (aD 1) (aB (PV.str (aA "array#append"))))) (aI (eN (hV BM.append (aZ (aB (PV.aE (aR 187))) (aC (aD 0) (aC (bC (aD 2) (aB (PV.int 0))) aH))) (aC (bC (aD 2) (aB (PV.int 1))) aH))) (aI (bJ (bM aH)) aK)) aK) (aI (bR (bF (bB bO (aD 1) (aB (PV.str (aA "array#pop"))))) (aI (cW (Tg.loc 3) (aZ (aB (PV.aE (aR 187))) (aC (aD 0) (aC (bC (aD 2) (aB (PV.int 0))) aH)))) (aI (bR (bF (bB bO (aD 3) (dN aH))) (aI (mA 63 0 (aB (PV.str (aA "index")))) aK) aK) (aI (bJ (hV BM.qD (aD 3) aH)) aK))) aK) (aI (bR (bF (bB vK (aD 1) (bM (aC (aB (PV.str (aA "array#make"))) (aC (aB (PV.str (aA "array#count"))) (aC (aB (PV.str (aA "array#get"))) (aC (aB (PV.str (aA "array#concat"))) (aC (aB (PV.str (aA "array#first"))) (aC (aB (PV.str (aA "array#last"))) aH))))))))) (aI (bJ (aZ (aB (PV.aE (aR 206))) (aC (aD 0) (aC (aD 1) (aC (aD 2) aH))))) aK) aK) (aI (mA 51 0 (bV gP (aB (PV.str (aA "no function "))) (aD 1))) aK))))
def BL:Fn:=⟨[(aA "heap",aU),(aA "name",aU),(aA "args",aU),(aA "elements",aU),(aA "own_elements",aY),(aA "Trap",aY),(aA "array_value",aY),(aA "FormFault",aY)],[.loc 0,.loc 1,.loc 2],qV⟩
def QH:DS:=(aI (jD (aD 0) 1 (aD 1)) (aI (jD (aD 0) 2 (aD 2)) (aI (jD (aD 0) 3 (aD 3)) (aI (jD (aD 0) 4 (aB (PV.int 1))) (aI (jD (aD 0) 5 (aB (PV.int 0))) (aI (jD (aD 0) 6 (aB (PV.int 0))) (aI (jD (aD 0) 7 (aB (PV.str (aA "live")))) aK)))))))
def Fm:Fn:=⟨[(aA "self",aU),(aA "kind",aU),(aA "name",aU),(aA "fields",aU)],[.loc 0,.loc 1,.loc 2,.loc 3],QH⟩
def QI:DS:=(aI (jD (aD 0) 8 (mM aH)) (aI (jD (aD 0) 9 (aB (PV.int 0))) (aI (jD (aD 0) 10 (dN aH)) aK)))
def Fo:Fn:=⟨[(aA "self",aU)],[.loc 0],QI⟩
def QJ:DS:=(aI (jD (aD 0) 9 (bV gP (eR (aD 0) 9) (aB (PV.int 1)))) (aI (mN (eR (aD 0) 8) (eR (aD 0) 9) (aZ (aB (PV.aE (aR 230))) (aC (aD 1) (aC (aD 2) (aC (p1 zM (aD 3)) aH))))) (aI (bJ (eR (aD 0) 9)) aK)))
def Fp:Fn:=⟨[(aA "self",aU),(aA "kind",aU),(aA "name",aU),(aA "fields",aU),(aA "Thing",aY),(aA "list",aY)],[.loc 0,.loc 1,.loc 2,.loc 3],QJ⟩
def QK:DS:=(aI (cW (Tg.loc 2) (hV BM.get (eR (aD 0) 8) (aC (aD 1) aH))) (aI (bR (gY (bF (rI (aD 2))) (gY (bF (bB bO (eR (aD 2) 7) (aB (PV.str (aA "gone"))))) oV)) (aI (mA 51 0 (aB (PV.str (aA "what is gone is used")))) aK) aK) (aI (bJ (aD 2)) aK)))
def Fq:Fn:=⟨[(aA "self",aU),(aA "number",aU),(aA "found",aU),(aA "FormFault",aY)],[.loc 0,.loc 1],QK⟩
def QL:DS:=(aI (cW (Tg.loc 2) (fC 375 262 (aD 0) (aC (aD 1) aH))) (aI (jD (aD 2) 4 (bV gP (eR (aD 2) 4) (aB (PV.int 1)))) aK))
def Fs:Fn:=⟨[(aA "self",aU),(aA "number",aU),(aA "thing",aU)],[.loc 0,.loc 1],QL⟩
def QM:DS:=(aI (eN (fC 375 283 (aD 0) (aC (dN (aC (bM (aC (aB (PV.str (aA "strong"))) (aC (aD 1) aH))) aH)) aH))) aK)
def Ft:Fn:=⟨[(aA "self",aU),(aA "number",aU)],[.loc 0,.loc 1],QM⟩
def QN:DS:=(aI (cW (Tg.loc 2) (zP (p1 zM (aD 1)))) (aI (DF (bF (aD 2)) (aI (jQ [Tg.loc 3,Tg.loc 4] (hV BM.qD (aD 2) aH)) (aI (bR (bF (bB bO (aD 3) (aB (PV.str (aA "strong"))))) (aI (eN (hV BM.extend (aD 2) (aC (zP (fC 375 290 (aD 0) (aC (aD 4) aH))) aH))) aK) (aI (eN (fC 375 297 (aD 0) (aC (aD 3) (aC (aD 4) aH)))) aK)) aK))) aK))
def Fu:Fn:=⟨[(aA "self",aU),(aA "counts",aU),(aA "waiting",aU),(aA "kind",aU),(aA "number",aU),(aA "list",aY)],[.loc 0,.loc 1],QN⟩
def KM:DS:=(aI (eN (hV BM.extend (aD 3) (aC (aZ (aB (PV.aE (aR 88))) (aC (aD 4) aH)) aH))) aK)
def FA:DS:=(aI (cW (Tg.loc 2) (fC 375 262 (aD 0) (aC (aD 1) aH))) (aI (bR (bF (bB rU (eR (aD 2) 4) (aB (PV.int 1)))) (aI (mA 51 0 (aB (PV.str (aA "what nobody holds is let go")))) aK) aK) (aI (jD (aD 2) 4 (bV jV (eR (aD 2) 4) (aB (PV.int 1)))) (aI (bR (gY (bF (bB OH (eR (aD 2) 4) (aB (PV.int 0)))) (gY (bF (bB kI (eR (aD 2) 7) (aB (PV.str (aA "live"))))) oV)) (aI (bJ (dN aH)) aK) aK) (aI (bR (bF (bB bO (eR (aD 2) 1) (aB (PV.str (aA "object"))))) (aI (jD (aD 2) 7 (aB (PV.str (aA "dying")))) (aI (eN (hV BM.append (eR (aD 0) 10) (aC (aD 1) aH))) (aI (bJ (dN aH)) aK))) aK) (aI (cW (Tg.loc 3) (dN aH)) (aI (kE (jJ (Tg.loc 4)) (lF (eR (aD 2) 3)) KM) (aI (eN (fC 375 304 (aD 0) (aC (aD 1) aH))) (aI (bJ (aD 3)) aK)))))))))
def SS:Fn:=⟨[(aA "self",aU),(aA "number",aU),(aA "thing",aU),(aA "found",aU),(aA "value",aU),(aA "FormFault",aY),(aA "counted_in",aY)],[.loc 0,.loc 1],FA⟩
def Yp:DS:=(aI (cW (Tg.loc 3) (bC (eR (aD 0) 8) (aD 2))) (aI (bR (bF (bB bO (aD 1) (aB (PV.str (aA "weak"))))) (aI (jD (aD 3) 5 (bV jV (eR (aD 3) 5) (aB (PV.int 1)))) aK) (aI (jD (aD 3) 6 (bV jV (eR (aD 3) 6) (aB (PV.int 1)))) aK)) aK))
def Q3:Fn:=⟨[(aA "self",aU),(aA "kind",aU),(aA "number",aU),(aA "thing",aU)],[.loc 0,.loc 1,.loc 2],Yp⟩
def QO:DS:=(aI (cW (Tg.loc 2) (fC 375 262 (aD 0) (aC (aD 1) aH))) (aI (jD (aD 2) 7 (aB (PV.str (aA "gone")))) (aI (jD (aD 2) 3 (dN aH)) aK)))
def Fv:Fn:=⟨[(aA "self",aU),(aA "number",aU),(aA "thing",aU)],[.loc 0,.loc 1],QO⟩
def FB:DS:=(aI (kE (MX [Tg.loc 2,Tg.loc 3]) (lF (aZ (aB (PV.aE (aR 88))) (aC (aD 1) aH))) (aI (bR (bF (bB bO (aD 2) (aB (PV.str (aA "strong"))))) (aI (eN (fC 375 269 (aD 0) (aC (aD 3) aH))) aK) (aI (bR (bF (bB bO (aD 2) (aB (PV.str (aA "weak"))))) (aI (jD (bC (eR (aD 0) 8) (aD 3)) 5 (bV gP (eR (bC (eR (aD 0) 8) (aD 3)) 5) (aB (PV.int 1)))) aK) (aI (jD (bC (eR (aD 0) 8) (aD 3)) 6 (bV gP (eR (bC (eR (aD 0) 8) (aD 3)) 6) (aB (PV.int 1)))) aK)) aK)) aK)) (aI (bJ (aD 1)) aK))
def ST:Fn:=⟨[(aA "self",aU),(aA "value",aU),(aA "kind",aU),(aA "number",aU),(aA "counted_in",aY)],[.loc 0,.loc 1],FB⟩
def QP:DS:=(aI (eN (fC 375 283 (aD 0) (aC (aZ (aB (PV.aE (aR 88))) (aC (aD 1) aH)) aH))) aK)
def Fw:Fn:=⟨[(aA "self",aU),(aA "value",aU),(aA "counted_in",aY)],[.loc 0,.loc 1],QP⟩
def QQ:DS:=(aI (bJ (eR (fC 375 262 (aD 0) (aC (aD 1) aH)) 3)) aK)
def Fx:Fn:=⟨[(aA "self",aU),(aA "number",aU)],[.loc 0,.loc 1],QQ⟩
def FC:DS:=(aI (cW (Tg.loc 2) (fC 375 262 (cL 0) (aC (aD 1) aH))) (aI (bR (bF (bB bO (eR (aD 2) 4) (aB (PV.int 1)))) (aI (bJ (aD 1)) aK) aK) (aI (cW (Tg.loc 3) (fC 375 255 (cL 0) (aC (aB (PV.str (aA "buffer"))) (aC (aB (PV.str (aA ""))) (aC (nI (lF (eR (aD 2) 3)) (JL (JS {kind:=sE,names:=[(aA ".0",aU),(aA "value",aU),(aA "self",gS)],isGenerator:=false,isCoroutine:=false})) 1 [(2,0)] (fC 375 311 (cL 2) (aC (aD 1) aH))) aH))))) (aI (eN (fC 375 276 (cL 0) (aC (aD 1) aH))) (aI (bJ (aD 3)) aK)))))
def SU:Fn:=⟨[(aA "self",jO),(aA "number",aU),(aA "thing",aU),(aA "fresh",aU)],[.fS 0,.loc 1],FC⟩
def CO:DS:=(aI (bR (bF (bB kI (eR (bC (eR (aD 0) 8) (aD 2)) 7) (aB (PV.str (aA "gone"))))) (aI (eN (hV BM.append (aD 1) (aC (bM (aC (eR (bC (eR (aD 0) 8) (aD 2)) 1) (aC (eR (bC (eR (aD 0) 8) (aD 2)) 2) aH))) aH))) aK) aK) aK)
def QR:DS:=(aI (cW (Tg.loc 1) (dN aH)) (aI (kE (jJ (Tg.loc 2)) (lF (p1 DI (eR (aD 0) 8))) CO) (aI (bJ (aD 1)) aK)))
def Fy:Fn:=⟨[(aA "self",aU),(aA "found",aU),(aA "number",aU),(aA "sorted",aY)],[.loc 0],QR⟩
def QT:DS:=(aI (bJ (dN (aC (bM (aC (aB (PV.int 0)) aH)) (aC (bM (aC (aB (PV.int 2)) (aC (aB (PV.int 0)) aH))) (aC (bM (aC (aB (PV.int 3)) (aC (xM (aB (PV.int 1))) (aC (aB (PV.int 0)) aH)))) aH))))) aK)
def Ga:Fn:=⟨[],[],QT⟩
def QU:DS:=(aI (bJ (dN (aC (bM (aC (aB (PV.int 1)) aH)) (aC (bM (aC (aB (PV.int 2)) (aC (aB (PV.int 1)) aH))) aH)))) aK)
def Gb:Fn:=⟨[],[],QU⟩
def Yq:DS:=(aI (bJ (dN (aC (aB (PV.int 0)) (aC (aB (PV.int 1)) (aC (xM (aB (PV.int 1))) (aC (aB (PV.int 3)) (aC (xM (aB (PV.int 7))) (aC (bV yS (aB (PV.int 2)) (aB (PV.int 31))) (aC (bV yS (aB (PV.int 2)) (aB (PV.int 62))) (aC (bV jV (bV yS (aB (PV.int 2)) (aB (PV.int 63))) (aB (PV.int 1))) (aC (bV jV (aB (PV.int 0)) (bV yS (aB (PV.int 2)) (aB (PV.int 63)))) aH))))))))))) aK)
def Q4:Fn:=⟨[],[],Yq⟩
def Yr:DS:=(aI (bJ (dN (aC (aB (PV.str (aA ""))) (aC (aB (PV.str (aA "a"))) (aC (aB (PV.str (aA "ab"))) (aC (aB (PV.str (aA "b"))) aH)))))) aK)
def Q5:Fn:=⟨[],[],Yr⟩
def Ys:DS:=(aI (bJ (dN (aC (aB (PV.str (aA "add"))) (aC (aB (PV.str (aA "sub"))) (aC (aB (PV.str (aA "mul"))) (aC (aB (PV.str (aA "div"))) (aC (aB (PV.str (aA "rem"))) (aC (aB (PV.str (aA "neg"))) aH)))))))) aK)
def Q6:Fn:=⟨[],[],Ys⟩
def Yt:DS:=(aI (bJ (dN (aC (aB (PV.str (aA "eq"))) (aC (aB (PV.str (aA "ne"))) (aC (aB (PV.str (aA "lt"))) (aC (aB (PV.str (aA "le"))) (aC (aB (PV.str (aA "gt"))) (aC (aB (PV.str (aA "ge"))) aH)))))))) aK)
def Q7:Fn:=⟨[],[],Yt⟩
def Yu:DS:=(aI (bJ (dN (aC (aB (PV.str (aA "not"))) (aC (aB (PV.str (aA "and"))) (aC (aB (PV.str (aA "or"))) (aC (aB (PV.str (aA "concat"))) (aC (aB (PV.str (aA "string_count"))) (aC (aB (PV.str (aA "string_empty"))) (aC (aB (PV.str (aA "is_nil"))) aH))))))))) aK)
def Q8:Fn:=⟨[],[],Yu⟩
def FD:DS:=(aI (jQ [Tg.loc 2,Tg.loc 3] (aD 0)) (aI (mN (aD 0) (aB (PV.int 1)) (bV gP (aD 3) (aB (PV.int 1)))) (aI (bJ (jB (bF (bB rU (aD 3) (p1 fX (aD 2)))) (bV yR (bC (aD 2) (aD 3)) (aD 1)) (bV yR (bV gP (bV gP (bV vT (aB (PV.int 7)) (aD 3)) (bV BA (aD 3) (aB (PV.int 5)))) (aB (PV.int 3))) (aD 1)))) aK)))
def SV:Fn:=⟨[(aA "well",aU),(aA "size",aU),(aA "numbers",aU),(aA "at",aU),(aA "len",aY)],[.loc 0,.loc 1],FD⟩
def Yv:DS:=(aI (kE (jJ (Tg.loc 2)) (lF (aD 1)) (aI (cW (Tg.loc 0) (aZ (aB (PV.aE (aR 110))) (aC (aD 0) (aC (aD 2) aH)))) aK)) (aI (bJ (aD 0)) aK))
def Q9:Fn:=⟨[(aA "spot",aU),(aA "path",aU),(aA "index",aU),(aA "part_place",aY)],[.loc 0,.loc 1],Yv⟩
def FF:DS:=(aI (qJ (aI (bJ (bM (aC (aB (PV.str (aA "gives"))) (aC (DA (aD 0)) aH)))) aK) 63 (some 1) (bM (aC (aB (PV.str (aA "traps"))) (aC (eR (aD 1) 0) aH)))) aK)
def SW:Fn:=⟨[(aA "deed",aU),(aA "fault",aU),(aA "Trap",aY)],[.loc 0],FF⟩
def QV:DS:=(aI (qJ (aI (eN (DA (aD 0))) aK) 51 none (aB (PV.bool true))) (aI (bJ (aB (PV.bool false))) aK))
def Gc:Fn:=⟨[(aA "deed",aU),(aA "FormFault",aY)],[.loc 0],QV⟩
def Yw:DS:=(aI (bR (gY (bF (bB bO (aD 0) (aB (PV.str (aA "div"))))) (gY (bF (bB bO (aD 0) (aB (PV.str (aA "rem"))))) oV)) (aI (bR (bF (bB bO (aD 2) (aB (PV.int 0)))) (aI (bJ (bM (aC (aB (PV.str (aA "traps"))) (aC (aB (PV.str (aA "division"))) aH)))) aK) aK) (aI (cW (Tg.loc 3) (bV BA (p1 pI (aD 1)) (p1 pI (aD 2)))) (aI (cW (Tg.loc 4) (jB (bF (bB bO (bB rU (aD 1) (aB (PV.int 0))) (bB rU (aD 2) (aB (PV.int 0))))) (aD 3) (bV jV (aB (PV.int 0)) (aD 3)))) (aI (bR (bF (bB bO (aD 4) (bV yS (aB (PV.int 2)) (aB (PV.int 63))))) (aI (bJ (bM (aC (aB (PV.str (aA "traps"))) (aC (aB (PV.str (aA "overflow"))) aH)))) aK) aK) (aI (bJ (bM (aC (aB (PV.str (aA "gives"))) (aC (jB (bF (bB bO (aD 0) (aB (PV.str (aA "div"))))) (aD 4) (bV jV (aD 1) (bV vT (aD 4) (aD 2)))) aH)))) aK))))) aK) (aI (cW (Tg.loc 5) (bC (mM (aC (aB (PV.str (aA "add"))) (aC (bV gP (aD 1) (aD 2)) (aC (aB (PV.str (aA "sub"))) (aC (bV jV (aD 1) (aD 2)) (aC (aB (PV.str (aA "mul"))) (aC (bV vT (aD 1) (aD 2)) (aC (aB (PV.str (aA "neg"))) (aC (bV jV (aB (PV.int 0)) (aD 1)) aH))))))))) (aD 0))) (aI (bR (bF (bB kI (aD 5) (bV jV (bV yR (bV gP (aD 5) (bV yS (aB (PV.int 2)) (aB (PV.int 63)))) (bV yS (aB (PV.int 2)) (aB (PV.int 64)))) (bV yS (aB (PV.int 2)) (aB (PV.int 63)))))) (aI (bJ (bM (aC (aB (PV.str (aA "traps"))) (aC (aB (PV.str (aA "overflow"))) aH)))) aK) aK) (aI (bJ (bM (aC (aB (PV.str (aA "gives"))) (aC (aD 5) aH)))) aK))))
def R0:Fn:=⟨[(aA "op",aU),(aA "one",aU),(aA "other",aU),(aA "size",aU),(aA "many",aU),(aA "outcome",aU),(aA "abs",aY)],[.loc 0,.loc 1,.loc 2],Yw⟩
def Yx:DS:=(aI (bR (bF (bB bO (aD 1) (aD 2))) (aI (bJ (jB (bF (bB vK (aD 0) (bM (aC (aB (PV.str (aA "eq"))) (aC (aB (PV.str (aA "le"))) (aC (aB (PV.str (aA "ge"))) aH)))))) (aB (PV.int 1)) (aB (PV.int 0)))) aK) aK) (aI (cW (Tg.loc 3) (bC (p1 DI (dN (aC (aD 1) (aC (aD 2) aH)))) (aB (PV.int 0)))) (aI (bJ (jB (gY (bF (bB bO (aD 0) (aB (PV.str (aA "ne"))))) (gY (jK (bF (bB vK (aD 0) (bM (aC (aB (PV.str (aA "lt"))) (aC (aB (PV.str (aA "le"))) aH))))) (jK (bF (bB bO (aD 3) (aD 1))) rO)) (gY (jK (bF (bB vK (aD 0) (bM (aC (aB (PV.str (aA "gt"))) (aC (aB (PV.str (aA "ge"))) aH))))) (jK (bF (bB bO (aD 3) (aD 2))) rO)) oV))) (aB (PV.int 1)) (aB (PV.int 0)))) aK)))
def R1:Fn:=⟨[(aA "op",aU),(aA "one",aU),(aA "other",aU),(aA "first",aU),(aA "sorted",aY)],[.loc 0,.loc 1,.loc 2],Yx⟩
def Nt:DS:=(aI (bR (bF (bB bO (aD 1) (aB (PV.str (aA "not"))))) (aI (bJ (bB bO (aZ (aB (PV.aE (aR 180))) (aC (aD 1) (aC (dN (aC (aD 2) aH)) aH))) (bC (dN (aC (aB (PV.int 1)) (aC (aB (PV.int 0)) aH))) (aD 2)))) aK) aK) (aI (bR (gY (bF (bB bO (aD 1) (aB (PV.str (aA "and"))))) (gY (bF (bB bO (aD 1) (aB (PV.str (aA "or"))))) oV)) (aI (bJ (bB bO (aZ (aB (PV.aE (aR 180))) (aC (aD 1) (aC (dN (aC (aD 2) (aC (aD 3) aH))) aH))) (bC (bC (dN (aC (dN (aC (aB (PV.int 0)) (aC (aB (PV.int 0)) (aC (aB (PV.int 1)) aH)))) (aC (dN (aC (aB (PV.int 0)) (aC (aB (PV.int 1)) (aC (aB (PV.int 1)) aH)))) aH))) (bB bO (aD 1) (aB (PV.str (aA "or"))))) (bV gP (aD 2) (aD 3))))) aK) aK) (aI (bR (bF (bB bO (aD 1) (aB (PV.str (aA "concat"))))) (aI (bJ (bB bO (aZ (aB (PV.aE (aR 180))) (aC (aD 1) (aC (dN (aC (aD 4) (aC (aD 5) aH))) aH))) (hV BM.join (aB (PV.str (aA ""))) (aC (dN (aC (aD 4) (aC (aD 5) aH))) aH)))) aK) aK) (aI (bR (bF (bB bO (aD 1) (aB (PV.str (aA "string_count"))))) (aI (bJ (bB bO (aZ (aB (PV.aE (aR 180))) (aC (aD 1) (aC (dN (aC (aD 4) aH)) aH))) (bC (mM (aC (aB (PV.str (aA ""))) (aC (aB (PV.int 0)) (aC (aB (PV.str (aA "a"))) (aC (aB (PV.int 1)) (aC (aB (PV.str (aA "ab"))) (aC (aB (PV.int 2)) (aC (aB (PV.str (aA "b"))) (aC (aB (PV.int 1)) aH))))))))) (aD 4)))) aK) aK) (aI (bR (bF (bB bO (aD 1) (aB (PV.str (aA "string_empty"))))) (aI (bJ (bB bO (aZ (aB (PV.aE (aR 180))) (aC (aD 1) (aC (dN (aC (aD 4) aH)) aH))) (jB (bF (bB vK (aD 4) (bM (aC (aB (PV.str (aA ""))) aH)))) (aB (PV.int 1)) (aB (PV.int 0))))) aK) aK) (aI (bJ (bB bO (aZ (aB (PV.aE (aR 180))) (aC (aD 1) (aC (dN (aC (bC (dN (aC (bM (aC (aB (PV.str (aA "enum"))) (aC (aB (PV.int 0)) (aC (aB PV.none) aH)))) (aC (bM (aC (aB (PV.str (aA "enum"))) (aC (aB (PV.int 1)) (aC (aB (PV.int 4)) aH)))) aH))) (aD 2)) aH)) aH))) (bV jV (aB (PV.int 1)) (aD 2)))) aK))))))
def QW:DS:=(aI (jQ [Tg.loc 1,Tg.loc 2,Tg.loc 3] (bM (aC (bC (aZ (aB (PV.aE (aR 428))) aH) (aZ (aB (PV.aE (aR 435))) (aC (aD 0) (aC (aB (PV.int 7)) aH)))) (aC (aZ (aB (PV.aE (aR 435))) (aC (aD 0) (aC (aB (PV.int 2)) aH))) (aC (aZ (aB (PV.aE (aR 435))) (aC (aD 0) (aC (aB (PV.int 2)) aH))) aH))))) (aI (jQ [Tg.loc 4,Tg.loc 5] (bM (aC (bC (aZ (aB (PV.aE (aR 407))) aH) (aZ (aB (PV.aE (aR 435))) (aC (aD 0) (aC (aB (PV.int 4)) aH)))) (aC (bC (aZ (aB (PV.aE (aR 407))) aH) (aZ (aB (PV.aE (aR 435))) (aC (aD 0) (aC (aB (PV.int 4)) aH)))) aH)))) Nt))
def Gd:Fn:=⟨[(aA "well",aU),(aA "op",aU),(aA "one",aU),(aA "other",aU),(aA "word",aU),(aA "more",aU),(aA "_law_others",aY),(aA "_law_draw",aY),(aA "_law_words",aY),(aA "builtin_value",aY)],[.loc 0],QW⟩
noncomputable def ik:Expr:=(vL (iL (aA "builtin_value") {line:=371,col:=34,endLine:=371,endCol:=47}) [iL (aA "op") {line:=371,col:=48,endLine:=371,endCol:=50},iL (aA "operands") {line:=371,col:=52,endLine:=371,endCol:=60}] [] {line:=371,col:=34,endLine:=371,endCol:=61})
noncomputable def kh:Scope:={kind:=sE,names:=[(aA "op",gS),(aA "operands",gS),(aA "builtin_value",aY)],isGenerator:=false,isCoroutine:=false}
def Qc:DS:=(aI (cW (Tg.fS 5) (jB (bF (bB bO (cL 4) (aB (PV.str (aA "neg"))))) (dN (aC (aD 2) aH)) (dN (aC (aD 2) (aC (aD 3) aH))))) (aI (bJ (bB bO (aZ (aB (PV.aE (aR 449))) (aC (sW ik kh [(0,4),(1,5)]) aH)) (aZ (aB (PV.aE (aR 463))) (aC (cL 4) (aC (aD 2) (aC (aD 3) aH)))))) aK))
def WI:DS:=(aI (bJ (bB bO (aZ (aB (PV.aE (aR 180))) (aC (cL 4) (aC (dN (aC (aD 2) (aC (aD 3) aH))) aH))) (aZ (aB (PV.aE (aR 470))) (aC (cL 4) (aC (aD 2) (aC (aD 3) aH)))))) aK)
def uA:DS:=(aI (jQ [Tg.loc 1,Tg.loc 2,Tg.loc 3] (bM (aC (aZ (aB (PV.aE (aR 435))) (aC (aD 0) (aC (aB (PV.int 3)) aH))) (aC (bC (aZ (aB (PV.aE (aR 400))) aH) (aZ (aB (PV.aE (aR 435))) (aC (aD 0) (aC (aB (PV.int 9)) aH)))) (aC (bC (aZ (aB (PV.aE (aR 400))) aH) (aZ (aB (PV.aE (aR 435))) (aC (aD 0) (aC (aB (PV.int 9)) aH)))) aH))))) (aI (bR (bF (bB bO (aD 1) (aB (PV.int 0)))) (aI (cW (Tg.fS 4) (bC (aZ (aB (PV.aE (aR 414))) aH) (aZ (aB (PV.aE (aR 435))) (aC (aD 0) (aC (aB (PV.int 6)) aH))))) Qc) aK) (aI (bR (bF (bB bO (aD 1) (aB (PV.int 1)))) (aI (cW (Tg.fS 4) (bC (aZ (aB (PV.aE (aR 421))) aH) (aZ (aB (PV.aE (aR 435))) (aC (aD 0) (aC (aB (PV.int 6)) aH))))) (aI (bR (bF (bB bO (aZ (aB (PV.aE (aR 435))) (aC (aD 0) (aC (aB (PV.int 2)) aH))) (aB (PV.int 1)))) (aI (jQ [Tg.loc 2,Tg.loc 3] (bM (aC (bC (aZ (aB (PV.aE (aR 407))) aH) (aZ (aB (PV.aE (aR 435))) (aC (aD 0) (aC (aB (PV.int 4)) aH)))) (aC (bC (aZ (aB (PV.aE (aR 407))) aH) (aZ (aB (PV.aE (aR 435))) (aC (aD 0) (aC (aB (PV.int 4)) aH)))) aH)))) aK) aK) WI)) aK) (aI (bJ (aZ (aB (PV.aE (aR 477))) (aC (aD 0) aH))) aK))))
def lS:Fn:=⟨[(aA "well",aU),(aA "form",aU),(aA "one",aU),(aA "other",aU),(aA "op",jO),(aA "operands",jO),(aA "_law_draw",aY),(aA "_law_edges",aY),(aA "_law_sums",aY),(aA "_law_tried",aY),(aA "_law_summed",aY),(aA "_law_orders",aY),(aA "_law_words",aY),(aA "builtin_value",aY),(aA "_law_ordered",aY),(aA "_law_other_right",aY)],[.loc 0],uA⟩
def FG:DS:=(aI (cW (Tg.loc 2) (bC (bC (aD 0) (aB (PV.str (aA "of")))) (aD 1))) (aI (bR (bF (bB OH (hV BM.count (p1 AE (bC (aD 0) (aB (PV.str (aA "of"))))) (aC (aD 2) aH)) (aB (PV.int 1)))) (aI (eN (aZ (aB (PV.aE (aR 498))) (aC (aD 0) (aC (aD 1) (aC (bC (bC (aD 0) (aB (PV.str (aA "rows")))) (aD 2)) aH))))) aK) aK) (aI (bJ (bC (bC (aD 0) (aB (PV.str (aA "rows")))) (bC (bC (aD 0) (aB (PV.str (aA "of")))) (aD 1)))) aK)))
def SX:Fn:=⟨[(aA "book",aU),(aA "holder",aU),(aA "number",aU),(aA "list",aY),(aA "_law_new",aY)],[.loc 0,.loc 1],FG⟩
def QX:DS:=(aI (mN (aD 0) (aB (PV.str (aA "next"))) (bV gP (bC (aD 0) (aB (PV.str (aA "next")))) (aB (PV.int 1)))) (aI (mN (bC (aD 0) (aB (PV.str (aA "rows")))) (bC (aD 0) (aB (PV.str (aA "next")))) (p1 zM (aD 2))) (aI (mN (bC (aD 0) (aB (PV.str (aA "of")))) (aD 1) (bC (aD 0) (aB (PV.str (aA "next"))))) aK)))
def Ge:Fn:=⟨[(aA "book",aU),(aA "holder",aU),(aA "items",aU),(aA "list",aY)],[.loc 0,.loc 1,.loc 2],QX⟩
def FH:DS:=(aI (cW (Tg.loc 2) (hV BM.pN (bC (aD 0) (aB (PV.str (aA "of")))) (aC (aD 1) aH))) (aI (bR (bF (bB IZ (aD 2) (p1 AE (bC (aD 0) (aB (PV.str (aA "of"))))))) (aI (eN (hV BM.pN (bC (aD 0) (aB (PV.str (aA "rows")))) (aC (aD 2) aH))) aK) aK) aK))
def SY:Fn:=⟨[(aA "book",aU),(aA "holder",aU),(aA "number",aU),(aA "list",aY)],[.loc 0,.loc 1],FH⟩
noncomputable def uT:Expr:=(vL (iL (aA "array_function") {line:=397,col:=34,endLine:=397,endCol:=48}) [iL (aA "heap") {line:=397,col:=49,endLine:=397,endCol:=53},ZL (Tc (aA "array#get")) 0 {line:=397,col:=55,endLine:=397,endCol:=66},Tf [iL (aA "array") {line:=397,col:=69,endLine:=397,endCol:=74},iL (aA "at") {line:=397,col:=76,endLine:=397,endCol:=78}] {line:=397,col:=68,endLine:=397,endCol:=79}] [] {line:=397,col:=34,endLine:=397,endCol:=80})
noncomputable def uV:Scope:={kind:=sE,names:=[(aA "array",gS),(aA "at",gS),(aA "heap",gS),(aA "array_function",aY)],isGenerator:=false,isCoroutine:=false}
def mZ:DS:=(aI (jQ [Tg.loc 4,Tg.fS 6] (bM (aC (aZ (aB (PV.aE (aR 435))) (aC (aD 0) (aC (aB (PV.int 4)) aH))) (aC (bV jV (aZ (aB (PV.aE (aR 435))) (aC (aD 0) (aC (aB (PV.int 5)) aH))) (aB (PV.int 1))) aH)))) (aI (bR (bF (bB bO (aD 4) (aB (PV.int 0)))) (aI (bJ (bB bO (aZ (aB (PV.aE (aR 213))) (aC (cL 1) (aC (aB (PV.str (aA "array#count"))) (aC (dN (aC (cL 2) aH)) aH)))) (p1 fX (aD 3)))) aK) aK) (aI (bR (bF (bB bO (aD 4) (aB (PV.int 1)))) (aI (cW (Tg.loc 5) (jB (bF (vA DU rU (aB (PV.int 0)) (cL 6) (p1 fX (aD 3)))) (bM (aC (aB (PV.str (aA "gives"))) (aC (bC (aD 3) (cL 6)) aH))) (bM (aC (aB (PV.str (aA "traps"))) (aC (aB (PV.str (aA "index"))) aH))))) (aI (bJ (bB bO (aZ (aB (PV.aE (aR 449))) (aC (sW uT uV [(0,2),(1,6),(2,1)]) aH)) (aD 5))) aK)) aK) (aI (cW (Tg.loc 5) (jB (bF (bB bO (aD 3) (dN aH))) (bM (aC (aB (PV.str (aA "enum"))) (aC (aB (PV.int 0)) (aC (aB PV.none) aH)))) (bM (aC (aB (PV.str (aA "enum"))) (aC (aB (PV.int 1)) (aC (bC (aD 3) (jB (bF (bB bO (aD 4) (aB (PV.int 2)))) (aB (PV.int 0)) (bV jV (p1 fX (aD 3)) (aB (PV.int 1))))) aH)))))) (aI (bJ (bB bO (aZ (aB (PV.aE (aR 213))) (aC (cL 1) (aC (jB (bF (bB bO (aD 4) (aB (PV.int 2)))) (aB (PV.str (aA "array#first"))) (aB (PV.str (aA "array#last")))) (aC (dN (aC (cL 2) aH)) aH)))) (aD 5))) aK)))))
def wH:Fn:=⟨[(aA "well",aU),(aA "heap",jO),(aA "array",jO),(aA "items",aU),(aA "op",aU),(aA "due",aU),(aA "at",jO),(aA "_law_draw",aY),(aA "array_function",aY),(aA "len",aY),(aA "_law_tried",aY)],[.loc 0,.fS 1,.fS 2,.loc 3],mZ⟩
noncomputable def GZ:Expr:=(vL (iL (aA "write_place") {line:=402,col:=30,endLine:=402,endCol:=41}) [vL (iL (aA "element_place") {line:=402,col:=42,endLine:=402,endCol:=55}) [iL (aA "heap") {line:=402,col:=56,endLine:=402,endCol:=60},iL (aA "spot") {line:=402,col:=62,endLine:=402,endCol:=66},iL (aA "at") {line:=402,col:=68,endLine:=402,endCol:=70}] [] {line:=402,col:=42,endLine:=402,endCol:=71},iL (aA "number") {line:=402,col:=73,endLine:=402,endCol:=79}] [] {line:=402,col:=30,endLine:=402,endCol:=80})
noncomputable def HC:Scope:={kind:=sE,names:=[(aA "at",gS),(aA "heap",gS),(aA "number",gS),(aA "spot",gS),(aA "write_place",aY),(aA "element_place",aY)],isGenerator:=false,isCoroutine:=false}
def FI:DS:=(aI (cW (Tg.fS 6) (bV jV (aZ (aB (PV.aE (aR 435))) (aC (aD 0) (aC (aB (PV.int 5)) aH))) (aB (PV.int 1)))) (aI (cW (Tg.loc 5) (aZ (aB (PV.aE (aR 449))) (aC (sW GZ HC [(0,6),(1,1),(2,4),(3,2)]) aH))) (aI (bR (tB (bF (vA DU rU (aB (PV.int 0)) (cL 6) (p1 fX (aD 3))))) (aI (bJ (bB bO (aD 5) (bM (aC (aB (PV.str (aA "traps"))) (aC (aB (PV.str (aA "index"))) aH))))) aK) aK) (aI (mN (aD 3) (cL 6) (cL 4)) (aI (bJ (bB bO (aD 5) (bM (aC (aB (PV.str (aA "gives"))) (aC (aB PV.none) aH))))) aK)))))
def SZ:Fn:=⟨[(aA "well",aU),(aA "heap",jO),(aA "spot",jO),(aA "items",aU),(aA "number",jO),(aA "came",aU),(aA "at",jO),(aA "_law_draw",aY),(aA "_law_tried",aY),(aA "len",aY)],[.loc 0,.fS 1,.fS 2,.loc 3,.fS 4],FI⟩
def FJ:DS:=(aI (cW (Tg.loc 6) (p1 DI (aD 4))) (aI (cW (Tg.loc 7) (bC (aD 6) (aZ (aB (PV.aE (aR 435))) (aC (aD 0) (aC (p1 fX (aD 6)) aH))))) (aI (bR (bF (bB bO (aZ (aB (PV.aE (aR 435))) (aC (aD 0) (aC (aB (PV.int 2)) aH))) (aB (PV.int 0)))) (aI (cW (Tg.loc 8) (aZ (aB (PV.aE (aR 138))) (aC (aD 2) aH))) (aI (eN (aZ (aB (PV.aE (aR 131))) (aC (aD 2) (aC (fC 375 311 (aD 1) (aC (bC (aD 4) (aD 7)) aH)) aH)))) (aI (eN (fC 375 318 (aD 1) (aC (aD 8) aH))) (aI (eN (aZ (aB (PV.aE (aR 505))) (aC (aD 5) (aC (aD 3) aH)))) (aI (mN (bC (aD 5) (aB (PV.str (aA "of")))) (aD 3) (bC (bC (aD 5) (aB (PV.str (aA "of")))) (aD 7))) aK))))) (aI (eN (fC 375 318 (aD 1) (aC (hV BM.pN (aD 4) (aC (aD 7) aH)) aH))) (aI (eN (aZ (aB (PV.aE (aR 505))) (aC (aD 5) (aC (aD 7) aH)))) aK))) (aI (bJ (aB (PV.bool true))) aK))))
def TA:Fn:=⟨[(aA "well",aU),(aA "heap",aU),(aA "spot",aU),(aA "path",aU),(aA "hands",aU),(aA "book",aU),(aA "names",aU),(aA "name",aU),(aA "old",aU),(aA "sorted",aY),(aA "_law_draw",aY),(aA "len",aY),(aA "full",aY),(aA "write_place",aY),(aA "_law_let_go",aY)],[.loc 0,.loc 1,.loc 2,.loc 3,.loc 4,.loc 5],FJ⟩
noncomputable def wY:Expr:=(vL (iL (aA "full") {line:=426,col:=83,endLine:=426,endCol:=87}) [iL (aA "inner") {line:=426,col:=88,endLine:=426,endCol:=93}] [] {line:=426,col:=83,endLine:=426,endCol:=94})
noncomputable def xC:Scope:={kind:=sE,names:=[(aA "inner",gS),(aA "full",aY)],isGenerator:=false,isCoroutine:=false}
noncomputable def wZ:Expr:=(vL (iL (aA "full") {line:=430,col:=83,endLine:=430,endCol:=87}) [vL (iL (aA "_law_at") {line:=430,col:=88,endLine:=430,endCol:=95}) [iL (aA "inner") {line:=430,col:=96,endLine:=430,endCol:=101},Expr.Tuple [ZL (Const.int 0) 0 {line:=430,col:=104,endLine:=430,endCol:=105}] 0 {line:=430,col:=103,endLine:=430,endCol:=107}] [] {line:=430,col:=88,endLine:=430,endCol:=108}] [] {line:=430,col:=83,endLine:=430,endCol:=109})
noncomputable def xE:Scope:={kind:=sE,names:=[(aA "inner",gS),(aA "full",aY),(aA "_law_at",aY)],isGenerator:=false,isCoroutine:=false}
def QY:DS:=(aI (cW (Tg.fS 6) (aZ (aB (PV.aE (aR 442))) (aC (aD 1) (aC (bM (aC (aB (PV.int 2)) aH)) aH)))) (aI (cW (Tg.loc 5) (aZ (aB (PV.aE (aR 138))) (aC (cL 6) aH))) (aI (eN (aZ (aB (PV.aE (aR 131))) (aC (cL 6) (aC (aB PV.none) aH)))) (aI (eN (fC 375 318 (aD 0) (aC (aD 5) aH))) (aI (eN (aZ (aB (PV.aE (aR 505))) (aC (aD 2) (aC (bM (aC (aB (PV.int 2)) (aC (aB (PV.int 1)) aH))) aH)))) (aI (bR (gY (bF (xK (aZ (aB (PV.aE (aR 117))) (aC (aZ (aB (PV.aE (aR 442))) (aC (cL 6) (aC (bM (aC (aB (PV.int 1)) aH)) aH))) aH)))) (gY (tB (bF (aZ (aB (PV.aE (aR 456))) (aC (sW wY xC [(0,6)]) aH)))) oV)) (aI (bJ (aB (PV.bool false))) aK) aK) (aI (eN (aZ (aB (PV.aE (aR 131))) (aC (aZ (aB (PV.aE (aR 442))) (aC (cL 6) (aC (bM (aC (aB (PV.int 1)) aH)) aH))) (aC (aZ (aB (PV.aE (aR 213))) (aC (aD 0) (aC (aB (PV.str (aA "array#make"))) (aC (dN (aC (aD 4) (aC (bV gP (aD 4) (aB (PV.int 1))) aH))) aH)))) aH)))) (aI (eN (aZ (aB (PV.aE (aR 498))) (aC (aD 2) (aC (bM (aC (aB (PV.int 2)) (aC (aB (PV.int 1)) aH))) (aC (dN (aC (aD 4) (aC (bV gP (aD 4) (aB (PV.int 1))) aH))) aH))))) (aI (bR (gY (bF (xK (aZ (aB (PV.aE (aR 117))) (aC (aZ (aB (PV.aE (aR 442))) (aC (cL 6) (aC (bM (aC (aB (PV.int 0)) aH)) aH))) aH)))) (gY (tB (bF (aZ (aB (PV.aE (aR 456))) (aC (sW wZ xE [(0,6)]) aH)))) oV)) (aI (bJ (aB (PV.bool false))) aK) aK) (aI (eN (aZ (aB (PV.aE (aR 131))) (aC (aZ (aB (PV.aE (aR 442))) (aC (cL 6) (aC (bM (aC (aB (PV.int 0)) aH)) aH))) (aC (aD 4) aH)))) (aI (mN (aD 3) (bM (aC (aB (PV.int 2)) (aC (aB (PV.int 0)) aH))) (aD 4)) (aI (bJ (aB (PV.bool true))) aK))))))))))))
def Gf:Fn:=⟨[(aA "heap",aU),(aA "ground",aU),(aA "book",aU),(aA "numbers_at",aU),(aA "number",aU),(aA "old",aU),(aA "inner",jO),(aA "_law_at",aY),(aA "full",aY),(aA "write_place",aY),(aA "_law_let_go",aY),(aA "read_place",aY),(aA "_law_is_refused",aY),(aA "array_function",aY),(aA "_law_new",aY)],[.loc 0,.loc 1,.loc 2,.loc 3,.loc 4],QY⟩
noncomputable def CL:Expr:=(vL (iL (aA "array_function") {line:=449,col:=34,endLine:=449,endCol:=48}) [iL (aA "heap") {line:=449,col:=49,endLine:=449,endCol:=53},ZL (Tc (aA "array#pop")) 0 {line:=449,col:=55,endLine:=449,endCol:=66},Tf [iL (aA "spot") {line:=449,col:=69,endLine:=449,endCol:=73}] {line:=449,col:=68,endLine:=449,endCol:=74}] [] {line:=449,col:=34,endLine:=449,endCol:=75})
noncomputable def CQ:Scope:={kind:=sE,names:=[(aA "heap",gS),(aA "spot",gS),(aA "array_function",aY)],isGenerator:=false,isCoroutine:=false}
def dG:DS:=(aI (bR (bF (bB bO (aD 6) (aB (PV.int 0)))) (aI (cW (Tg.loc 10) (bC (aZ (aB (PV.aE (aR 386))) aH) (aZ (aB (PV.aE (aR 435))) (aC (aD 0) (aC (aB (PV.int 3)) aH))))) (aI (mN (aD 5) (aD 10) (aD 8)) (aI (eN (aZ (aB (PV.aE (aR 131))) (aC (aZ (aB (PV.aE (aR 442))) (aC (aD 2) (aC (aD 10) aH))) (aC (aD 8) aH)))) (aI (bJ (bB bO (aZ (aB (PV.aE (aR 117))) (aC (aZ (aB (PV.aE (aR 442))) (aC (aD 2) (aC (aD 10) aH))) aH)) (aD 8))) aK)))) aK) (aI (bR (bF (bB bO (aD 6) (aB (PV.int 1)))) (aI (eN (hV BM.append (aZ (aB (PV.aE (aR 491))) (aC (aD 4) (aC (aD 7) aH))) (aC (aD 8) aH))) (aI (bJ (bB bO (aZ (aB (PV.aE (aR 213))) (aC (cL 1) (aC (aB (PV.str (aA "array#append"))) (aC (dN (aC (cL 14) (aC (aD 8) aH))) aH)))) (bM aH))) aK)) aK) (aI (bR (bF (bB bO (aD 6) (aB (PV.int 2)))) (aI (cW (Tg.loc 11) (aZ (aB (PV.aE (aR 491))) (aC (aD 4) (aC (aD 7) aH)))) (aI (cW (Tg.loc 12) (jB (bF (bB kI (aD 11) (dN aH))) (bM (aC (aB (PV.str (aA "gives"))) (aC (hV BM.qD (aD 11) aH) aH))) (bM (aC (aB (PV.str (aA "traps"))) (aC (aB (PV.str (aA "index"))) aH))))) (aI (bJ (bB bO (aZ (aB (PV.aE (aR 449))) (aC (sW CL CQ [(0,1),(1,14)]) aH)) (aD 12))) aK))) aK) (aI (bR (bF (bB bO (aD 6) (aB (PV.int 3)))) (aI (bJ (aZ (aB (PV.aE (aR 519))) (aC (aD 0) (aC (cL 1) (aC (cL 14) (aC (aZ (aB (PV.aE (aR 491))) (aC (aD 4) (aC (aD 7) aH))) (aC (aD 8) aH))))))) aK) aK) (aI (bR (jK (bF (bB bO (aD 6) (aB (PV.int 4)))) (jK (bF (bB IZ (aD 9) (aD 3))) rO)) (aI (mN (aD 3) (aD 9) (fC 375 311 (cL 1) (aC (aZ (aB (PV.aE (aR 138))) (aC (cL 14) aH)) aH))) (aI (mN (bC (aD 4) (aB (PV.str (aA "of")))) (aD 9) (bC (bC (aD 4) (aB (PV.str (aA "of")))) (aD 7))) (aI (bJ (aB (PV.bool true))) aK))) aK) (aI (bR (bF (bB bO (aD 6) (aB (PV.int 5)))) (aI (bJ (aZ (aB (PV.aE (aR 512))) (aC (aD 0) (aC (cL 1) (aC (aZ (aB (PV.aE (aR 138))) (aC (cL 14) aH)) (aC (bC (bC (aD 4) (aB (PV.str (aA "rows")))) (bC (bC (aD 4) (aB (PV.str (aA "of")))) (aD 7))) aH)))))) aK) aK) (aI (bR (jK (bF (bB bO (aD 6) (aB (PV.int 6)))) (jK (bF (bB IZ (aD 9) (aD 3))) rO)) (aI (cW (Tg.loc 13) (bC (aZ (aB (PV.aE (aR 393))) aH) (aZ (aB (PV.aE (aR 435))) (aC (aD 0) (aC (aB (PV.int 2)) aH))))) (aI (mN (aD 3) (aD 9) (aZ (aB (PV.aE (aR 213))) (aC (cL 1) (aC (aB (PV.str (aA "array#concat"))) (aC (dN (aC (aZ (aB (PV.aE (aR 138))) (aC (cL 14) aH)) (aC (aZ (aB (PV.aE (aR 138))) (aC (aZ (aB (PV.aE (aR 442))) (aC (aD 2) (aC (aD 13) aH))) aH)) aH))) aH))))) (aI (eN (aZ (aB (PV.aE (aR 498))) (aC (aD 4) (aC (aD 9) (aC (bV gP (bC (bC (aD 4) (aB (PV.str (aA "rows")))) (bC (bC (aD 4) (aB (PV.str (aA "of")))) (aD 7))) (bC (bC (aD 4) (aB (PV.str (aA "rows")))) (bC (bC (aD 4) (aB (PV.str (aA "of")))) (aD 13)))) aH))))) (aI (bJ (aB (PV.bool true))) aK)))) aK) (aI (bR (jK (bF (bB bO (aD 6) (aB (PV.int 7)))) (jK (bF (bB kI (aD 3) (mM aH))) rO)) (aI (bJ (aZ (aB (PV.aE (aR 526))) (aC (aD 0) (aC (cL 1) (aC (cL 14) (aC (aD 7) (aC (aD 3) (aC (aD 4) aH)))))))) aK) aK) (aI (bR (bF (bB bO (aD 6) (aB (PV.int 8)))) (aI (bJ (aZ (aB (PV.aE (aR 533))) (aC (cL 1) (aC (aD 2) (aC (aD 4) (aC (aD 5) (aC (aD 8) aH))))))) aK) aK) (aI (bJ (aZ (aB (PV.aE (aR 484))) (aC (aD 0) aH))) aK))))))))))
def QZ:DS:=(aI (jQ [Tg.loc 6,Tg.loc 7,Tg.loc 8] (bM (aC (aZ (aB (PV.aE (aR 435))) (aC (aD 0) (aC (aB (PV.int 10)) aH))) (aC (bC (aZ (aB (PV.aE (aR 393))) aH) (aZ (aB (PV.aE (aR 435))) (aC (aD 0) (aC (aB (PV.int 2)) aH)))) (aC (bV jV (aZ (aB (PV.aE (aR 435))) (aC (aD 0) (aC (aB (PV.int 90)) aH))) (aB (PV.int 40))) aH))))) (aI (jQ [Tg.fS 14,Tg.loc 9] (bM (aC (aZ (aB (PV.aE (aR 442))) (aC (aD 2) (aC (aD 7) aH))) (aC (bM (aC (aB (PV.str (aA "kept"))) (aC (bV gP (bC (aD 4) (aB (PV.str (aA "next")))) (bV vT (aB (PV.int 100)) (p1 fX (aD 3)))) aH))) aH)))) dG))
def Gg:Fn:=⟨[(aA "well",aU),(aA "heap",jO),(aA "ground",aU),(aA "hands",aU),(aA "book",aU),(aA "numbers_at",aU),(aA "way",aU),(aA "path",aU),(aA "number",aU),(aA "name",aU),(aA "one",aU),(aA "items",aU),(aA "due",aU),(aA "other",aU),(aA "spot",jO),(aA "_law_draw",aY),(aA "_law_array_paths",aY),(aA "_law_at",aY),(aA "len",aY),(aA "_law_number_paths",aY),(aA "write_place",aY),(aA "read_place",aY),(aA "_law_own",aY),(aA "array_function",aY),(aA "_law_tried",aY),(aA "_law_laid_right",aY),(aA "full",aY),(aA "_law_asked_right",aY),(aA "_law_new",aY),(aA "_law_changed_hands",aY),(aA "_law_refilled",aY),(aA "_law_builtin_right",aY)],[.loc 0,.fS 1,.loc 2,.loc 3,.loc 4,.loc 5],QZ⟩
def KN:DS:=(aI (bR (bF (bB kI (aZ (aB (PV.aE (aR 138))) (aC (aZ (aB (PV.aE (aR 442))) (aC (aD 1) (aC (aD 5) aH))) aH)) (bC (aD 4) (aD 5)))) (aI (bJ (aB (PV.bool false))) aK) aK) aK)
def yZ:D:=(jB (bF (bB vK (aD 7) (aD 2))) (bC (aD 2) (aD 7)) (aZ (aB (PV.aE (aR 138))) (aC (aZ (aB (PV.aE (aR 442))) (aC (aD 1) (aC (aD 7) aH))) aH)))
def BK:DS:=(aI (bR (bF (bB kI (eR (fC 375 262 (aD 0) (aC (bC (aD 6) (aD 9)) aH)) 4) (hV BM.count (p1 AE (bC (aD 3) (aB (PV.str (aA "of"))))) (aC (aD 9) aH)))) (aI (bJ (aB (PV.bool false))) aK) aK) aK)
def BJ:DS:=(aI (jQ [Tg.loc 8,Tg.loc 9] (bM (aC yZ (aC (bC (bC (aD 3) (aB (PV.str (aA "of")))) (aD 7)) aH)))) (aI (bR (gY (bF (bB kI (bC (aD 8) (aB (PV.int 0))) (aB (PV.str (aA "buf"))))) (gY (bF (bB kI (fC 375 360 (aD 0) (aC (bC (aD 8) (aB (PV.int 1))) aH)) (bC (bC (aD 3) (aB (PV.str (aA "rows")))) (aD 9)))) oV)) (aI (bJ (aB (PV.bool false))) aK) aK) (aI (bR (bF (bB kI (hV BM.rM (aD 6) (aC (aD 9) (aC (bC (aD 8) (aB (PV.int 1))) aH))) (bC (aD 8) (aB (PV.int 1))))) (aI (bJ (aB (PV.bool false))) aK) aK) aK)))
def RA:DS:=(aI (kE (jJ (Tg.loc 5)) (lF (aD 4)) KN) (aI (cW (Tg.loc 6) (mM aH)) (aI (kE (jJ (Tg.loc 7)) (lF (bC (aD 3) (aB (PV.str (aA "of"))))) BJ) (aI (bR (bF (bB rU (p1 zT (aD 6)) (p1 fX (aD 6)))) (aI (bJ (aB (PV.bool false))) aK) aK) (aI (kE (jJ (Tg.loc 9)) (lF (aD 6)) BK) (aI (bJ (bB bO (fC 375 372 (aD 0) aH) (bV vT (dN (aC (bM (aC (aB (PV.str (aA "buffer"))) (aC (aB (PV.str (aA ""))) aH))) aH)) (p1 fX (aD 6))))) aK))))))
def Gh:Fn:=⟨[(aA "heap",aU),(aA "ground",aU),(aA "hands",aU),(aA "book",aU),(aA "numbers_at",aU),(aA "path",aU),(aA "buffers",aU),(aA "holder",aU),(aA "array",aU),(aA "own",aU),(aA "full",aY),(aA "_law_at",aY),(aA "len",aY),(aA "set",aY),(aA "list",aY)],[.loc 0,.loc 1,.loc 2,.loc 3,.loc 4],RA⟩
def HA:DS:=(aI (bR (tB (bF (aZ (aB (PV.aE (aR 540))) (aC (cL 2) (aC (aD 3) (aC (aD 8) (aC (aD 11) (aC (aD 9) (aC (aD 10) aH))))))))) (aI (bJ (aB (PV.bool false))) aK) aK) aK)
def UT(rest:DS):DS:=aI (jQ [Tg.loc 1,Tg.loc 7] (bM (aC (aZ (aB (PV.aE (aR 213))) (aC (aD 3) (aC (aB (PV.str (aA "array#make"))) (aC (aD 5) aH)))) (aC (aZ (aB (PV.aE (aR 213))) (aC (aD 3) (aC (aB (PV.str (aA "array#make"))) (aC (aD 6) aH)))) aH)))) (aI (cW (Tg.loc 8) (aZ (aB (PV.aE (aR 103))) (aC (dN (aC (aB PV.none) aH)) (aC (aB (PV.int 0)) aH)))) (aI (eN (aZ (aB (PV.aE (aR 131))) (aC (aD 8) (aC (bM (aC (aB (PV.str (aA "agg"))) (aC (bM (aC (aB (PV.int 5)) (aC (aD 1) (aC (bM (aC (aB (PV.str (aA "agg"))) (aC (bM (aC (aB (PV.int 6)) (aC (aD 7) aH))) aH))) (aC (bM (aC (aB (PV.str (aA "any"))) (aC (bM (aC (aB (PV.str (aA "k"))) (aC (bM aH) aH))) (aC (bM (aC (aB (PV.str (aA "agg"))) (aC (bM (aC (aB (PV.int 7)) aH)) aH))) aH)))) aH))))) aH))) aH)))) (aI (cW (Tg.loc 9) (mM (aC (aB (PV.str (aA "of"))) (aC (mM (aC (bM (aC (aB (PV.int 1)) aH)) (aC (aB (PV.int 0)) (aC (bM (aC (aB (PV.int 2)) (aC (aB (PV.int 1)) aH))) (aC (aB (PV.int 1)) aH))))) (aC (aB (PV.str (aA "rows"))) (aC (mM (aC (aB (PV.int 0)) (aC (aD 5) (aC (aB (PV.int 1)) (aC (aD 6) aH))))) (aC (aB (PV.str (aA "next"))) (aC (aB (PV.int 1)) aH)))))))) (aI (jQ [Tg.loc 10,Tg.loc 11] (bM (aC (mM (aC (bM (aC (aB (PV.int 0)) aH)) (aC (aB (PV.int 5)) (aC (bM (aC (aB (PV.int 2)) (aC (aB (PV.int 0)) aH))) (aC (aB (PV.int 6)) (aC (bM (aC (aB (PV.int 3)) (aC (xM (aB (PV.int 1))) (aC (aB (PV.int 0)) aH)))) (aC (aB (PV.int 7)) aH))))))) (aC (mM aH) aH)))) rest))))
def RB:DS:=(aI (jQ [Tg.fS 2,Tg.loc 3] (bM (aC (dN (aC (nI (lF (qH (aD 0) (aB PV.none) (aB (PV.int 40)))) (JL (JS {kind:=sE,names:=[(aA ".0",aU),(aA "one",aU),(aA "abs",aY)],isGenerator:=false,isCoroutine:=false})) 1 [] (bV yR (p1 pI (aD 1)) (aB (PV.int 2147483647)))) (aC (aB (PV.int 0)) aH))) (aC (aZ (aB (PV.aE (aR 375))) aH) aH)))) (aI (cW (Tg.loc 5) (nI (rN (aZ (aB (PV.aE (aR 435))) (aC (cL 2) (aC (aB (PV.int 3)) aH)))) (JL (JS {kind:=sE,names:=[(aA ".0",aU),(aA "turn",aU),(aA "_law_draw",aY),(aA "well",gS)],isGenerator:=false,isCoroutine:=false})) 1 [(3,2)] (aZ (aB (PV.aE (aR 435))) (aC (cL 3) (aC (aB (PV.int 9)) aH))))) (aI (cW (Tg.loc 6) (nI (rN (aZ (aB (PV.aE (aR 435))) (aC (cL 2) (aC (aB (PV.int 3)) aH)))) (JL (JS {kind:=sE,names:=[(aA ".0",aU),(aA "turn",aU),(aA "_law_draw",aY),(aA "well",gS)],isGenerator:=false,isCoroutine:=false})) 1 [(3,2)] (aZ (aB (PV.aE (aR 435))) (aC (cL 3) (aC (aB (PV.int 9)) aH))))) (UT (aI (kE (jJ (Tg.loc 4)) (rN (bV gP (aB (PV.int 2)) (bV BA (p2 xG (p1 fX (aD 0)) (aB (PV.int 40))) (aB (PV.int 6))))) HA) (aI (bJ (aZ (aB (PV.aE (aR 547))) (aC (aD 3) (aC (aD 8) (aC (aD 11) (aC (aD 9) (aC (aD 10) aH))))))) aK))))))
def R2:Fn:=⟨[(aA "script",aU),(aA "one",aU),(aA "well",jO),(aA "heap",aU),(aA "turn",aU),(aA "first",aU),(aA "second",aU),(aA "other",aU),(aA "ground",aU),(aA "book",aU),(aA "numbers_at",aU),(aA "hands",aU),(aA "Heap",aY),(aA "range",aY),(aA "_law_draw",aY),(aA "array_function",aY),(aA "place_in",aY),(aA "write_place",aY),(aA "min",aY),(aA "len",aY),(aA "_law_step_right",aY),(aA "_law_end_right",aY)],[.loc 0],RB⟩
def zB:List (Addr×Fn):=[(74,R3),(81,R4),(88,KQ),(95,R5),(103,O9),(110,P3),(117,P4),(124,P5),(131,Fk),(138,SN),(145,P6),(152,P7),(159,P8),(166,Fl),(173,P9),(180,Q0),(187,SO),(194,SQ),(201,SR),(206,sM),(213,BL),(227,Fm),(248,Fo),(255,Fp),(262,Fq),(269,Fs),(276,Ft),(283,Fu),(290,SS),(297,Q3),(304,Fv),(311,ST),(318,Fw),(360,Fx),(365,SU),(372,Fy),(386,Ga),(393,Gb),(400,Q4),(407,Q5),(414,Q6),(421,Q7),(428,Q8),(435,SV),(442,Q9),(449,SW),(456,Gc),(463,R0),(470,R1),(477,Gd),(491,SX),(498,Ge),(505,SY),(512,wH),(519,SZ),(526,TA),(533,Gf),(540,Gg),(547,Gh),(552,R2)]
def zU:List (Addr×Fn):=[(484,lS)]
noncomputable def gT:List (Str×PV):=[(aA "SwiftFault",.aE (.ref 38)),(aA "FormFault",.aE (.ref 51)),(aA "Trap",.aE (.ref 63)),(aA "NONE",.tup [.str (aA "enum"),.int 0,.none]),(aA "COUNTED",.tup [.str (aA "ref"),.str (aA "buf"),.str (aA "box")]),
 (aA "some",.aE (.ref 74)),(aA "parts_of",.aE (.ref 81)),(aA "counted_in",.aE (.ref 88)),(aA "with_part",.aE (.ref 95)),(aA "LEAST",.int (-9223372036854775808)),(aA "GREATEST",.int 9223372036854775807),(aA "WITHIN",.int (-1)),(aA "GLOBAL",.tup [.str (aA "global")]),(aA "MOST_SIZE",.int 1000000),
 (aA "place_in",.aE (.ref 103)),(aA "part_place",.aE (.ref 110)),(aA "read_place",.aE (.ref 117)),(aA "laid",.aE (.ref 124)),(aA "write_place",.aE (.ref 131)),(aA "full",.aE (.ref 138)),(aA "in_range",.aE (.ref 145)),(aA "parted",.aE (.ref 152)),(aA "reckoned",.aE (.ref 159)),(aA "joined",.aE (.ref 166)),
 (aA "stands_so",.aE (.ref 173)),(aA "builtin_value",.aE (.ref 180)),(aA "own_elements",.aE (.ref 187)),(aA "element_at",.aE (.ref 194)),(aA "element_place",.aE (.ref 201)),(aA "array_value",.aE (.ref 206)),(aA "array_function",.aE (.ref 213)),(aA "Thing",.aE (.ref 230)),(aA "Heap",.aE (.ref 375)),
 (aA "_law_number_paths",.aE (.ref 386)),(aA "_law_array_paths",.aE (.ref 393)),(aA "_law_edges",.aE (.ref 400)),(aA "_law_words",.aE (.ref 407)),(aA "_law_sums",.aE (.ref 414)),(aA "_law_orders",.aE (.ref 421)),(aA "_law_others",.aE (.ref 428)),(aA "_law_draw",.aE (.ref 435)),(aA "_law_at",.aE (.ref 442)),(aA "_law_tried",.aE (.ref 449)),(aA "_law_is_refused",.aE (.ref 456)),
 (aA "_law_summed",.aE (.ref 463)),(aA "_law_ordered",.aE (.ref 470)),(aA "_law_other_right",.aE (.ref 477)),(aA "_law_builtin_right",.aE (.ref 484)),(aA "_law_own",.aE (.ref 491)),(aA "_law_new",.aE (.ref 498)),(aA "_law_let_go",.aE (.ref 505)),(aA "_law_asked_right",.aE (.ref 512)),(aA "_law_laid_right",.aE (.ref 519)),(aA "_law_changed_hands",.aE (.ref 526)),(aA "_law_refilled",.aE (.ref 533)),
 (aA "_law_step_right",.aE (.ref 540)),(aA "_law_end_right",.aE (.ref 547)),(aA "law",.aE (.ref 552))]
noncomputable def aT:List Str:=["word","kind","name","fields","strong","weak","unowned","state","things","last","dying"].map aA
noncomputable def mT:List (Str×Addr):=[(aA "made",255),(aA "thing",262),(aA "retain",269),(aA "release",276),(aA "drop",283),(aA "dropped",290),(aA "lost",297),(aA "buried",304),(aA "copied",311),(aA "destroyed",318),(aA "elements",360),(aA "own_buffer",365),(aA "live",372)]
noncomputable def NH:Sc:={names:=[],glob:=fun x=>gT.lookup x,attr:=fun x=>aT.findIdx? fun a=>a=x,xF:=fun x=>(mT.lookup x).map fun f=>(375,f),lam:=false,exc:=fun a=>a==51||a==63}
def P0:Mod:=⟨fun a=>zB.lookup a,fun a=>zU.lookup a,fun a=>if a=230 then some (some 227)else if a=375 then some (some 248)else none,NH,fun S e=>((cN 60).1 S e).map CE.d⟩
end
end
noncomputable section
open PySem PySem.W PySem.Calls PyProof.Rows
section
set_option genInjectivity true
noncomputable def US(tabs:List (Addr×Addr×Str))(cd:aF)(qual:Str):Bool:=match cd with
 | .ref c=>tabs.any fun t=>t.1==c&&decide (qual++ ".<locals>."++aA "<lambda>"=t.2.2)
 |_=>false
theorem ip{tabs:List (Addr×Addr×Str)}{cd:aF}{qual:Str}(h:US tabs cd qual=true): ∃t∈tabs,cd= .ref t.1∧qual++ ".<locals>."++aA "<lambda>"=t.2.2:=by
 induction cd using PySem.Value.casesOn with
 |ref c=>
  exact(Ub.mp h).imp fun t q=>⟨q.1,have q2:=eY.mp q.2;⟨by rw[eq_of_beq q2.1],cK q2.2⟩⟩
 |_=>exact nomatch h
noncomputable def UG:aF→Bool
 | .none=>true|_=>false
theorem Jt{v:aF}(h:UG v=true):v= .none:=by
 induction v using PySem.Value.casesOn with
 |none=>rfl|_=>exact nomatch h
noncomputable def Pz:FuncBody→Option (List Stmt)
 | .stmts b=>some b|_=>none
theorem u7{f:FuncBody}{b:List Stmt}(h:Pz f=some b):f= .stmts b:=by
 cases f with
 |stmts c=>exact bN _ (gQ h)|_=>exact nomatch h
noncomputable def fdOf(K:Frag)(a:Addr):Option FuncData:=(K.lookup a).bind fun o=>match o.data with
 | .func fd=>some fd|_=>none
theorem R8{K:Frag}{a:Addr}{fd:FuncData}(h:fdOf K a=some fd): ∃oc od oS,K.lookup a=some ⟨oc,od,.func fd,oS⟩:=cY h fun o e h2=>by
 obtain⟨oc,od,dt,sl⟩:=o
 induction dt using PySem.Data.casesOn with
 |func f=>injection h2 with h2;subst h2;exact⟨_,_,_,e⟩
 |_=>exact nomatch h2
def KT(K:Frag)(fd:FuncData):Bool:=(fd.globals==mainGlobals&&fd.builtins==builtinsNs&&fd.closure.isEmpty&&UG fd.defaults)&&(codeIn K fd.code fd.qualname&&HX fd.params&&decide (oU fd.params).Nodup)&&
 (decide (fd.scope.kind= .function)&&!fd.scope.isCoroutine&&!fd.scope.isGenerator&&iQ fd.scope.names)
def TB(tabs:List (Addr×Addr×Str))(S:Sc)(K:Frag)(a:Addr):Option Fn:=(fdOf K a).bind fun fd=>(Pz fd.body).bind fun b=>match KT K fd with
 |true=>(BE {S with names:=fd.scope.names,lam:=US tabs fd.code fd.qualname} (oU fd.params)).bind fun vF=>(Zw 60 {S with names:=fd.scope.names,lam:=US tabs fd.code fd.qualname} b).bind fun d=>some ⟨fd.scope.names,vF,d.1⟩
 |false=>none
theorem R9{fd:FuncData}{b:List Stmt}(hb:fd.body= .stmts b)(h1:fd.globals=mainGlobals)(h2:fd.builtins=builtinsNs)(h3:fd.closure=[])(h4:fd.defaults= .none):
  fd=fnOf fd.name fd.qualname fd.params b fd.scope .none fd.kwdefaults fd.doc fd.pyModule fd.annotations fd.code fd.closureTuple:=by
 cases fd;dsimp only at hb h1 h2 h3 h4;subst hb h1 h2 h3 h4;rfl
theorem band{a b:Bool}(h:(a&&b)=true):a=true∧b=true:=eY.mp h
structure ZO(K:Frag)(fd:FuncData):Prop where
 c1:fd.globals=mainGlobals
 c2:fd.builtins=builtinsNs
 c3:fd.closure=[]
 c4:fd.defaults= .none
 c5:codeIn K fd.code fd.qualname=true
 c6:HX fd.params=true
 c7:(oU fd.params).Nodup
 c8:fd.scope.kind= .function
 c9:fd.scope.isCoroutine=false
 Cv:fd.scope.isGenerator=false
 Zu:iQ fd.scope.names=true
theorem Gr{K:Frag}{fd:FuncData}(h:KT K fd=true):ZO K fd:=by
 have x:=band h;have y:=band x.1;have p:=band y.1;have p2:=band p.1;have p3:=band p2.1;have q:=band y.2;have q2:=band q.1;have r:=band x.2;have r2:=band r.1;have r3:=band r2.1;exact⟨eq_of_beq p3.1,eq_of_beq p3.2,JK.mp p2.2,Jt p.2,q2.1,q2.2,cK q.2,cK r3.1,oL r3.2,oL r2.2,r.2⟩
theorem Gi{K:Frag}{a:Addr}{fd:FuncData}{b:List Stmt}(h:fdOf K a=some fd)(hb:fd.body= .stmts b)(c:ZO K fd): ∃oc od oS,K.lookup a=some ⟨oc,od,.func (fnOf fd.name fd.qualname fd.params b fd.scope .none fd.kwdefaults fd.doc fd.pyModule fd.annotations fd.code fd.closureTuple),oS⟩:=by
 rw[←R9 hb c.c1 c.c2 c.c3 c.c4];exact R8 h
theorem S9{g:Gl}(EO:rW g){a:Addr}{F:Fn}(h:TB g.tabs g.M.sc g.K a=some F):FnAt g a F:=
 cY h fun fd h1 h=>cY h fun b h2 h=>by
  cases hc:KT g.K fd with
  |false=>rw[hc]at h;exact nomatch h|true=>
   rw[hc]at h;have c:=Gr hc;obtain⟨oc,od,oS,uL⟩:=Gi h1 (u7 h2) c;refine cY h fun vF h3 h=>cY h fun d h4 h=>?_;injection h with h;subst h;exact .mk _ _ _ _ _ _ _ _ _ _ _ _ _ _ _ uL c.c5 c.c6 c.c7 c.c8 c.c9 c.Cv c.Zu rfl h3 (d.2 g EO) ip
end
noncomputable def Jh(i:Int):aF→Bool
 | .int j _=>decide (i=j)|_=>false
noncomputable def Qa(s:Str):aF→Bool
 | .str t _=>decide (s=t)|_=>false
noncomputable def Ou(a:Addr):aF→Bool
 | .ref b=>decide (a=b)|_=>false
def QB:PV→aF→Bool
 | .none,v=>UG v| .int i,v=>Jh i v| .str s,v=>Qa s v|_,_=>false
theorem dg{i:Int}{v:aF}(h:Jh i v=true): ∃t,v= .int i t:=by
 induction v using PySem.Value.casesOn with
 |int j t=>exact⟨t,by rw[cK h]⟩|_=>exact nomatch h
theorem w5{i:Str}{v:aF}(h:Qa i v=true): ∃t,v= .str i t:=by
 induction v using PySem.Value.casesOn with
 |str j t=>exact⟨t,by rw[cK h]⟩|_=>exact nomatch h
theorem vh{i:Addr}{v:aF}(h:Ou i v=true):v= .ref i:=by
 induction v using PySem.Value.casesOn with
 |ref j=>exact bN _ (cK h).symm|_=>exact nomatch h
theorem Ch{g:Gl}{p:PV}{v:aF}(h:QB p v=true)(hp:Heap)(ι:List Addr):dH g hp ι p v:=by
 induction p using PV.casesOn with
 |none=>exact Jt h|int i=>exact dg h|str i=>exact w5 h|_=>exact nomatch h
noncomputable def QC:List PV→List aF→Bool
 | [],[]=>true|p::ps,v::vs=>QB p v&&QC ps vs|_,_=>false
theorem Ci{g:Gl}: ∀{ps:List PV} {vs:List aF},QC ps vs=true→∀(hp:Heap) (ι:List Addr),bE g hp ι ps vs
 | [],[],_,_,_=>rfl|p::ps,v::vs,h,hp,ι=>by
  have h:=eY.mp h;exact⟨_,_,rfl,Ch h.1 hp ι,Ci h.2 hp ι⟩
 | [],_::_,h,_,_=>nomatch h|_::_,[],h,_,_=>nomatch h
def Pi(o:Obj):Option (List aF):=match o.data with
 | .seq vs _=>og (decide (o.cls= .type "tuple"∧o.dict=none∧o.slots= #[])) vs.toList|_=>none
noncomputable def Ov:aF→Option Addr
 | .ref a=>some a|_=>none
def YA(K:Frag)(v:aF):Option (List aF):=(Ov v).bind fun a=>(K.lookup a).bind Pi
theorem vi{v:aF}{a:Addr}(h:Ov v=some a):v= .ref a:=by
 induction v using PySem.Value.casesOn with
 |ref j=>exact bN _ (gQ h)|_=>exact nomatch h
theorem xo{o:Obj}{vs:List aF}(h:Pi o=some vs): ∃n,o=fV vs n:=by
 obtain⟨oc,od,dt,sl⟩:=o
 induction dt using PySem.Data.casesOn with
 |seq ws n=>
  refine nH (M:=fun vs=> ∃n',(⟨oc,od,.seq ws n,sl⟩:Obj)=fV vs n') h fun hc=>?_
  ·have hc:=cK hc
   exact⟨n,by rw[show oc=_ from hc.1,show od=_ from hc.2.1,show sl=_ from hc.2.2]⟩
 |_=>exact nomatch h
theorem aAH{K:Frag}{v:aF}{vs:List aF}(h:YA K v=some vs): ∃a n,v= .ref a∧K.lookup a=some (fV vs n):=cY h fun a e h=>cY h fun o e2 h=>(xo h).elim fun n q=>⟨a,n,vi e,q▸e2⟩
def YI(K:Frag)(p:PV)(v:aF):Bool:=match GT p with
 |some a=>Ou a v&&keepIn K (.ref a)|none=>match vY p with
  |some l=>(YA K v).any fun vs=>QC l vs
  |none=>QB p v
theorem Ql{g:Gl}(hX:g.K.In g.base){p:PV}{v:aF}(h:YI g.K p v=true):(∀hp:Heap,g.base.StaysIn hp→dH g hp [] p v)∧∀a,p= .aE (.ref a)→keepIn g.K (.ref a)=true:=by
 unfold YI at h;cases e:GT p with
 |some a=>
  rw[e]at h;have h:=eY.mp h;rw[Ix e,vh h.1];exact⟨fun hp _=>rfl,fun b e=>by injection e with e;injection e with e;exact e▸h.2⟩
 |none=>
  rw[e]at h;have hn: ∀a,p= .aE (.ref a)→keepIn g.K (.ref a)=true:=fun a q=>by rw[q]at e;exact nomatch e
  cases e2:vY p with
  |some l=>
   rw[e2]at h;refine⟨fun hp S=>?_,hn⟩;rw[EV e2];cases e:YA g.K v with
   |none=>dsimp only at h;rw[e]at h;exact nomatch h|some vs=>
    dsimp only at h;rw[e]at h;obtain⟨a,n,rfl,hk⟩:=aAH e;exact⟨a,vs,n,rfl,S _ _ (hX _ _ hk),Ci h _ _⟩
  |none=>rw[e2]at h;exact⟨fun hp _=>Ch h hp [],hn⟩
noncomputable def Mw(K:Frag)(x:Str):Option aF:=(nsIn K mainGlobals x).bind id
theorem oy{K:Frag}{x:Str}{v:aF}(h:Mw K x=some v):nsIn K mainGlobals x=some (some v):=cY h fun a e h=>e.trans (bN some h)
noncomputable def CG(o:Option (Option aF)):Bool:=o.any fun o=>o.isNone
theorem GW{o:Option (Option aF)}(h:CG o=true):o=some none:=by
 cases o with
 |none=>exact nomatch h|some o=>cases o with
  |none=>rfl|some a=>exact nomatch h
noncomputable def Zm:List Str:=["len","abs","int","isinstance","list","sorted","set","min","range","str","tuple"].map aA
def Ph(K:Frag):Bool:=(gT.all fun p=>(Mw K p.1).any fun v=>YI K p.2 v)&&(Zm.all fun x=>CG (nsIn K mainGlobals x))&&
 mT.all fun p=>decide (findIn K (.ref 375) p.1=some (some (.ref p.2)))&&plainGet K 375 p.1&&!aT.contains p.1&&isFn K (.ref p.2)&&keepIn K (.ref p.2)
theorem lookup_mem{α β:Type} [BEq α] [LawfulBEq α]: ∀{l:List (α×β)} {a:α} {b:β},l.lookup a=some b→(a,b)∈l
 | [],_,_,e=>nomatch e|(c,x)::r,a,o,e=>by
  rw[gG]at e;cases hb:a==c with
  |true=>rw[hb]at e;injection e with e;rw[eq_of_beq hb,e];exact .head _
  |false=>rw[hb]at e;exact .tail _ (lookup_mem e)
theorem S4: ∀{l:List Str} {x:Str} {k:Nat},(l.findIdx? fun a=>a=x)=some k→l[k]?=some x:=fun {l x k} h=>by
 obtain⟨hk,h1,_⟩:=List.findIdx?_eq_some_iff_getElem.mp h;rw[fZ hk];exact bN some (cK h1)
theorem ES{α:Type}{o:Option α}{f:α→Bool}{P:Prop}(h:o.any f=true)(k: ∀a,o=some a→f a=true→P):P:=by
 cases o with
 |none=>exact nomatch h|some a=>exact k a rfl h
theorem xn{g:Gl}(hX:g.K.In g.base)(ha:g.attrs=aT)(he:g.FW=[51,63])(h:Ph g.K=true):sD g NH:=by
 have h:=band h;have h1:=band h.1;refine⟨fun x p e=>ES (jT.mp h1.1 _ (lookup_mem (show gT.lookup x=some p from e))) fun v e2 q=>⟨v,oy e2,(Ql hX q).1,(Ql hX q).2⟩,fun x _ hx=>GW (jT.mp h1.2 x hx),fun x k e=>by rw[ha];exact S4 e,by rw[ha];decide+kernel,fun x c f e=>?_,fun c e=>?_⟩
 ·refine kA (M:=fun q=>q=(c,f)→_) (show(mT.lookup x).map (fun f=>((375:Addr),f))=some (c,f)from e) (fun f' e1 e2=>?_) rfl
  injection e2 with e2 e3;subst e2 e3;have q:=band (jT.mp h.2 _ (lookup_mem e1));have q4:=band q.1;have q3:=band q4.1;have q2:=band q3.1;refine⟨cK q2.1,q2.2,fun k e=>?_,q4.2,q.2⟩;rw[ha]at e;have:=JF.mpr (fD e);rw[oL q3.2]at this;exact nomatch this
 ·rw[he]
  exact(OA.mp (show(c==51||c==63)=true from e)).elim (fun q=>eq_of_beq q▸ .head _) fun q=>eq_of_beq q▸ .tail _ (.head _)
def Dk(K:Frag)(c:Addr):Bool:=hasDictIn K c&&plainOver K c&&decide (findIn K (.ref c) "__setattr__"=some (some (.builtin "object.__setattr__")))&&aT.all fun x=>plainGet K c x&&CG (findIn K (.ref c) x)
theorem E4{g:Gl}(ha:g.attrs=aT){c:Addr}(h:Dk g.K c=true):DR g c:=by
 have h:=band h;have h3:=band h.1;have h2:=band h3.1;exact⟨⟨h2.1,h2.2,cK h3.2⟩,fun k x e=>have q:=band (jT.mp h.2 x (fD (ha▸e)));⟨q.1,GW q.2⟩⟩
def RP(K:Frag)(c i:Addr):Bool:=makesIn K c&&decide (findIn K (.ref c) "__init__"=some (some (.ref i)))&&decide (typeIn K (.ref i)=some (.type "function"))&&Dk K c
theorem Dj{g:Gl}(ha:g.attrs=aT){c i:Addr}(h:RP g.K c i=true):ClsAt g c i:=by
 have h:=band h;have h3:=band h.1;have h2:=band h3.1;exact⟨h2.1,cK h2.2,cK h3.2,E4 ha h.2⟩
def SK(K:Frag)(c:Addr):Bool:=((clsIn K c).any fun cd=>!cd.hasDel&&cd.hasDict&&decide (cd.mro=[.ref c,.ref 38,.type "Exception",.type "BaseException",.type "object"]))&&
 (decide (findIn K (.ref c) "__setattr__"=some (some (.builtin "object.__setattr__")))&&decide (mroIn K c (.ref c)=some true)&&decide (mroIn K c (.type "Exception")=some true)&&decide (mroIn K c (.type "BaseException")=some true)&&
  decide (mroIn K c (.type "AttributeError")=some false)&&decide (mroIn K c (.type "NameError")=some false))&&
 (decide (specialIn K (.ref c) "__call__"=some (some (.builtin "type.__call__")))&&decide (instIn K (.ref c) (.type "type")=some true)&&decide (typeIn K (.ref c)=some (.type "type"))&&decide (findIn K (.ref c) "__init__"=some (some (.ref 35)))&&decide (typeIn K (.ref 35)=some (.type "function")))&&
 (hasDictIn K c&&decide (findIn K (.ref c) "__getattribute__"=some (some (.builtin "BaseException.__getattribute__")))&&CG (findIn K (.ref c) "__getattr__")&&aT.all fun x=>CG (findIn K (.ref c) x))
noncomputable def SL(K:Frag)(c:Addr)(S:Setting)(v:aF):=(peek K S (checkBuiltinCall "Exception.__new__" ⟨[.ref c,v],[]⟩),peek K S (isType (.ref c)),peek K S (Sf (.ref c)),peek K S (Sg (.ref c)))
noncomputable def SM(c:Addr):Option Unit×Option Bool×Option (Option String)×Option aF:=(some (),some true,some (some "Exception.__new__"),some (.ref c))
theorem E3{K:Frag}{c:Addr}{cd:ClassData}(h:clsIn K c=some cd): ∃oc od sl,K.lookup c=some ⟨oc,od,.cls cd,sl⟩:=by
 unfold clsIn at h;split at h
 ·cases h
  exact⟨_,_,_,by assumption⟩
 ·cases h
theorem Fh{g:Gl}(ha:g.attrs=aT){c:Addr}(h:SK g.K c=true)(hf: ∀S v,SL g.K c S v=SM c):tJ g c∧rV g.K c 35:=by
 have h:=band h;have hh:=band h.1;have h0:=band hh.1;have s6:=band h0.2;have s5:=band s6.1;have s4:=band s5.1;have s3:=band s4.1;have s2:=band s3.1;have t5:=band hh.2;have t4:=band t5.1;have t3:=band t4.1;have t2:=band t3.1;have u4:=band h.2;have u3:=band u4.1;have u2:=band u3.1;have d:=fun {p:Prop} [Decidable p] (q:decide p=true)=>cK q;refine ES h0.1 fun cd h1 q=>?_;have q2:=band q;have q1:=band q2.1;obtain⟨oc,od,sl,e⟩:=E3 h1;exact⟨⟨⟨u2.1,d u2.2,GW u3.2,d s4.2⟩,fun k x q=>GW (jT.mp u4.2 x (fD (ha▸q)))⟩,⟨_,_,_,_,_,e,oL q1.1,q1.2,d q2.2⟩,d s2.1,fun S v=>bN (·.1) (hf S v),fun S=>bN (·.2.1) (hf S .none),fun S=>bN (·.2.2.1) (hf S .none),fun S=>bN (·.2.2.2) (hf S .none),d s2.2,d s3.2,d s4.2,d s5.2,d s6.2,d t2.1,d t2.2,d t3.2,d t4.2,d t5.2⟩
def Iw:List Stmt:=[.Expr (.Call (.Attribute (.Name vE ⟨8,8,8,17⟩) (aA "__init__") ⟨8,8,8,26⟩) [.Name nJ ⟨8,27,8,31⟩,.Name lD ⟨8,33,8,37⟩] [] ⟨8,8,8,38⟩) ⟨8,8,8,38⟩,.Assign [.Attribute (.Name nJ ⟨9,8,9,12⟩) lD ⟨9,8,9,17⟩] (.Name lD ⟨9,20,9,24⟩) ⟨9,8,9,24⟩]
def Jc(K:Frag):Bool:=((fdOf K 35).any fun fd=>KT K fd&&decide (oU fd.params=[nJ,lD])&&decide (fd.scope.names=GS))&&
 (CG (nsIn K mainGlobals vE)&&decide (findIn K (.type "type") "__getattribute__"=some (some (.builtin "type.__getattribute__")))&&decide (subIn K (.type "type") (.type "type")=some true))
noncomputable def Jd(K:Frag)(S:Setting):=(peek K S (specialOf (.type "Exception") "__getattribute__"),peek K S (opaqueClassAbove (.type "Exception")),peek K S (typeOf (.type "Exception")),peek K S (hookBefore (.type "type")),findCls K (.type "Exception") (.type "type") (aA "__init__"))
noncomputable def Je:Option (Option aF)×Option (Option Str)×Option aF×Option (Option aF)×Option CFound:=(some (some (.builtin "type.__getattribute__")),some none,some (.type "type"),some none,some (.val (.builtin "Exception.__init__")))
theorem cr{g:Gl}(ha:g.attrs=aT)(h:Jc g.K=true)(hb:(fdOf g.K 35).map (·.body)=some (.stmts Iw))(hf: ∀S,Jd g.K S=Je):DV g 35 0:=by
 have h:=band h;have h7:=band h.2;have h8:=band h7.1;refine ES h.1 fun fd h1 q=>?_;have q2:=band q;have q1:=band q2.1;have c:=Gr q1.1;rw[h1]at hb;injection hb with hb;obtain⟨oc,od,oS,uL⟩:=Gi h1 hb c;exact⟨.mk _ _ _ _ _ _ _ _ _ _ _ _ _ _ _ _ _ _ _ _ _ _ _ uL c.c5 c.c6 (cK q1.2) c.c8 c.c9 c.Cv (cK q2.2) (by decide),GW h8.1,by rw[ha];rfl,fun S=>bN (·.1) (hf S),fun S=>bN (·.2.1) (hf S),fun S=>bN (·.2.2.1) (hf S),cK h8.2,fun S=>bN (·.2.2.2.1) (hf S),cK h7.2,bN (·.2.2.2.2) (hf ⟨g.prog,g.w.params⟩)⟩
noncomputable def oE:List (Addr×Addr×Str):=[(532,528,aA "_law_refilled.<locals>.<lambda>"),(518,514,aA "_law_laid_right.<locals>.<lambda>"),(511,507,aA "_law_asked_right.<locals>.<lambda>"),(483,479,aA "_law_builtin_right.<locals>.<lambda>"),(539,535,aA "_law_step_right.<locals>.<lambda>")]
def allB(K:Frag):Bool:=Ph K&&RP K 230 227&&RP K 375 248&&SK K 51&&SK K 63&&Jc K
def EQ(K:Frag)(S:Setting)(v:aF):=(SL K 51 S v,SL K 63 S v,Jd K S)
def FY(K:Frag):List (Option Fn)×Option FuncBody:=((zB++zU).map fun p=>TB oE NH K p.1,(fdOf K 35).map (·.body))
def FX:List (Option Fn)×Option FuncBody:=((zB++zU).map fun p=>some p.2,some (.stmts Iw))
def ER:=(SM 51,SM 63,Je)
theorem R7{g:Gl}(hX:g.K.In g.base)(ha:g.attrs=aT)(he:g.FW=[51,63])(ht:g.tabs=oE)(hM:g.M=P0)(h1:allB g.K=true)(h2:FY g.K=FX)(h3: ∀S v,EQ g.K S v=ER):rW g∧yM g:=by
 unfold allB at h1;obtain⟨h1,b6⟩:=band h1;obtain⟨h1,b5⟩:=band h1;obtain⟨h1,b4⟩:=band h1;obtain⟨h1,b3⟩:=band h1;obtain⟨b1,b2⟩:=band h1;have i:=cr ha b6 (bN Vz h2) (fun S=>bN (·.2.2) (h3 S .none));have Ro:=Fh ha b4 (fun S v=>bN (·.1) (h3 S v));have Rp:=Fh ha b5 (fun S v=>bN (·.2.1) (h3 S v));have EO:rW g:=⟨fun c hc=>by
  rw[he]at hc;cases hc with
  |head=>exact⟨Ro.1,35,0,Ro.2,i⟩|tail _ hc=>cases hc with
   |head=>exact⟨Rp.1,35,0,Rp.2,i⟩|tail _ hc=>cases hc⟩
 have fn: ∀a F,(a,F)∈zB++zU→FnAt g a F:=fun a F m=>S9 EO (by rw[ht,hM];exact An.mp (show(zB++zU).map (fun p=>TB oE NH g.K p.1)=(zB++zU).map fun p=>some p.2 from bN Vy h2) (a,F) m);refine⟨EO,fun a F e=>fn a F (JN _ (lookup_mem (show zB.lookup a=some F by rw[hM]at e;exact e))),fun a F e=>fn a F (tS _ (lookup_mem (show zU.lookup a=some F by rw[hM]at e;exact e))),fun a i e=>?_,by rw[hM];exact xn hX ha he b1,by rw[hM];rfl,fun S e d h=>by rw[hM]at h;obtain⟨c,_,rfl⟩:=lO.mp h;exact c.s g⟩
 ·rw[hM]at e
  have e':(if a=230 then some (some 227)else if a=375 then some (some 248)else none:Option (Option Addr))=some (some i):=e;by_cases q:a=230
  ·rw[aV q]at e';injection e' with e';injection e' with e';subst q e';exact Dj ha b2
  ·rw[aN q]at e'
   by_cases q:a=375
   ·rw[aV q]at e';injection e' with e';injection e' with e';subst q e';exact Dj ha b3
   ·rw[aN q]at e';injection e'
noncomputable def Jv:aF→Bool| .str _ _=>true|_=>false
noncomputable def UF:aF→Bool| .int _ _=>true|_=>false
noncomputable def Jm:aF→Bool| .bool _=>true|_=>false
theorem fe{v:aF}(h:Jv v=true): ∃s t,v= .str s t:=by
 induction v using PySem.Value.casesOn with
 |str s t=>exact⟨s,t,rfl⟩|_=>exact nomatch h
theorem Jq{v:aF}(h:UF v=true): ∃s t,v= .int s t:=by
 induction v using PySem.Value.casesOn with
 |int s t=>exact⟨s,t,rfl⟩|_=>exact nomatch h
theorem dw{v:aF}(h:Jm v=true): ∃s,v= .bool s:=by
 induction v using PySem.Value.casesOn with
 |bool s=>exact⟨s,rfl⟩|_=>exact nomatch h
noncomputable def E8(P:Addr)(vs:Array aF):Bool:=decide (vs[11]?=some (.ref P))&&decide (vs.getD 11 .none= .ref P)&&Jv (vs.getD 18 .none)&&UF (vs.getD 7 .none)&&Jm (vs.getD 9 .none)&&UF (vs.getD 10 .none)
noncomputable def Gk:Data→Option (Array aF)| .fields vs=>some vs|_=>none
theorem S3{d:Data}{vs:Array aF}(h:Gk d=some vs):d= .fields vs:=by
 induction d using PySem.Data.casesOn with
 |fields ws=>exact bN _ (gQ h)|_=>exact nomatch h
noncomputable def RQ(h:Heap)(c P:Addr):Bool:=((h.get? c).any fun o=>decide (o.cls= .type "code")&&(Gk o.data).any (E8 P))&&!(c==P)
theorem E7{h:Heap}{c P:Addr}(e:RQ h c P=true):CodeHd h c P:=by
 have e:=band e;refine ES e.1 fun o e1 q=>?_;have q:=band q;refine ES q.2 fun vs ev f6=>?_;have f6:=band f6;have f5:=band f6.1;have f4:=band f5.1;have f3:=band f4.1;have f2:=band f3.1;obtain⟨file,tf,g3⟩:=fe f3.2;obtain⟨fl,tg,g4⟩:=Jq f4.2;obtain⟨ch,g5⟩:=dw f5.2;obtain⟨tx,tt,g6⟩:=Jq f6.2;exact⟨o,vs,file,tf,fl,tg,ch,tx,tt,e1,cK q.1,S3 ev,cK f2.1,cK f2.2,g3,g4,g5,g6,dC.mp (oL e.2)⟩
noncomputable def gc(a:Addr):Data→Bool
 | .func _=>true| .cls _=>true| .dict _ _=>true| .fields _=>true| .seq _ _=>a==66||a==67||a==96|_=>false
noncomputable def LW(a:Addr)(o:Obj):Bool:=noTabs [(a,o)]&&gc a o.data
noncomputable def BP:List Obj→Addr→Frag
 | [],_=>[]|o::r,a=>match LW a o with
  |true=>(a,o)::BP r (a+1)|false=>BP r (a+1)
theorem TE: ∀{l:List Obj} {a:Addr} {p:Addr×Obj},p∈BP l a→LW p.1 p.2=true∧∃i,p.1=a+i∧l[i]?=some p.2
 | [],_,_,e=>by cases e
 |o::r,a,p,e=>by
  unfold BP at e;have tl:p∈BP r (a+1)→LW p.1 p.2=true∧∃i,p.1=a+i∧(o::r)[i]?=some p.2:=fun e=>by
   obtain⟨h1,i,h2,h3⟩:=TE e;exact⟨h1,i+1,h2.trans ((Nat.add_right_comm a 1 i).trans (Au a i 1)),h3⟩
  cases q:LW a o with
  |false=>rw[q]at e;exact tl e|true=>
   rw[q]at e;rcases dJ.mp e with rfl|e
   ·exact⟨q,0,rfl,rfl⟩
   ·exact tl e
noncomputable def fragOf(h:Heap):Frag:=BP h.objs.toList 0
theorem T8(h:Heap):noTabs (fragOf h)=true:=jT.mpr fun p hp=>jT.mp (band (TE hp).1).1 p (.head _)
theorem T7(h:Heap):(fragOf h).In h:=fun a o e=>by
 obtain⟨q,i,h2,h3⟩:=TE (lookup_mem e);have e2:h.objs[a]?=some o:=by
  rw[Vn]at h2;rw[show a=i from h2,←Ry];exact h3
 unfold OM;rw[e2];have q:=(band q).2;obtain⟨c,d,dt,sl⟩:=o;clear e2 h3 e
 induction dt using PySem.Data.casesOn<;>first|rfl|exact nomatch q
def Y0(s:aL):=(allB (fragOf s.heap),FY (fragOf s.heap),(fun(S:Setting) (v:aF)=>EQ (fragOf s.heap) S v),(oE.all fun t=>RQ s.heap t.1 t.2.1),oE.map fun t=>s.heap.get? t.2.1)
def YG:=(true,FX,(fun(_:Setting) (_:aF)=>ER),true,oE.map fun _=>some (tabObj #[]))
theorem wd: ∀(w:World) (os:OsState),(NP (stepT (denote treeTable) pw w) (stepOk 11 (some (.ref 6))) (600+3000) (S0 w.params os) (topStub pw)).map (fun r=>(through r.2,behind pw qv CR (fun _=>true) Y0 (boot_heap w.params) r.1.abs))=some (true,true,openGood qv CR,YG):=by
 intro w os;unfold behind;rw[aDI,aDJ,aDK,aDM,aDL]
 kernel_rfl
theorem trim: ∀(n:Nat) (h:Heap),h.objs.size=n→(∃b o,h.get? b=some o)→∃h':Heap,(∀b,h'.get? b=h.get? b)∧∃o,h'.get? (h'.objs.size-1)=some o
 |0,h,e,⟨b,o,q⟩=>absurd (fI q) (by rw[e];exact Nat.not_lt_zero _)|n+1,h,e,hx=>by
  cases q:h.get? n with
  |some o=>exact⟨h,fun _=>rfl,o,by rw[e];exact q⟩|none=>
   have k: ∀b,(⟨h.objs.pop,h.life⟩:Heap).get? b=h.get? b:=fun b=>by
    by_cases hb:b=n
    ·rw[hb,q]
     cases q2:(⟨h.objs.pop,h.life⟩:Heap).get? n with
     |none=>rfl|some o=>exact absurd (fI q2) (by show¬n<h.objs.pop.size;rw[Rz,e];exact EK _)
    ·unfold OM
     rw[show(⟨h.objs.pop,h.life⟩:Heap).objs=h.objs.pop from rfl,Array.getElem?_pop,e,Nat.add_sub_cancel];by_cases hl:b<n
     ·rw[aV hl]
     ·rw[aN hl,Array.getElem?_eq_none (by rw[e];exact Ax (Vf hl) (gH hb))]
   obtain⟨b,o,hb⟩:=hx;obtain⟨h',k',w⟩:=trim n ⟨h.objs.pop,h.life⟩ (by show h.objs.pop.size=n;rw[Rz,e];rfl) ⟨b,o,by rw[k];exact hb⟩;exact⟨h',fun b=>(k' b).trans (k b),w⟩
def DJ:List (Addr×Addr):=oE.map fun t=>(t.1,t.2.1)
noncomputable def YP(_:World)(h:Heap):Prop:= ∃K:Frag,K.In h∧noTabs K=true∧allB K=true∧FY K=FX∧(∀S v,EQ K S v=ER)∧TabsAt DJ h
theorem Wp: ∀w h h',YP w h→(∀b o,h.get? b=some o→h'.get? b=some o)→YP w h':=fun _ h h' ⟨K,a,b,c,d,e,f⟩ k=>⟨K,fun x o q=>k _ _ (a x o q),b,c,d,e,fun q hq=>⟨(f q hq).1.keeps k,k _ _ (f q hq).2⟩⟩
noncomputable def Bj:Prop:= ∀ns:List Int,ns.length≤63→∃H,aG P0 40 (.aE (.ref 552)) [.fl (ns.map PV.int)] []= .ok (.bool true) H
theorem Jl{g:Gl}{h:Heap}{ι:List Addr}: ∀{vs:List aF} {ns:List Int},IntsAre vs ns→bE g h ι (ns.map PV.int) vs
 | [],[],_=>rfl|v::vs,n::ns,x=>by
  cases x with
  |cons n t y=>exact⟨_,_,rfl,⟨t,rfl⟩,Jl y⟩
 | [],_::_,x=>nomatch x|_::_,[],x=>nomatch x
def GA(w:World)(K:Frag)(loose:List Str)(mean:ExcName→Option aF)(mg mb:Str→Option aF)(base:Heap):Gl:=
 {prog:=pw,w:=w,K:=K,p:=topProg,loose:=loose,mean:=mean,mg:=mg,mb:=mb,base:=base,tabs:=oE,attrs:=aT,FW:=[51,63],M:=P0}
theorem R6{w:World}{K:Frag}{loose:List Str}{mean:ExcName→Option aF}{mg mb:Str→Option aF}{base:Heap}(hX:K.In base)(kB:allB K=true)(kF:FY K=FX)(kX: ∀S v,EQ K S v=ER):rW (GA w K loose mean mg mb base)∧yM (GA w K loose mean mg mb base):=
 R7 (g:=GA w K loose mean mg mb base) hX rfl rfl rfl rfl kB kF kX
theorem I6{g:Gl}{h:Heap}(S:g.base.StaysIn h)(w: ∃o,g.base.get? (g.base.objs.size-1)=some o)(t: ∀t∈g.tabs,∃ps,h.get? t.2.1=some (tabObj ps)∧TriplesOk ps.toList∧(∀pos cv,codeAmong pos ps.toList=some cv→oY g h cv t.2.2)):Cx g h ⟨[],[]⟩ [] []where
 stays:=S
 ns:=fun p hp=>by cases hp
 iU:=fun p hp=>by cases hp
 jA:=mD
 len:=rfl
 kU:=mD
 dis:=fun a ha=>by cases ha
 mP:=w
 bU:=fun p hp=>by cases hp
 obj:=fun i po e=>by simp at e
 tab:=t
theorem Dl{h:Heap}: ∀{l:List (Addr×Addr)},CodeAll l h→∀q∈l,CodeHd h q.1 q.2
 |_::_,k,_,.head _=>k.1|_::_,k,q,.tail _ hq=>Dl k.2 q hq
theorem z4: ∀t∈oE,t.2.1<t.1:=by
 intro t ht;simp only[oE,dJ,yK,or_false]at ht;rcases ht with rfl|rfl|rfl|rfl|rfl<;>decide
theorem z6:(oE.map (·.2.1)).Nodup:=by
 show([528,514,507,479,535]:List Nat).Nodup
 decide
theorem fa{h h':Heap}(k: ∀b o,h.get? b=some o→h'.get? b=some o){a:Addr}{Ke:Array aF}(x:h.IsList a Ke):h'.IsList a Ke:=by
 obtain⟨o,e,r⟩:=x;exact⟨o,k _ _ e,r⟩
theorem Hb{h:Heap}: ∀{l:List (Addr×Addr×Str)},(∀t∈l,∃ps,h.get? t.2.1=some (tabObj ps))→GrownAll (l.map fun t=>(t.1,t.2.1)) h
 | [],_=>trivial|t::_,k=>⟨k t (.head _),Hb fun t ht=>k t (.tail _ ht)⟩
set_option tactic.hygienic true in
theorem C2(PL:Bj):WalkO qv CR (fun _ _=>True) YP lw.row.toRowW qB.1 qB.2 fun f vs=>Xc f vs:=by
 intro w s₀ s₁ mg mb G Y a o pm cd doc dV kV ho hd hcr hdf Ig Y4 args vals as af Z2 aj bf TT;refine bQ fun G_ aQ=>?_;obtain⟨K,Ks,gp,kB,kF,kX,kT⟩:=Y;have T:=G.T;refine aQ ?_
 wrow_args af Z2 aj bf TT
 rename_i ns _ _ _ _ _ _ _ av vs _ hL _ _ _ hI _ hc _;have tb: ∀q∈DJ,CodeHd s₁.heap q.1 q.2∧s₁.heap.get? q.2=some (tabObj #[]):=kT;have Ip: ∀cls,lw.row.toRowW.claim.raises [ofPy (PyData.list (List.map PW ns))] cls=false:=raisesW_false (by wrow_none_raised);refine enter_call ?_;refine kn_post (tabs:=DJ) kT (fun _ x=>Ip x) ?_;refine bQ fun G_ aQ=>?_;obtain⟨base,bk,bw⟩:=trim _ (ghostOf s₁.heap DJ) rfl (by obtain⟨o,_,_,e,_⟩:=ghost_ns kT T.g;exact⟨_,o,e⟩);have toS: ∀b o,base.get? b=some o→s₁.heap.get? b=some o:=fun b o e=>of_hideAll _ ((bk b).symm.trans e);have HP: ∀b o,(ghostOf s₁.heap DJ).get? b=some o→base.get? b=some o:=fun b o e=>(bk b).trans e;have hX:K.In base:=fun x y e=>HP _ _ (ghost_K kT Ks gp x y e);obtain⟨L0,Ty⟩: ∃L0,Top topProg L0 (OI s₀.heap) mg mb base:=⟨_,(ghost_top kT T).keeps HP⟩;obtain⟨EO,MO⟩:=R6 (w:=w) (loose:=L0) (mean:=OI s₀.heap) (mg:=mg) (mb:=mb) hX kB kF kX;have O:(GA w K L0 (OI s₀.heap) mg mb base).Ok:=⟨hX,Ty,fun t ht=>by
  have m:(t.1,t.2.1)∈DJ:=lN (f:=fun t:Addr×Addr×Str=>(t.1,t.2.1)) ht;have c:=(Dl (ghost_code kT) _ m).keeps HP;refine bQ fun G_ aQ=>?_;obtain⟨o,_,_,_,_,_,_,_,_,e,_⟩:=id c;refine aQ ?_;exact⟨Nat.lt_trans (z4 t ht) (fI e),(bk _).trans (hideAll_none _ (lN (f:=Vz) m)),c⟩,z6⟩
 have X:Cx (GA w K L0 (OI s₀.heap) mg mb base) s₁.heap ⟨[],[]⟩ [] []:=I6 toS bw (fun t ht=>⟨#[],(kT _ (lN (f:=fun t:Addr×Addr×Str=>(t.1,t.2.1)) ht)).2,trivial,fun pos cv q=>nomatch q⟩);have CS:=Dc O MO 40;have AO:kH callerA [] (bY.ls ⟨[],[]⟩) 40:=⟨rfl,rfl,by decide+kernel,by decide+kernel,fun e he=>nomatch he⟩;have ha:a=552:=by
  refine bQ fun G_ aQ=>?_;obtain⟨v,e1,e2,_⟩:=MO.sc.glob (aA "law") (.aE (.ref 552)) (by kernel_rfl);have e3:v= .ref 552:=e2 base fun _ _ e=>e;subst e3;have e4:=mg_of Ks T.g e1;rw[defOf_name Hu]at Ig;refine aQ ?_;exact aDQ (gQ (Ig.symm.trans e4))
 subst ha;refine aQ ?_;refine CS callerA [] ⟨s₁,⟨[],[]⟩,[],[],X⟩ AO (.aE (.ref 552)) [.fl (ns.map PV.int)] (.ref 552) [.ref av] _ JV ⟨_,_,rfl,⟨av,vs,rfl,fa HP (ghost_list kT hL),Jl hI⟩,rfl⟩ ?_;obtain⟨H,e⟩:=PL ns (aS 1056622327496848 rfl hc);show Hx.bD Hx.V _ (aG P0 40 (.aE (.ref 552)) [.fl (ns.map PV.int)] []) _ _;rw[e];intro v τ l _ r;have X':=τ.X;cases r.bool;rw[l.sh];refine⟨⟨.inl ⟨_,.bool true,[],rfl,Ip,.bool true,?_,fun _=>⟨mD,fun a ha=>nomatch ha⟩⟩,fun b o e=>X'.stays b o (HP b o e),rfl,Y4⟩,?_⟩
 ·wrow_post
 ·exact Hb fun t ht=>(X'.tab t ht).imp fun ps x=>x.1
theorem aB0(w:World)(s:aL)(h:Y0 s=YG):YP w s.heap:=by
 have h1:allB (fragOf s.heap)=true:=bN (·.1) h;have h2:FY (fragOf s.heap)=FX:=bN (·.2.1) h;have h3:(fun S v=>EQ (fragOf s.heap) S v)=fun _ _=>ER:=bN (·.2.2.1) h;have h4:(oE.all fun t=>RQ s.heap t.1 t.2.1)=true:=bN (·.2.2.2.1) h;have h5:(oE.map fun t=>s.heap.get? t.2.1)=oE.map fun _=>some (tabObj #[]):=bN (·.2.2.2.2) h;refine⟨_,T7 s.heap,T8 s.heap,h1,h2,fun S v=>congrFun (congrFun h3 S) v,fun q hq=>?_⟩;obtain⟨t,ht,rfl⟩:=dY.mp hq;exact⟨E7 (jT.mp h4 t ht),An.mp h5 t ht⟩
theorem holds_of(PL:Bj):lw.Holds:=
 X6 (Yf:=Y0) (Ya:=fun _=>YG) (jd 3000 qz S1 yc wd) aB0 Wp (C2 PL)
end
section
section
open Lean
set_option compiler.extract_closed false
def wT(k:String)(a:List Syntax):Syntax:= .node .none (.str `Lean.Parser.Tactic k) a.toArray
def wN(a:List Syntax):Syntax:= .node .none `null a.toArray
def wA(s:String):Syntax:= .atom .none s
def wU(n:String):Syntax:= .ident .none n.toRawSubstring n.toName []
def w1(k:String)(x:Syntax):Syntax:=wT k [wA k,x]
def wX(k n:String):Syntax:=w1 k (wU n)
def wR(x:Syntax):Syntax:=w1 "withReducible" x
def wO(x:Syntax):Syntax:=w1 "focus" x
def wI(a:List Syntax):Syntax:=w1 "first" (wN (a.map fun x=>wN [wA "|",x]))
def wC(s:String):Syntax:=w1 s (wT "optConfig" [wN []])
def wQ:Syntax:=wT "assumption" [wA "assumption"]
def ww(y:String):Syntax:=wO (.node .none `PyProof.Rows.tacticWalk_at_ #[wA "walk_at",Syntax.mkStrLit y])
def wt(y:String):Syntax:=
 if y== "rfl" then wO (wX "exact" "rfl")else if y== "as" then wR wQ else if y== "de" then wI [wC "decide",wC "omega"]
 else if y== "ar" then wO (wI [wR wQ,wX "exact" "rfl"])else if y== "oa" then wO (wI [wN [wR (wX "apply" "o_at"),ww "lk"],wX "exact" "rfl"])else ww y
def wh(n:String):Syntax:=match n.splitOn "=" with
 |_::m::_=>wX "exact" m|_=>wX "apply" n
def wg:List String→Syntax
 | []=> .missing|n::r=>if n== "" then wt (r.headD "")else wN (wR (wI ((n.splitOn ",").map wh))::r.map wt)
def wM(x:String):Syntax:=wI ((x.splitOn " ").map fun x=>wg (x.splitOn ":"))
def aAX:Syntax:=wI [wT "dsimp" [wA "dsimp",wT "optConfig" [wN []],wN [],wN [wA "only"],wN [wA "[",wN (("cF cJ isCellK List.set List.cons_append List.nil_append List.length Nat.reduceAdd List.dropLast List.reverse List.reverseAux".splitOn " ").flatMap fun n=>[wT "simpLemma" [wN [],wN [],wU n],wA ","]).dropLast,wA "]"],wN []],wT "skip" [wA "skip"]]
def wLn:Syntax:=wM ":as gM:ln lW:ln"
def wNe:Syntax:=wM ":as :de"
def wLk:Syntax:=wM ":as bG:ln:rfl bS:lk qC:lk eQ:lk:ne"
def wSt:Syntax:=wM "t9:st:lk eE:st:ln Py:st:lk IH:st =eG"
def wM1:Syntax:=wM "rK:rfl =oB,sY,mO,=NC nU:nrm vb,ui bG:ln:rfl bS:lk qC:lk eQ:lk:ne xa,NA,=xc Zq:ar Zp:ar Om,dP,Gx,uz,WS,Pf,kC,fU,ur,uu,XB,wv,uf,WT VV:lk CX:lk =sX,MZ,wy,ug o_attr:lk xi,ut,uo,wx,wz,qb,ux pn:rfl pj:rfl o_at qg:lk aAY,ND zA:oa:rfl sN:oa:rfl uq qc:lk Nj:lk IE,pv,uw,pi,uj,aAZ,pc,=V4,Ol Ng:lk VX:lk xj,=S2,ul,uk,uh,uy,uv,pq,um,qa,pz,On,ph,sn,pg :as :lk :ln :st t7:st:rfl:rfl t8:st:rfl:rfl :rfl"
def wm(s:String):Syntax:=
 if s== "nrm" then aAX else if s== "ln" then wLn else if s== "ne" then wNe else if s== "lk" then wLk else if s== "st" then wSt else if s== "m1" then wM1 else .missing
end
end
noncomputable section
open PySem
local macro_rules | `(tactic|walk_at $s:str)=>match wm s.getString with| .missing=>OT|x=>pure x
section
variable{α β:Type}{Q:α→PH→Prop}{R:β→PH→Prop}{E:Addr→Nat→PH→Prop}
end
theorem Db{a:Addr}{F:Fn}(e:P0.fn a=some F){n:Nat}{as:List PV}{H:PH}:aG P0 (n+1) (.aE (.ref a)) as H=jC F (aG P0 n) as H:=by
 show(match P0.fn a with|some F=>jC F (aG P0 n) as H|none=>_)=_;rw[e]
noncomputable def yX{α:Type}(b:Bool)(x y:Out α):Out α:=match b with
 |true=>x|false=>y
theorem Zq{α:Type}{b:Bool}{x y r:Out α}(h:b=true)(k:x=r):yX b x y=r:=by rw[h];exact k
theorem Zp{α:Type}{b:Bool}{x y r:Out α}(h:b=false)(k:y=r):yX b x y=r:=by rw[h];exact k
noncomputable def FZ(f:cO)(fr:aW)(H:PH)(x:Out (cO×aW)):Out (cO×aW):=match f with
 | .next=>x| .ret v=> .ok (.ret v,fr) H
theorem nU{fr:aW}{H:PH}{x r:Out (cO×aW)}(k:x=r):FZ .next fr H x=r:=k
theorem Gx{fr:aW}{H:PH}{x r:Out (cO×aW)}{v:PV}(k: .ok (.ret v,fr) H=r):FZ (.ret v) fr H x=r:=k
noncomputable def KS:cO→PV
 | .next=> .none| .ret v=>v
theorem cG{α β:Type}{o:Option α}{f:α→Out β}{a:α}{r:Out β}(h:o=some a)(k:f a=r):ob o f=r:=h▸k
theorem fL{β:Type}{t:Bool}{o r:Out β}(h:t=true)(k:o=r):cB t o=r:=h▸k
theorem eW{α β:Type}{o:Option α}{f:α→Option β}{a:α}{r:Option β}(h:o=some a)(k:f a=r):o.bind f=r:=h▸k
theorem KB{α β:Type}{o:Option α}{f:α→Option β}(h:o=none):o.bind f=none:=h▸rfl
theorem uY{β:Type}{t:Bool}{a:β}(h:t=true):og t a=some a:=h▸rfl
theorem CY{α:Type}{o u:Option α}{a:α}(h:o=some a):o.or u=some a:=by subst h;rfl
theorem orr{α:Type}{o u:Option α}{a:α}(h:o=none)(k:u=some a):o.or u=some a:=h▸k
theorem nZ{α:Type}{H:PH}{q:Nat}{o:PO}{f:Nat→PO→Option α}{r:Option α}(g:H[q]?=some o)(h:f q o=r):lX H (.ref q) f=r:=eW g h
theorem VA{fr:aW}{i:Nat}{v:PV}(h:fr[i]?=some (some v)):CP fr i=some v:=eW h rfl
theorem HK{H:PH}{d:Nat}{ns:List (Nat×PV)}(g:H[d]?=some (.ns ns)):HJ H d=some ns:=eW g rfl
theorem bi{α β:Type}{o:Out α}{f:α→PH→Out β}{a:α}{H:PH}{r:Out β}(h:o= .ok a H)(k:f a H=r):o.bind f=r:=h▸k
theorem bx{α β:Type}{o:Out α}{f:α→PH→Out β}{c:Addr}{d:Nat}{H:PH}(h:o= .exc c d H):o.bind f= .exc c d H:=h▸rfl
section
variable{K J X J2:PH}{n a b i:Nat}{o p:PO}
theorem gM(h:K.length=n):(K.set a o).length=n:=by rw[dS];exact h
theorem lW(h:K.length=n):(K++J).length=n+J.length:=by rw[eO,h]
theorem bG(e:K.length=n)(h:J[i]?=some o):(K++J)[n+i]?=some o:=by
 subst e;rw[yI (EJ _ _),Vd];exact h
theorem hU(h:K[a]?=some o):a<K.length:=(eF.mp h).1
theorem bS(h:K[a]?=some o):(K++J)[a]?=some o:=by rw[AV (hU h)];exact h
theorem eQ(h:K[a]?=some o)(ne:b≠a):(K.set b p)[a]?=some o:=by rw[qN ne];exact h
theorem qC(h:K[a]?=some o):(K.set a p)[a]?=some p:=by rw[vP (hU h)]
theorem fT{p o:PO}(h:K[a]?=some o)(h2:K[b]?=some p)(ne:o≠p):a≠b:=by rintro rfl;exact ne (gQ (h.symm.trans h2))
theorem t7{Y:PH}(h:X=K++J)(e:J=[])(z:K=Y):X=Y:=by rw[h,e,eL,z]
theorem t8{Y:PH}(h:X=K++J)(z:K=Y)(e:J=J2):X=Y++J2:=by rw[h,e,z]
theorem t9{q:PO}(h:X=K.set a o++J)(l:K[a]?=some q):X.set a p=K.set a p++J:=by rw[h,lI _ _ (by rw[dS];exact hU l),vQ]
theorem eG:K++J=K++J:=rfl
theorem IH(h:X=K++J):X++J2=K++(J++J2):=by rw[h,cM]
theorem Py(h:X=K++J)(l:K[a]?=some p):X.set a o=K.set a o++J:=by rw[h,lI _ _ (hU l)]
theorem eE(h:X=K++J)(e:K.length=n):X.set (n+i) o=K++J.set i o:=by subst e;rw[h,Uw _ _ (EJ _ _),Vd]
end
noncomputable def cF:List (Str×dK)→Nat→Nat→aW
 | [],_,_=>[]|p::r,n,i=>match isCellK p.2 with
  |true=>some (.ref (n+i))::cF r n (i+1)|false=>none::cF r n i
noncomputable def cJ:List (Str×dK)→PH
 | []=>[]|p::r=>match isCellK p.2 with
  |true=> .cell none::cJ r|false=>cJ r
theorem FM: ∀(l:List (Str×dK)) (H:PH) (n i:Nat),H.length=n+i→kM l H=(cF l n i,H++cJ l)
 | [],H,n,i,e=>by simp only[kM,cF,cJ,eL]
 |(x,k)::r,H,n,i,e=>by
  have h1:=FM r H n i e;have h2:=FM r (H++[.cell none]) n (i+1) (by rw[eO,e];rfl);cases k<;>simp only[kM,cF,cJ,isCellK,h1,h2,e,cM]<;>rfl
section
variable{C:dI}{fr fr1 dO:aW}{H H1 H2 H3 K J:PH}{n i q d c m:Nat}
theorem cP{a:Addr}{F:Fn}{B:DS}{as:List PV}{v:PV}{fl:cO}(e:P0.fn a=some F)(hb:F.body=B)(l:K.length=n)(p:putAll F.vF as (cF F.names n J.length) (K++(J++cJ F.names))= .ok fr H1)
  (k:B (aG P0 m) fr H1= .ok (fl,fr1) H2) (w:KS fl=v) (z:H2=H3):aG P0 (m+1) (.aE (.ref a)) as (K++J)= .ok v H3:=by
 subst hb;rw[Db e,jC,FM F.names (K++J) n J.length (by rw[eO,l]),cM,p,Out.eV,k,Out.eV,←w,z];cases fl<;>rfl
theorem BC{a:Addr}{F:Fn}{B:DS}{as:List PV}(e:P0.fn a=some F)(hb:F.body=B)(l:K.length=n)(p:putAll F.vF as (cF F.names n J.length) (K++(J++cJ F.names))= .ok fr H1)
  (k:B (aG P0 m) fr H1= .exc c d H2) (z:H2=H3):aG P0 (m+1) (.aE (.ref a)) as (K++J)= .exc c d H3:=by
 subst hb;rw[Db e,jC,FM F.names (K++J) n J.length (by rw[eO,l]),cM,p,Out.eV,k,z];rfl
theorem cl{α:Type}{f:PH→Out α}{v:α}(h:f H= .ok v H1)(e:H1=H2):f H= .ok v H2:=by rw[←e];exact h
theorem set_same{X:PH}{a:Nat}{o:PO}(h:X[a]?=some o):X.set a o=X:=by
 apply JG;intro i;rw[JH];split
 ·subst_vars;split
  ·exact h.symm
  ·next h2=>rw[jN (by exact aX 66007515414672 rfl h2)]at h;exact nomatch h
 ·rfl
theorem C1{as:List PV}(l:K.length=n)(h:aG P0 m (.aE (.ref 227)) (.ref (n+(J.length+1))::as) (K++(J++[.ns [],.inst 230 (n+J.length)]))= .ok .none H1):
  aG P0 (m+1) (.aE (.ref 230)) as (K++J)= .ok (.ref (n+(J.length+1))) H1:=by
 have e:(K++J).length=n+J.length:=by rw[eO,l]
 rw[←Au]at h⊢;show((aG P0 m (.aE (.ref 227)) (.ref ((K++J).length+1)::as) ((K++J)++[.ns [],.inst 230 (K++J).length])).bind fun v H'=>ob (BB v) fun _=>Out.ok (PV.ref ((K++J).length+1)) H')=_;rw[e,cM,h];rfl
theorem start{α:Type}{f:PH→Out α}{r:Out α}(h:f (H++[])=r):f H=r:=by rw[eL]at h;exact h
variable{a b e:D}{es:Ds}{t u:DT}{x y v w:PV}{vs l:List PV}{r:Out PV}{rb:Out Bool}{bb:Bool}
theorem oB:aB v C fr H= .ok v H:=rfl
theorem rK(h:fr[i]?=some (some v)):aD i C fr H= .ok v H:=cG (VA h) rfl
theorem WS(h:fr[i]?=some (some (.ref q)))(g:H[q]?=some (.cell (some v))):cL i C fr H= .ok v H:=cG (eW (VA h) (nZ g rfl)) rfl
theorem NC:aH C fr H= .ok [] H:=rfl
theorem sY(h:a C fr H= .ok v H1)(k:es C fr H1= .ok vs H2):aC a es C fr H= .ok (v::vs) H2:=bi h (bi k rfl)
theorem uz(h:es C fr H= .ok vs H1)(s:decide (vs.length≤aJ)=true):bM es C fr H= .ok (.tup vs) H1:=by simp only[bM,h,Out.eV,rF,aV (cK s)]
theorem uW(s:decide (vs.length≤aJ)=true)(l:K.length=n):iG vs (K++J)= .ok (.ref (n+J.length)) (K++(J++[.list vs])):=by
 simp only[iG,aV (cK s),eO,l,cM]
theorem ur(h:es C fr H= .ok vs (K++J))(s:decide (vs.length≤aJ)=true)(l:K.length=n):dN es C fr H= .ok (.ref (n+J.length)) (K++(J++[.list vs])):=by
 simp only[dN,h,Out.eV,uW s l]
theorem HZ{eK:cA}(l:K.length=n)(h:es C fr (K++(J++[.dict [] false]))= .ok vs H1)(g:H1[n+J.length]?=some (.dict [] false))(p:pairUp vs []=some eK)(s:H1.set (n+J.length) (.dict eK false)=H2):
  mM es C fr (K++J)= .ok (.ref (n+J.length)) H2:=by
 simp only[mM,cM,h,Out.eV,eO,l];exact cG (eW (sK g) rfl) (cG p (bN _ s))
theorem MZ{op:Operator}(h:a C fr H= .ok x H1)(k:b C fr H1= .ok y H2)(z:binOp op x y H2=r):bV op a b C fr H=r:=bi h (bi k z)
theorem uv(h:a C fr H= .ok (.int j) H1):xM a C fr H= .ok (.int (-j)) H1:=bi h rfl
theorem ui{op:CmpOp}(h:a C fr H= .ok x H1)(k:b C fr H1= .ok y H2)(z:dE op x y H2= .ok bb H3):bB op a b C fr H= .ok (.bool bb) H3:=bi h (bi k (bi z rfl))
theorem uj{oA kY:CmpOp}{b1 b2:Bool}(h:a C fr H= .ok x H)(k:b C fr H= .ok y H)(z:dE oA x y H= .ok b1 H)(k2:e C fr H= .ok v H)(z2:dE kY y v H= .ok b2 H):vA oA kY a b e C fr H= .ok (.bool (b1&&b2)) H:=by
 simp only[vA,h,k,z,Out.eV];cases b1<;>simp[k2,z2]
theorem ul(h:a C fr H= .ok x H1)(z:uP false x H1=r):rI a C fr H=r:=bi h z
theorem um(h:a C fr H= .ok x H1)(z:uP true x H1=r):xK a C fr H=r:=bi h z
theorem vb(h:a C fr H= .ok x H1)(z:truth x H1=rb):bF a C fr H=rb:=bi h z
theorem uw(h:t C fr H= .ok bb H1):tB t C fr H= .ok (!bb) H1:=bi h rfl
theorem uf(h:t C fr H= .ok bb H1)(k:yX bb (u C fr H1) (.ok false H1)=rb):jK t u C fr H=rb:=by simp only[jK,h,Out.eV];cases bb<;>exact k
theorem ux(h:t C fr H= .ok bb H1)(k:yX bb (.ok true H1) (u C fr H1)=rb):gY t u C fr H=rb:=by simp only[gY,h,Out.eV];cases bb<;>exact k
theorem uo(h:t C fr H= .ok bb H1)(k:yX bb (a C fr H1) (b C fr H1)=r):jB t a b C fr H=r:=by simp only[jB,h,Out.eV];cases bb<;>exact k
theorem Om(h:a C fr H= .ok x H1)(k:b C fr H1= .ok y H2)(z:nF x y H2=r):bC a b C fr H=r:=bi h (bi k z)
theorem uk(h:a C fr H= .ok x H1)(k:b C fr H1= .ok y H2)(k2:e C fr H2= .ok v H3)(z:yY x y v H3=r):qH a b e C fr H=r:=bi h (bi k (bi k2 z))
theorem uy(h:a C fr H= .ok x H1)(z:IB x H1=r):zP a C fr H=r:=bi h z
theorem ug{k:Nat}(h:a C fr H= .ok x H1)(z:yV x k H1=r):eR a k C fr H=r:=bi h z
theorem NA(h:a C fr H= .ok x H1)(k:es C fr H1= .ok vs H2)(z:C x vs H2=r):aZ a es C fr H=r:=bi h (bi k z)
theorem uh{lb:Expr}{sc:Scope}{lf:aW}(h:a C fr H= .ok (.ref q) H1)(g:H1[q]?=some (.lam lb sc lf))(z:C (.ref q) [] H1=r):DA a C fr H=r:=by simp only[DA,h,Out.eV];exact cG (nZ g rfl) z
theorem uu{cl f:Addr}{ns:List (Nat×PV)}(h:a C fr H= .ok (.ref q) H1)(g:H1[q]?=some (.inst cl d))(g2:H1[d]?=some (.ns ns))(k:es C fr H1= .ok vs H2)(z:C (.aE (.ref f)) (.ref q::vs) H2=r):
  fC cl f a es C fr H=r:=by simp only[fC,h,Out.eV];exact cG (nZ g (uY (cC rfl))) (cG (HK g2) (by rw[k];exact z))
theorem WT{f:PV→PH→Out PV}(h:a C fr H= .ok x H1)(z:f x H1=r):p1 f a C fr H=r:=bi h z
theorem On{f:PV→PV→PH→Out PV}(h:a C fr H= .ok x H1)(k:b C fr H1= .ok y H2)(z:f x y H2=r):p2 f a b C fr H=r:=bi h (bi k z)
theorem ut{bm:BM}(h:a C fr H= .ok x H1)(s:GV bm.kd x H1=true)(k:es C fr H1= .ok vs H2)(z:bm.run x vs H2=r):hV bm a es C fr H=r:=by simp only[hV,h,Out.eV];exact fL s (by rw[k];exact z)
theorem Ol{src:dI→aW→PH→Out It}{it:It}{size iv:Nat}{links:List (Nat×Nat)}(h:src C fr H= .ok it H1)(s:it.nX=false)(k:gA it (fun v H=>e C (qY fr size iv links v) H) 9000 0 [] H1= .ok vs (K++J))(l:K.length=n):
  nI src size iv links e C fr H= .ok (.ref (n+J.length)) (K++(J++[.list vs])):=by
 have k:gA it (fun v H=>e C (qY fr size iv links v) H) rE 0 [] H1= .ok vs (K++J):=k;simp only[nI,h,s,k,show calm (Out.ok vs (K++J))= .ok vs (K++J)from rfl,Out.eV,eO,l,cM];rfl
theorem ND{it:It}(h:a C fr H= .ok x H1)(s:uR x H1=some it):lF a C fr H= .ok it H1:=by simp only[lF,h,Out.eV];exact cG s rfl
theorem uq{lb:Expr}{sc:Scope}{links:List (Nat×Nat)}(l:K.length=n):sW lb sc links C fr (K++J)= .ok (.ref (n+J.length)) (K++(J++[.lam lb sc (nS fr links (cU sc.names.length none))])):=by
 simp only[sW,eO,l,cM]
variable{A B:DS}{fl:cO}{rs:Out (cO×aW)}
theorem xc:aK C fr H= .ok (.next,fr) H:=rfl
theorem mO(h:A C fr H= .ok (fl,fr1) H1)(k:FZ fl fr1 H1 (B C fr1 H1)=rs):aI A B C fr H=rs:=by simp only[aI,h,Out.eV];cases fl<;>exact k
theorem XB(h:a C fr H= .ok v H1)(s:decide (i<fr.length)=true):cW (.loc i) a C fr H= .ok (.next,fr.set i (some v)) H1:=by simp only[cW,h,Out.eV];rw[show putAt (.loc i) v fr H1= .ok (fr.set i (some v)) H1 from fL s rfl];rfl
theorem kC(s:decide (i<fr.length)=true):putAt (.loc i) v fr H= .ok (fr.set i (some v)) H:=fL s rfl
theorem fU{o:Option PV}(g:fr[i]?=some (some (.ref q)))(g2:H[q]?=some (.cell o))(s:H.set q (.cell (some v))=H1):putAt (.fS i) v fr H= .ok fr H1:=cG (VA g) (cG (nZ g2 rfl) (bN _ s))
theorem dP{T:Tg}{ts:List Tg}{ro:Out aW}(h:putAt T v fr H= .ok fr1 H1)(k:putAll ts vs fr1 H1=ro):putAll (T::ts) (v::vs) fr H=ro:=bi h k
theorem sX:putAll [] [] fr H= .ok fr H:=rfl
theorem wv(h:a C fr H= .ok v H1)(k:putAt (.fS i) v fr H1= .ok fr1 H2):cW (.fS i) a C fr H= .ok (.next,fr1) H2:=bi h (bi k rfl)
theorem xi{ts:List Tg}(h:a C fr H= .ok x H1)(s:DG x H1=some l)(g:l.length=ts.length)(k:putAll ts l fr H1= .ok fr1 H2):jQ ts a C fr H= .ok (.next,fr1) H2:=by simp only[jQ,h,Out.eV];exact cG s (fL (cC g) (by rw[k];rfl))
theorem wx{k:Nat}(h:a C fr H= .ok v H1)(h2:b C fr H1= .ok x H2)(z:NJ x k v H2= .ok () H3):jD b k a C fr H= .ok (.next,fr) H3:=bi h (bi h2 (bi z rfl))
theorem wz{H4:PH}(h:a C fr H= .ok v H1)(h2:b C fr H1= .ok x H2)(h3:e C fr H2= .ok y H3)(z:DH x y v H3= .ok () H4):mN b e a C fr H= .ok (.next,fr) H4:=bi h (bi h2 (bi h3 (bi z rfl)))
theorem wy(h:a C fr H= .ok v H1):eN a C fr H= .ok (.next,fr) H1:=bi h rfl
theorem Pf(h:a C fr H= .ok v H1):bJ a C fr H= .ok (.ret v,fr) H1:=bi h rfl
theorem xa(h:t C fr H= .ok bb H1)(k:yX bb (A C fr H1) (B C fr H1)=rs):bR t A B C fr H=rs:=by simp only[bR,h,Out.eV];cases bb<;>exact k
theorem xj(k:tF (t C) (A C) 9000 fr H= .ok (fl,fr1) H1):DF t A C fr H= .ok (fl,fr1) H1:=by
 have k:tF (t C) (A C) rE fr H= .ok (fl,fr1) H1:=k;simp only[DF,k];rfl
def YM(t:aW→PH→Out Bool)(b:aW→PH→Out (cO×aW))(f:Nat)(fr:aW)(H:PH):Out (cO×aW):=(b fr H).bind fun r H=>match r with
 |(.next,fr)=>tF t b f fr H|(.ret v,fr)=> .ok (.ret v,fr) H
theorem aAY{f:Nat}(h:t C fr H= .ok bb H1)(k:yX bb (YM (t C) (A C) f fr H1) (.ok (.next,fr) H1)=rs):tF (t C) (A C) (f+1) fr H=rs:=by
 simp only[tF,h,Out.eV];cases bb<;>exact k
theorem aAZ{f:Nat}(k:A C fr H= .ok (fl,fr1) H2)(z:FZ fl fr1 H2 (tF (t C) (A C) f fr1 H2)=rs):YM (t C) (A C) f fr H=rs:=by
 simp only[YM,k,Out.eV];cases fl<;>exact z
theorem IE{put:PV→aW→PH→Out aW}{src:dI→aW→PH→Out It}{it:It}(h:src C fr H= .ok it H1)(s:rD it H1=some H2)(k:gI it put (A C) 9000 0 fr H2= .ok (fl,fr1) H3)(z:nT it H3=K):kE put src A C fr H= .ok (fl,fr1) K:=by
 simp only[kE,h,Out.eV];exact cG s (by rw[show gI it put (A C) rE 0 fr H2= .ok (fl,fr1) H3 from k,←z];rfl)
theorem S2{r:Nat}:nT (.live r) H=H:=rfl
theorem zA{put:PV→aW→PH→Out aW}{it:It}{f j:Nat}{o:Option PV}(s:gR it j H=some o)(e:o=none):gI it put (A C) (f+1) j fr H= .ok (.next,fr) H:=by subst e;simp only[gI,s]
theorem sN{put:PV→aW→PH→Out aW}{it:It}{f j:Nat}{o:Option PV}(s:gR it j H=some o)(e:o=some v)(p:put v fr H= .ok fr1 H1)(k:A C fr1 H1= .ok (fl,dO) H2)(z:FZ fl dO H2 (gI it put (A C) f (j+1) dO H2)=rs):gI it put (A C) (f+1) j fr H=rs:=by
 subst e;simp only[gI,s,p,k,Out.eV];cases fl<;>exact z
theorem sn{ts:List Tg}{ro:Out aW}(s:l.length=ts.length)(h:putAll ts l fr H=ro):MX ts (.tup l) fr H=ro:=cG (a:=l) rfl (fL (cC s) h)
theorem xd{k:Nat}(h:a C fr H= .ok v (K++J))(l:K.length=n):mA c k a C fr H= .exc c (n+J.length) (K++(J++[.ns [(k,v)]])):=by simp only[mA,h,Out.eV,eO,l,cM]
theorem xe{o:Option Nat}(h:A C fr H= .ok (fl,fr1) H1):qJ A c o a C fr H= .ok (fl,fr1) H1:=by simp only[qJ,h];rfl
theorem xg(h:A C fr H= .exc c d H1)(k:a C fr H1= .ok v H2):qJ A c none a C fr H= .ok (.ret v,fr) H2:=by simp only[qJ,h];exact fL (cC rfl) (by rw[k];rfl)
theorem xh(h:A C fr H= .exc c d (K++J))(l:K.length=n)(s:decide (i<fr.length)=true)(k:a C (fr.set i (some (.ref (n+J.length)))) (K++(J++[.exc c d]))= .ok v H2):qJ A c (some i) a C fr H= .ok (.ret v,fr.set i none) H2:=by simp only[qJ,h];exact fL (cC rfl) (fL s (by simp only[eO,l,cM,k,calm,Out.eV]))
theorem oN(h:A C fr H= .exc c d H1):aI A B C fr H= .exc c d H1:=bx h
theorem SE(h:a C fr H= .exc c d H1):bJ a C fr H= .exc c d H1:=bx h
theorem Er(h:a C fr H= .exc c d H1):eN a C fr H= .exc c d H1:=bx h
theorem SD(h:a C fr H= .exc c d H1):aC a es C fr H= .exc c d H1:=bx h
theorem L7(h:a C fr H= .ok v H1)(k:es C fr H1= .exc c d H2):aC a es C fr H= .exc c d H2:=bi h (bx k)
theorem L9(h:es C fr H= .exc c d H1):bM es C fr H= .exc c d H1:=bx h
theorem L6(h:a C fr H= .ok x H1)(k:es C fr H1= .exc c d H2):aZ a es C fr H= .exc c d H2:=bi h (bx k)
theorem L8{cl f:Addr}{ns:List (Nat×PV)}{d2:Nat}(h:a C fr H= .ok (.ref q) H1)(g:H1[q]?=some (.inst cl d2))(g2:H1[d2]?=some (.ns ns))(k:es C fr H1= .exc c d H2):fC cl f a es C fr H= .exc c d H2:=by simp only[fC,h,Out.eV];exact cG (nZ g (uY (cC rfl))) (cG (HK g2) (by rw[k];rfl))
variable{g:PO}{ent:cA}{lk:Bool}{j:Int}{ki:PK}{ns:List (Nat×PV)}
theorem yf(g:H[q]?=some (.list l)):XF H (.ref q)=some l.length:=by
 show(H[q]?).bind _=_;rw[g];rfl
theorem yd(g:H[q]?=some (.dict ent lk)):XF H (.ref q)=some ent.length:=by
 show(H[q]?).bind _=_;rw[g];rfl
theorem ly{m:List PV}{q2:Nat}(g:H[q2]?=some (.list m))(ne:q2≠q):VG H q (.ref q2)=some m:=by
 show(listAt H (.ref q2)).bind _=_;rw[gL g];show(match q2==q with|true=>none|false=>some m)=_;rw[dC.mpr ne]
theorem vW{a b:Bool}(h:a=true)(k:b=true):(a&&b)=true:=by rw[h,k];rfl
theorem VV(g:H[q]?=some (.list l))(s:iI l j=some v):nF (.ref q) (.int j) H= .ok v H:=cG (orr rfl (CY (eW (gL g) (eW (a:=j) rfl s)))) rfl
theorem CX(g:H[q]?=some (.dict ent lk))(k:keyOf x=some ki)(s:cZ ent ki=true)(s2:bZ ent ki=some v):nF (.ref q) x H= .ok v H:=cG (orr rfl (orr (KB (nZ g rfl)) (eW (sK g) (eW k (eW (uY s) s2))))) rfl
theorem o_attr(g:H[q]?=some (.inst c d))(g2:H[d]?=some (.ns ns))(s:ns.lookup i=some v)(s2:HI v=true):yV (.ref q) i H= .ok v H:=cG (CY (nZ g rfl)) (cG (HK g2) (cG s (fL s2 rfl)))
theorem pd(g:H[q]?=some (.exc c d))(g2:H[d]?=some (.ns ns))(s:ns.lookup i=some v)(s2:HI v=true):yV (.ref q) i H= .ok v H:=cG (orr (nZ g rfl) (nZ g rfl)) (cG (HK g2) (cG s (fL s2 rfl)))
theorem qg(g:H[q]?=some (.list l))(s:decide (l.length≤aJ)=true):truth (.ref q) H= .ok (!l.isEmpty) H:=cG (gL g) (fL s rfl)
theorem Ng(g:H[q]?=some (.list l))(s:decide (l.length≤aJ)=true):fX (.ref q) H= .ok (.int l.length) H:=cG (yf g) (fL s rfl)
theorem VX(g:H[q]?=some (.dict ent lk))(s:decide (ent.length≤aJ)=true):fX (.ref q) H= .ok (.int ent.length) H:=cG (yd g) (fL s rfl)
theorem pq(g:(K++J)[q]?=some (.list l))(s:decide (l.length≤aJ)=true)(e:K.length=n):zM (.ref q) (K++J)= .ok (.ref (n+J.length)) (K++(J++[.list l])):=cG (gL g) (uW s e)
theorem HL(g:(K++J)[q]?=some (.dict ent lk))(s:decide ((ent.map (·.2)).length≤aJ)=true)(e:K.length=n):AE (.ref q) (K++J)= .ok (.ref (n+J.length)) (K++(J++[.list (ent.map (·.2))])):=cG (sK g) (uW s e)
theorem pz(g:(K++J)[q]?=some (.list l))(s:decide (l.reverse.length≤aJ)=true)(e:K.length=n):IB (.ref q) (K++J)= .ok (.ref (n+J.length)) (K++(J++[.list l.reverse])):=cG (gL g) (uW s e)
theorem pf{l':List PV}(g:(K++J)[q]?=some (.list l))(s:cut l x y=some l')(s2:decide (l.length≤aJ)=true)(s3:decide (l'.length≤aJ)=true)(e:K.length=n):yY (.ref q) x y (K++J)= .ok (.ref (n+J.length)) (K++(J++[.list l'])):=cG (gL g) (cG s (fL s2 (uW s3 e)))
theorem Nb{m:List PV}{q2:Nat}(g:(K++J)[q]?=some (.list l))(g2:(K++J)[q2]?=some (.list m))(s:decide ((l++m).length≤aJ)=true)(e:K.length=n):binOp .Add (.ref q) (.ref q2) (K++J)= .ok (.ref (n+J.length)) (K++(J++[.list (l++m)])):=cG (gL g) (cG (gL g2) (uW s e))
theorem pc(g:H[q]?=some (.list l))(s:decide (l.length<aJ)=true)(e:H.set q (.list (l++[v]))=H1):BM.run .append (.ref q) [v] H= .ok .none H1:=by
 show ob (listAt H (.ref q)) _=_;refine cG (gL g) ?_;exact fL s (bN _ e)
theorem pg{m:List PV}(g:H[q]?=some (.list l))(s:decide (l.length+m.length≤aJ)=true)(e:H.set q (.list (l++m))=H1):BM.run .extend (.ref q) [.tup m] H= .ok .none H1:=by
 show ob (listAt H (.ref q)) _=_;refine cG (gL g) (cG (a:=m) rfl ?_);exact fL s (bN _ e)
theorem Nd{m:List PV}{q2:Nat}(g:H[q]?=some (.list l))(g2:H[q2]?=some (.list m))(ne:q2≠q)(s:decide (l.length+m.length≤aJ)=true)(e:H.set q (.list (l++m))=H1):BM.run .extend (.ref q) [.ref q2] H= .ok .none H1:=by
 show ob (listAt H (.ref q)) _=_;refine cG (gL g) (cG (ly g2 ne) ?_);exact fL s (bN _ e)
theorem V4{v:PV}:[v].getLast?=some v:=rfl
theorem pv(g:H[q]?=some (.list l))(s:decide (l.length≤aJ)=true)(z:l.getLast?=some v)(e:H.set q (.list l.dropLast)=H1):BM.run .qD (.ref q) [] H= .ok v H1:=by
 show ob (listAt H (.ref q)) _=_;refine cG (gL g) (fL s (cG z ?_));exact bN _ e
theorem Nc(g:H[q]?=some (.dict ent false))(k:keyOf x=some ki)(s:cZ ent ki=true)(s1:decide (ent.length≤aJ)=true)(s2:bZ ent ki=some v)(e:H.set q (.dict (iD ent ki) false)=H1):BM.run .pN (.ref q) [x] H= .ok v H1:=by
 show ob (uF H (.ref q)) _=_;refine cG (KV g) (cG k (fL (vW s s1) (cG s2 ?_)));exact bN _ e
theorem VS{is:List Int}(g:H[q]?=some (.list l))(s:intsOf l=some is):BM.run .count (.ref q) [.int j] H= .ok (.int (is.count j)) H:=by
 show ob (listAt H (.ref q)) _=_;exact cG (gL g) (cG (a:=j) rfl (cG s rfl))
theorem ph(g:H[q]?=some (.dict ent lk))(s:cZ ent (.int j)=true)(s2:bZ ent (.int j)=some v):BM.run .get (.ref q) [.int j] H= .ok v H:=by
 show ob (dictAt H (.ref q)) _=_;exact cG (sK g) (cG (a:= .int j) rfl (fL s (by rw[s2];rfl)))
theorem qd(g:H[q]?=some (.dict ent false))(s:cZ ent (.int j)=true)(s1:decide (ent.length<aJ)=true)(s2:bZ ent (.int j)=some w):BM.run .rM (.ref q) [.int j,v] H= .ok w H:=by
 show ob (uF H (.ref q)) _=_;exact cG (KV g) (cG (a:= .int j) rfl (fL (vW s s1) (by dsimp only;rw[s2])))
theorem qe(g:H[q]?=some (.dict ent false))(s:cZ ent (.int j)=true)(s1:decide (ent.length<aJ)=true)(s2:bZ ent (.int j)=none)(e:H.set q (.dict (bT ent (.int j) v) false)=H1):BM.run .rM (.ref q) [.int j,v] H= .ok v H1:=by
 show ob (uF H (.ref q)) _=_;exact cG (KV g) (cG (a:= .int j) rfl (fL (vW s s1) (by dsimp only;rw[s2,e])))
theorem pn{kd:Kd}(e:kd= .list)(g:H[q]?=some (.list l)):GV kd (.ref q) H=true:=by subst e;exact bN Vt (gL g)
theorem pj{kd:Kd}(e:kd= .dict)(g:H[q]?=some (.dict ent lk)):GV kd (.ref q) H=true:=by subst e;exact bN Vt (sK g)
theorem qb(g:H[q]?=some (.inst c d))(g2:H[d]?=some (.ns ns))(s:decide (ns.length≤900)=true)(e:H.set d (.ns (nsSet ns i v))=H1):NJ (.ref q) i v H= .ok () H1:=cG (nZ g rfl) (cG (HK g2) (fL s (bN _ e)))
theorem qc(g:H[q]?=some (.list l))(s:decide (0≤j∧j<l.length∧l.length≤aJ)=true)(e:H.set q (.list (l.set j.toNat v))=H1):DH (.ref q) (.int j) v H= .ok () H1:=cG (CY (eW (gL g) (eW (a:=j) rfl (uY s)))) (bN (Out.ok ()) e)
theorem Nj(g:H[q]?=some (.dict ent false))(k:keyOf x=some ki)(s:cZ ent ki=true)(s1:decide (ent.length<aJ)=true)(e:H.set q (.dict (bT ent ki v) false)=H1):DH (.ref q) x v H= .ok () H1:=cG (orr (KB (nZ g rfl)) (eW (KV g) (eW k (uY (eY.mpr ⟨s,s1⟩))))) (bN (Out.ok ()) e)
theorem qa(g:H[q]?=some (.list l)):DG (.ref q) H=some l:=orr rfl (by rw[gL g];rfl)
theorem pi(g:H[q]?=some (.list l)):uR (.ref q) H=some (.live q):=by unfold uR;dsimp only;rw[g]
theorem VW(g:H[q]?=some (.dict ent lk)):uR (.ref q) H=some (.keys q (ent.map fun e=>e.1.val)):=by unfold uR;dsimp only;rw[g]
theorem o_at(g:H[q]?=some (.list l)):gR (.live q) i H=some l[i]?:=by show(listAt H (.ref q)).map _=_;rw[gL g];rfl
theorem Jp(g:H[q]?=some (.dict ent lk))(k:keyOf x=some ki)(s:cZ ent ki=true):isIn H x (.ref q)=some (bZ ent ki).isSome:=orr (by unfold UD;cases mY x<;>rfl) (CY (eW (sK g) (eW k (uY s))))
theorem Nf(g:H[q]?=some (.dict ent lk))(k:keyOf x=some ki)(s:cZ ent ki=true):dE .In x (.ref q) H= .ok (bZ ent ki).isSome H:=cG (Jp g k s) rfl
theorem MN(g:H[q]?=some (.dict ent lk))(k:keyOf x=some ki)(s:cZ ent ki=true):dE .NotIn x (.ref q) H= .ok (!(bZ ent ki).isSome) H:=cG (bN (fF not) (Jp g k s)) rfl
theorem Nh{q2:Nat}{jz:Bool}(g:H[q]?=some (.dict ent lk))(g2:H[q2]?=some (.dict [] jz)):dE .NotEq (.ref q) (.ref q2) H= .ok (!ent.isEmpty) H:=cG (CY (eW (sK g) (eW (sK g2) (uY rfl)))) rfl
theorem qF(s:xP H x y=some bb):dE .Eq x y H= .ok bb H:=cG s rfl
theorem Ni{q2:Nat}(g:H[q]?=some (.list l))(s:xP H (.ref q) (.ref q2)=some bb):dE .NotEq (.ref q) (.ref q2) H= .ok (!bb) H:=cG (orr (KB (nZ g rfl)) (bN (fF not) s)) rfl
end
section
noncomputable abbrev sv(s:String):PV:= .str (aA s)
noncomputable abbrev agg(l:List PV):PV:= .tup [sv "agg",.tup l]
noncomputable abbrev bL(l:List Int):PV:= .tup (l.map .int)
noncomputable abbrev spot(r:Nat)(l:List Int):PV:= .tup [sv "at",.ref r,bL l]
noncomputable abbrev vX(k z:PV):PV:= .tup [sv "any",k,agg [z]]
noncomputable abbrev bH(n:Int):PV:= .tup [sv "buf",.int n]
variable{m:Nat}{H:PH}
section
variable{a b c d e f k z v:PV}
theorem gw:aG P0 (m+5) (.aE (.ref 124)) [agg [a,b,c,d],bL [0],v] H= .ok (agg [v,b,c,d]) H:=by kernel_rfl!
theorem gy:aG P0 (m+5) (.aE (.ref 124)) [agg [a,b,c,d],bL [1],v] H= .ok (agg [a,v,c,d]) H:=by kernel_rfl!
theorem gz:aG P0 (m+5) (.aE (.ref 124)) [agg [a,b,c,d],bL [2],v] H= .ok (agg [a,b,v,d]) H:=by kernel_rfl!
theorem Ky:aG P0 (m+5) (.aE (.ref 124)) [agg [a,b,agg [e,f],d],bL [2,0],v] H= .ok (agg [a,b,agg [v,f],d]) H:=by kernel_rfl!
theorem ic:aG P0 (m+5) (.aE (.ref 124)) [agg [a,b,agg [e,f],d],bL [2,1],v] H= .ok (agg [a,b,agg [e,v],d]) H:=by kernel_rfl!
theorem ig:aG P0 (m+5) (.aE (.ref 124)) [agg [a,b,.none,d],bL [2,1],v] H= .ok (agg [a,b,agg [.none,v],d]) H:=by kernel_rfl!
theorem ii:aG P0 (m+5) (.aE (.ref 124)) [agg [a,b,c,vX k z],bL [3,-1,0],v] H= .ok (agg [a,b,c,vX k v]) H:=by kernel_rfl!
theorem Kz:aG P0 (m+5) (.aE (.ref 124)) [a,bL [],v] H= .ok v H:=by kernel_rfl!
end
theorem qU{r:Nat}(l:List Int)(h:l.length≤3):aG P0 (m+3) (.aE (.ref 442)) [spot r [0],bL l] H= .ok (spot r (0::l)) H:=by
 rcases l with _|⟨x,_|⟨y,_|⟨z,_|⟨w,l⟩⟩⟩⟩
 ·kernel_rfl!
 ·kernel_rfl!
 ·kernel_rfl!
 ·kernel_rfl!
 ·simp at h
theorem Cg{r:Nat}(x:Int):aG P0 (m+3) (.aE (.ref 442)) [spot r [0,2],bL [x]] H= .ok (spot r [0,2,x]) H:=by kernel_rfl!
theorem place_in{r:Nat}(x:Int):aG P0 (m+1) (.aE (.ref 103)) [.ref r,.int x] H= .ok (spot r [x]) H:=by kernel_rfl!
theorem element_at{r:Nat}{i:Int}{l:List PV}{v:PV}(h:H[r]?=some (.list l))(h0:0≤i)(hv:l[i.toNat]?=some v)(hl:decide (l.length≤aJ)=true):aG P0 (m+1) (.aE (.ref 194)) [.ref r,.int i] H= .ok v H:=by
 have hi:i.toNat<l.length:=(eF.mp hv).1;have hs:iI l i=some v:=by have:=cK hl;unfold iI;rw[aN (by exact aS 71427231136847036948 rfl this),aV (by exact jH 1056081119871000 rfl h0)];exact hv
 have hb:(!(decide ((0:Int)≤i)&&decide ((i:Int)<l.length)))=false:=ydf h0 ((yG h0).mp hi);obtain⟨n,hn⟩: ∃n,H.length=n:=⟨_,rfl⟩;refine start ?_;apply cP (B:=EY) rfl rfl hn rfl;unfold EY;dsimp only[SQ];walk_at "nrm"
 repeat walk_at "m1"
theorem vy{r:Nat}{v:PV}(h:H[r]?=some (.list [v])):aG P0 (m+1) (.aE (.ref 194)) [.ref r,.int 0] H= .ok v H:=element_at h (rZ 0) rfl rfl
theorem Nz{i:Int}{p:List Int}{H:PH}(h:p.length≤3):nF (bL (i::p)) (.int 0) H= .ok (.int i) H:=by
 have: ¬aJ<((i::p).map PV.int).length:=by simp[aJ];exact aS 271060712858517648 rfl h
 exact cG (CY (eW (a:=(i::p).map PV.int) rfl (eW (a:=0) rfl (by unfold iI;rw[aN this];rfl)))) rfl
theorem sz{i:Int}{p:List Int}{H:PH}(h:p.length≤3):yY (bL (i::p)) (.int 1) .none H= .ok (bL p) H:=by
 have:((i::p).map PV.int).length≤aJ:=by simp[aJ];exact aS 271060712858517648 rfl h
 show ob (cut ((i::p).map PV.int) (.int 1) .none) (fun l'=>cB (decide (((i::p).map PV.int).length≤aJ)) (Out.ok (PV.tup l') H))=_;exact cG (a:=p.map PV.int) rfl (fL (cC this) rfl)
def gW(x:Out (cO×aW)):Out PV:=x.bind fun r H=> .ok (KS r.1) H
theorem Ox{x:Out (cO×aW)}{v:PV}{H:PH}(h:gW x= .ok v H): ∃fl fr,x= .ok (fl,fr) H∧KS fl=v:=by
 induction x using Out.casesOn with
 |ok r K=>obtain⟨fl,fr⟩:=r;injection h with h1 h2;exact⟨fl,fr,by rw[h2],h1⟩
 |exc c d K=>exact nomatch h|fail=>exact nomatch h
theorem zQ{r:Nat}{p:List Int}{V v:PV}(hp:p.length≤3)(h:H[r]?=some (.list [V]))(k:gW (WU (aG P0 (m+1)) [some (spot r (0::p)),some (bL (0::p)),some V,none,none,none,none] H)= .ok v H):
  aG P0 (m+2) (.aE (.ref 117)) [spot r (0::p)] H= .ok v H:=by
 obtain⟨fl,fr,k,w⟩:=Ox k;refine start ?_;obtain⟨n,hn⟩: ∃n,H.length=n:=⟨_,rfl⟩;refine cP rfl (B:=QD) rfl hn rfl (fr1:=fr) ?_ w (eL H);unfold QD;rw[←eL H]at k
 repeat(first|((with_reducible change WU _ _ _=_);exact k)|with_reducible exact vy (bS h)|with_reducible exact Nz hp|walk_at "m1")
section
variable{r:Nat}{a b c d e f k z v:PV}
theorem read0(h:H[r]?=some (.list [agg [a,b,c,d]])):aG P0 (m+2) (.aE (.ref 117)) [spot r [0,0]] H= .ok a H:=zQ (by decide) h (by kernel_rfl!)
theorem read1(h:H[r]?=some (.list [agg [a,b,c,d]])):aG P0 (m+2) (.aE (.ref 117)) [spot r [0,1]] H= .ok b H:=zQ (by decide) h (by kernel_rfl!)
theorem Oo(h:H[r]?=some (.list [agg [a,b,c,d]])):aG P0 (m+2) (.aE (.ref 117)) [spot r [0,2]] H= .ok c H:=zQ (by decide) h (by kernel_rfl!)
theorem NE(h:H[r]?=some (.list [agg [a,b,agg [e,f],d]])):aG P0 (m+2) (.aE (.ref 117)) [spot r [0,2,0]] H= .ok e H:=zQ (by decide) h (by kernel_rfl!)
theorem Op(h:H[r]?=some (.list [agg [a,b,agg [e,f],d]])):aG P0 (m+2) (.aE (.ref 117)) [spot r [0,2,1]] H= .ok f H:=zQ (by decide) h (by kernel_rfl!)
theorem vf(h:H[r]?=some (.list [agg [a,b,.none,d]])):aG P0 (m+2) (.aE (.ref 117)) [spot r [0,2,1]] H= .ok .none H:=zQ (by decide) h (by kernel_rfl!)
theorem Oq(h:H[r]?=some (.list [agg [a,b,c,vX k z]])):aG P0 (m+2) (.aE (.ref 117)) [spot r [0,3,-1,0]] H= .ok z H:=zQ (by decide) h (by kernel_rfl!)
end
theorem Re{r:Nat}{p:List Int}{i:Int}{l:List PV}{V v w:PV}(hp:p.length≤3)(h:H[r]?=some (.list l))(h0:0≤i)(hv:l[i.toNat]?=some V)(hl:decide (l.length≤aJ)=true)
  (k: ∀J,aG P0 (m+5) (.aE (.ref 124)) [V,bL p,v] (H++J)= .ok w (H++J)):
  aG P0 (m+6) (.aE (.ref 131)) [spot r (i::p),v] H= .ok .none (H.set r (.list (l.set i.toNat w))):=by
 have hi:i.toNat<l.length:=(eF.mp hv).1;have hs:decide (0≤i∧i<l.length∧l.length≤aJ)=true:=by have:=cK hl;exact cC ⟨h0,(yG h0).mp hi,this⟩
 obtain⟨n,hn⟩: ∃n,H.length=n:=⟨_,rfl⟩;refine start ?_;apply cP (B:=QF) rfl rfl hn rfl;unfold QF;dsimp only[Fk];walk_at "nrm"
 repeat(first|with_reducible exact k _|with_reducible exact element_at (bS h) h0 hv hl|with_reducible exact Nz hp|with_reducible exact sz hp|walk_at "m1")
theorem xY{r:Nat}{p:List Int}{V v w:PV}(hp:p.length≤3)(h:H[r]?=some (.list [V]))(k: ∀J,aG P0 (m+5) (.aE (.ref 124)) [V,bL p,v] (H++J)= .ok w (H++J)):
  aG P0 (m+6) (.aE (.ref 131)) [spot r (0::p),v] H= .ok .none (H.set r (.list [w])):=Re hp h (rZ 0) rfl rfl k
theorem zC{p v:PV}(h: ∀J,aG P0 (m+2) (.aE (.ref 117)) [p] (H++J)= .ok v (H++J))(hv: ∀H,uP false v H= .ok (.bool false) H):aG P0 (m+3) (.aE (.ref 138)) [p] H= .ok v H:=by
 obtain⟨n,hn⟩: ∃n,H.length=n:=⟨_,rfl⟩;refine start ?_;apply cP (B:=EW) rfl rfl hn rfl;unfold EW;dsimp only[SN];walk_at "nrm"
 repeat(first|with_reducible exact h _|with_reducible exact hv _|walk_at "m1")
end
end
noncomputable section
open PySem PySem.W
noncomputable abbrev kP:List Int:=[0,1,-1,3,-7,2147483648,4611686018427387904,9223372036854775807,-9223372036854775808]
noncomputable abbrev IM:List String:=["add","sub","mul","div","rem","neg"]
noncomputable abbrev uZ:List String:=["eq","ne","lt","le","gt","ge"]
noncomputable abbrev oX:List String:=["","a","ab","b"]
noncomputable abbrev HU:List String:=["not","and","or","concat","string_count","string_empty","is_nil"]
noncomputable def two:PH→Option (PO×PO)
 | []=>none|x::r=>match r with
  | []=>none|y::_=>some (x,y)
def Oy(r:cO):Option Unit:=(EU (WV r)).bind fun b=>og b ()
def fin(o:Out (cO×aW)):Option (PO×PO):=match o with
 | .ok r H=>(Oy r.1).bind fun _=>two H
 |_=>none
theorem aAO{H:PH}{x y:PO}(h:two H=some (x,y)): ∃J,H=x::y::J:=by
 cases H with
 |nil=>exact nomatch h|cons a r=>cases r with
  |nil=>exact nomatch h|cons b r=>injection h with h;injection h with h1 h2;exact⟨r,by rw[h1,h2]⟩
theorem vn{r:cO}{u:Unit}(h:Oy r=some u):r= .ret (.bool true):=by
 cases r with
 |next=>exact nomatch h|ret v=>induction v using PV.casesOn with
  |bool b=>cases b with
   |true=>rfl|false=>exact nomatch h
  |_=>exact nomatch h
theorem KR{o:Out (cO×aW)}{x y:PO}(h:fin o=some (x,y)): ∃fr J,o= .ok (.ret (.bool true),fr) (x::y::J):=by
 cases o with
 |ok r H=>
  obtain⟨f,fr⟩:=r;exact cY h fun u e1 h=>(aAO h).elim fun J e=>⟨fr,J,by rw[e,show f=_ from vn e1]⟩
 |exc c d H=>exact nomatch h|fail=>exact nomatch h
noncomputable def qT{α β:Type}(l:List α)(e:List β):List (α×β×β):=l.flatMap fun a=>e.flatMap fun b=>e.map fun c=>(a,b,c)
theorem HD{α β:Type}{l:List α}{e:List β}{a:α}{b c:β}(h1:a∈l)(h2:b∈e)(h3:c∈e):(a,b,c)∈qT l e:=Ut.mpr ⟨a,h1,Ut.mpr ⟨b,h2,lN h3⟩⟩
noncomputable def pU(f:Int)(a b:PV)(i j:Nat):aW:=[some (.ref 1),some (.int f),some a,some b,some (.ref i),some (.ref j),none,none,none,none,none,none,none,none,none,none]
def CA(X Y:PO)(op:String)(l:List String)(J:PH):PH:=X::Y:: .cell (some (sv op)):: .cell none:: .list (kP.map .int):: .list (kP.map .int):: .list (l.map sv)::J
def Gu(op:String)(a b:Int)(x y:String):aW:=[some (.ref 1),some (sv op),some (.int a),some (.int b),some (sv x),some (sv y),none,none,none,none]
def Im(X Y:PO):PH:=[X,Y,.cell none,.cell none,.list (kP.map .int),.list (kP.map .int),.list (HU.map sv),.list (oX.map sv),.list (oX.map sv)]
theorem D6(m:Nat)(X Y:PO):(qT IM kP).map (fun c=>fin (Qc (aG P0 (m+6)) (pU 0 (.int c.2.1) (.int c.2.2) 2 3) (CA X Y c.1 IM [])))=(qT IM kP).map fun _=>some (X,Y):=by kernel_rfl!
theorem D7(m:Nat)(X Y:PO):(qT uZ kP).map (fun c=>fin (WI (aG P0 (m+6)) (pU 1 (.int c.2.1) (.int c.2.2) 2 3) (CA X Y c.1 uZ [])))=(qT uZ kP).map fun _=>some (X,Y):=by kernel_rfl!
theorem D8(m:Nat)(X Y:PO):(qT uZ oX).map (fun c=>fin (WI (aG P0 (m+6)) (pU 1 (sv c.2.1) (sv c.2.2) 2 3) (CA X Y c.1 uZ [.list (oX.map sv),.list (oX.map sv)])))=(qT uZ oX).map fun _=>some (X,Y):=by kernel_rfl!
theorem D9(m:Nat)(X Y:PO):(qT (qT HU [(0:Int),1]) oX).map (fun c=>fin (Nt (aG P0 (m+5)) (Gu c.1.1 c.1.2.1 c.1.2.2 c.2.1 c.2.2) (Im X Y)))=(qT (qT HU [(0:Int),1]) oX).map fun _=>some (X,Y):=by kernel_rfl!
end
noncomputable section
open PySem
local macro_rules | `(tactic|walk_at $s:str)=>match wm s.getString with| .missing=>OT|x=>pure x
section
set_option genInjectivity true
abbrev eU(fl:Nat)(st:Int)(s:PV):List (Nat×PV):=[(1,sv "buffer"),(2,sv ""),(3,.ref fl),(4,.int st),(5,.int 0),(6,.int 0),(7,s)]
noncomputable abbrev dA(last:Int):PO:= .ns [(8,.ref 6),(9,.int last),(10,.ref 7)]
structure Hp(H:PH)(last:Int)(es:cA):Prop where
 i:H[5]?=some (.inst 375 4)
 n:H[4]?=some (dA last)
 d:H[6]?=some (.dict es false)
 k: ∀j,cZ es (.int j)=true
 s:decide (es.length<aJ)=true
structure Th(H:PH)(es:cA)(b:Int)(ia na fl:Nat)(st:Int)(s:PV):Prop where
 g:bZ es (.int b)=some (.ref ia)
 i:H[ia]?=some (.inst 230 na)
 n:H[na]?=some (.ns (eU fl st s))
variable{m n:Nat}{H J:PH}{last:Int}{es:cA}{b:Int}{ia na fl:Nat}{st:Int}{s:PV}
theorem Hp.app(h:Hp H last es):Hp (H++J) last es:=⟨bS h.i,bS h.n,bS h.d,h.k,h.s⟩
theorem Th.app(h:Th H es b ia na fl st s):Th (H++J) es b ia na fl st s:=⟨h.g,bS h.i,bS h.n⟩
theorem Th.MJ(p:Hp H last es)(h:Th H es b ia na fl st s):na≠4:=fT h.n p.n (by intro e;injection e with e;injection e with e e2;injection e with e e3;exact absurd e (by decide))
theorem Hp.set(p:Hp H last es)(h:Th H es b ia na fl st s){o:PO}:Hp (H.set na o) last es:=
 ⟨eQ p.i (fT h.n p.i (by simp)),eQ p.n (h.MJ p),eQ p.d (fT h.n p.d (by simp)),p.k,p.s⟩
theorem Th.set(h:Th H es b ia na fl st s){sO:Nat}{zW:Int}{s':PV}:Th (H.set na (.ns (eU sO zW s'))) es b ia na sO zW s':=⟨h.g,eQ h.i (fT h.n h.i (by simp)),qC h.n⟩
theorem Dr{x:Int}(hn:H.length=n):aG P0 (m+1) (.aE (.ref 88)) [.int x] H= .ok (.ref n) (H++[.list [],.list []]):=by
 refine start ?_;apply cP (B:=yW) rfl rfl hn rfl;unfold yW;dsimp only[KQ];walk_at "nrm"
 repeat walk_at "m1"
theorem Cu(b:Int)(H:PH):dE .NotEq (bH b) (.tup []) H= .ok true H:=by kernel_rfl!
theorem RU(hn:H.length=n):aG P0 (m+2) (.aE (.ref 88)) [bH b] H= .ok (.ref n) (H++[.list [.tup [sv "strong",.int b]],.list []]):=by
 refine start ?_;apply cP (B:=yW) rfl rfl hn rfl;unfold yW;dsimp only[KQ];walk_at "nrm"
 repeat(first|with_reducible exact Cu _ _|walk_at "m1")
theorem sy(y b:Int)(H:PH):aG P0 (m+1) (.aE (.ref 81)) [agg [.int y,bH b]] H= .ok (.tup [.int y,bH b]) H:=by kernel_rfl!
theorem cw(y b:Int)(H:PH):dE .NotEq (agg [.int y,bH b]) (.tup []) H= .ok true H:=by kernel_rfl!
theorem vq(x y:PV)(H:PH):IB (.tup [x,y]) H= .ok (.tup [y,x]) H:=by kernel_rfl!
theorem G9{y:Int}(hn:H.length=n):aG P0 (m+2) (.aE (.ref 88)) [agg [.int y,bH b]] H= .ok (.ref n) (H++[.list [.tup [sv "strong",.int b]],.list []]):=by
 refine start ?_;apply cP (B:=yW) rfl rfl hn rfl;unfold yW;dsimp only[KQ];walk_at "nrm"
 repeat(first|with_reducible exact cw _ _ _|((with_reducible change dE kI _ (PV.tup []) _=_);exact Cu _ _)|with_reducible exact sy _ _ _|with_reducible exact vq _ _ _|walk_at "m1")
theorem xT(p:Hp H last es)(t:Th H es b ia na fl st (sv "live")):aG P0 (m+1) (.aE (.ref 262)) [.ref 5,.int b] H= .ok (.ref ia) H:=by
 obtain⟨n,hn⟩: ∃n,H.length=n:=⟨_,rfl⟩;have⟨p1,p2,p3,p4,_⟩:=p;have⟨t1,t2,t3⟩:=t;have p4:=p4 b;refine start ?_;apply cP (B:=QK) rfl rfl hn rfl;unfold QK;dsimp only[Fq];walk_at "nrm"
 repeat walk_at "m1"
end
section
variable{m n:Nat}{H J:PH}{last:Int}{es:cA}{b:Int}{ia na fl:Nat}{st:Int}{s:PV}
theorem vo(p:Hp H last es)(t:Th H es b ia na fl st (sv "live")):aG P0 (m+2) (.aE (.ref 269)) [.ref 5,.int b] H= .ok .none (H.set na (.ns (eU fl (st+1) (sv "live")))):=by
 obtain⟨n,hn⟩: ∃n,H.length=n:=⟨_,rfl⟩;have⟨p1,p2,p3,_,_⟩:=p;have⟨_,t2,t3⟩:=t;refine start ?_;apply cP (B:=QL) rfl rfl hn rfl;unfold QL;dsimp only[Fs];walk_at "nrm"
 repeat(first|with_reducible exact xT p.app t.app|walk_at "m1")
theorem pS(p:Hp H last es)(t:Th H es b ia na fl st (sv "live")):aG P0 (m+2) (.aE (.ref 360)) [.ref 5,.int b] H= .ok (.ref fl) H:=by
 obtain⟨n,hn⟩: ∃n,H.length=n:=⟨_,rfl⟩;have⟨p1,p2,p3,_,_⟩:=p;have⟨_,t2,t3⟩:=t;refine start ?_;apply cP (B:=QQ) rfl rfl hn rfl;unfold QQ;dsimp only[Fx];walk_at "nrm"
 repeat(first|with_reducible exact xT p.app t.app|walk_at "m1")
theorem KG{x:Int}:aG P0 (m+2) (.aE (.ref 311)) [.ref 5,.int x] H= .ok (.int x) (H++[.list [],.list []]):=by
 obtain⟨n,hn⟩: ∃n,H.length=n:=⟨_,rfl⟩;refine start ?_;apply cP (B:=FB) rfl rfl hn rfl;unfold FB;dsimp only[ST];walk_at "nrm"
 repeat(first|((with_reducible apply cl);(focus((with_reducible apply Dr);walk_at "ln"));(focus walk_at "st"))|walk_at "m1")
theorem G5(p:Hp H last es)(t:Th H es b ia na fl st (sv "live")):aG P0 (m+3) (.aE (.ref 311)) [.ref 5,bH b] H= .ok (bH b) (H.set na (.ns (eU fl (st+1) (sv "live")))++[.list [.tup [sv "strong",.int b]],.list []]):=by
 obtain⟨n,hn⟩: ∃n,H.length=n:=⟨_,rfl⟩;have⟨p1,p2,p3,_,_⟩:=p;have⟨_,t2,t3⟩:=t;refine start ?_;apply cP (B:=FB) rfl rfl hn rfl;unfold FB;dsimp only[ST];walk_at "nrm"
 repeat(first|((with_reducible apply cl);(focus((with_reducible apply RU);walk_at "ln"));(focus walk_at "st"))|((with_reducible apply cl);(focus(with_reducible exact vo p.app t.app));(focus walk_at "st"))|walk_at "m1")
theorem cu{q d w:Nat}(h1:H[q]?=some (.inst 230 d))(h2:H[d]?=some (.ns [])):aG P0 (m+1) (.aE (.ref 227)) [.ref q,sv "buffer",sv "",.ref w] H= .ok .none (H.set d (.ns (eU w 1 (sv "live")))):=by
 obtain⟨n,hn⟩: ∃n,H.length=n:=⟨_,rfl⟩;have ne:d≠q:=fT h2 h1 (by simp);refine start ?_;apply cP (B:=QH) rfl rfl hn rfl;unfold QH;dsimp only[Fm];walk_at "nrm"
 repeat walk_at "m1"
theorem aAB{w q:Nat}(hn:H.length=n)(hq:n+1=q):aG P0 (m+2) (.aE (.ref 230)) [sv "buffer",sv "",.ref w] H= .ok (.ref q) (H++[.ns (eU w 1 (sv "live")),.inst 230 n]):=by
 subst hq;refine start ?_;refine C1 hn ?_;refine(cu (bG hn rfl) (bG hn rfl)).trans ?_;rw[eE eG hn];rfl
theorem VC{q:Nat}{l:List PV}(p:Hp H last es)(hq:H[q]?=some (.list l))(hl:decide (l.length≤aJ)=true)(hn:H.length=n):
  aG P0 (m+3) (.aE (.ref 255)) [.ref 5,sv "buffer",sv "",.ref q] H= .ok (.int (last+1)) ((H.set 4 (dA (last+1))).set 6 (.dict (bT es (.int (last+1)) (.ref (n+2))) false)++[.list l,.ns (eU n 1 (sv "live")),.inst 230 (n+1)]):=by
 have⟨p1,p2,p3,p4,p5⟩:=p;have p4:=p4 (last+1);have q4:4≠q:=fT p2 hq (by simp);refine start ?_;apply cP (B:=QJ) rfl rfl hn rfl;unfold QJ;dsimp only[Fp];walk_at "nrm"
 repeat(first|((with_reducible apply cl);(focus((with_reducible apply aAB);(focus walk_at "ln");(focus exact Au _ _ _)));(focus walk_at "st"))|walk_at "m1")
end
section
variable{m n:Nat}{H J K:PH}{last:Int}{es:cA}{b:Int}{ia na fl q:Nat}{st:Int}{s:PV}{items:List Int}
theorem K3{a0 a1 a2:Option PV}{v:Int}(hq:H[q]?=some (.list [])):KM (aG P0 (m+1)) [a0,a1,a2,some (.ref q),some (.int v),none,none] H= .ok (.next,[a0,a1,a2,some (.ref q),some (.int v),none,none]) (H++[.list [],.list []]):=by
 obtain⟨n,hn⟩: ∃n,H.length=n:=⟨_,rfl⟩;have hl:n≠q:=by have:=hU hq;exact fun fK=>dM 4645016795893389000943075350 rfl this hn fK
 refine start ?_;unfold KM
 repeat(first
  |((with_reducible apply cl);(focus((with_reducible apply Dr);walk_at "ln"));(focus walk_at "st"))|((with_reducible apply Nd);(focus walk_at "lk");(focus walk_at "lk");(focus exact hl);(focus exact rfl);(focus exact set_same (bS hq)))|walk_at "m1")
theorem Ei{a0 a1 a2:Option PV}: ∀(k i f:Nat) (H:PH) (x:Option PV),H[fl]?=some (.list (items.map .int))→H[q]?=some (.list [])→i+k=items.length→k<f→
  ∃x',gI (.live fl) (jJ (.loc 4)) (KM (aG P0 (m+1))) f i [a0,a1,a2,some (.ref q),x,none,none] H= .ok (.next,[a0,a1,a2,some (.ref q),x',none,none]) (H++cU (2*k) (.list []))
 |k,i,0,H,x,h1,h2,e,l=>by exact jE (aS 4222129516052502 rfl l)
 |0,i,f+1,H,x,h1,h2,e,l=>⟨x,by
   rw[show 2*0=0 from rfl,Uv,eL];exact zA (o_at h1) (by rw[fW,jN (by exact aX 270356735034802320 rfl e)];rfl)⟩
 |k+1,i,f+1,H,x,h1,h2,e,l=>by
  obtain⟨v,hv⟩: ∃v,items[i]?=some v:=⟨items[i]'(dM 278000487534013071505 rfl e),fZ _⟩;obtain⟨x',h⟩:=Ei (a0:=a0) (a1:=a1) (a2:=a2) k (i+1) f (H++[.list [],.list []]) (some (.int v)) (bS h1) (bS h2) (fE (dM 1170854186357343937714202896 rfl e) (dM 1161182853659469585528946832 rfl e)) (aX 1107967982703061647505 rfl l);refine⟨x',sN (o_at h1) (by rw[fW,hv];rfl) rfl (K3 h2) (nU ?_)⟩;rw[h,cM,show 2*(k+1)=2*k+1+1 from rfl,AZ,AZ];rfl
theorem Zt(p:Hp H last es)(t:Th H es b ia na fl st (sv "live"))(hn:H.length=n):aG P0 (m+2) (.aE (.ref 304)) [.ref 5,.int b] H= .ok .none (H.set na (.ns (eU n st (sv "gone")))++[.list []]):=by
 have⟨p1,p2,p3,_,_⟩:=p;have⟨_,t2,t3⟩:=t;have ne:na≠ia:=fT t3 t2 (by simp);refine start ?_;apply cP (B:=QO) rfl rfl hn rfl;unfold QO;dsimp only[Fv];walk_at "nrm"
 repeat(first|with_reducible exact xT p.app t.app|walk_at "m1")
theorem K5(p:Hp H last es)(t:Th H es b ia na fl st (sv "live"))(h1:2≤st)(hn:H.length=n):aG P0 (m+2) (.aE (.ref 290)) [.ref 5,.int b] H= .ok (.ref n) (H.set na (.ns (eU fl (st-1) (sv "live")))++[.list []]):=by
 have⟨p1,p2,p3,_,_⟩:=p;have⟨_,t2,t3⟩:=t;have ne:na≠ia:=fT t3 t2 (by simp);have h2:decide (st<1)=false:=iW (jH 1056098299805852 rfl h1);have h3:decide (0<st-1)=true:=cC (jH 4325778636005048345 rfl h1);refine start ?_;apply cP (B:=FA) rfl rfl hn rfl;unfold FA;dsimp only[SS];walk_at "nrm"
 repeat(first|with_reducible exact xT p.app t.app|walk_at "m1")
theorem K6(p:Hp H last es)(t:Th H es b ia na fl 1 (sv "live"))(hi:H[fl]?=some (.list (items.map .int)))(hl:items.length≤aJ)(hn:H.length=n):
  aG P0 (m+3) (.aE (.ref 290)) [.ref 5,.int b] H= .ok (.ref n) (H.set na (.ns (eU (n+(2*items.length+1)) 0 (sv "gone")))++([.list []]++(cU (2*items.length) (.list [])++[.list []]))):=by
 have⟨p1,p2,p3,_,_⟩:=p;have⟨_,t2,t3⟩:=t;have ne:na≠ia:=fT t3 t2 (by simp);have nf:na≠fl:=fT t3 hi (by simp);have n5:na≠5:=fT t3 p1 (by simp);have n4:na≠4:=t.MJ p;have hk:(H.set na (.ns (eU fl 0 (sv "live")))).length=n:=gM hn;obtain⟨x',hx⟩:=Ei (m:=m+1) (a0:=some (.ref 5)) (a1:=some (.int b)) (a2:=some (.ref ia)) items.length 0 9000 (H.set na (.ns (eU fl 0 (sv "live")))++[.list []]) none (bS (eQ hi nf)) (bG (i:=0) hk rfl) (fE (aS 128916652304 rfl) (aS 128916160656 rfl)) (by simp[aJ]at hl;exact aS 71427231138001780881 rfl hl);rw[cM]at hx;refine start ?_;apply cP (B:=FA) rfl rfl hn rfl;unfold FA;dsimp only[SS];walk_at "nrm"
 repeat(first
  |with_reducible exact xT p.app t.app|((with_reducible change gI _ _ _ _ _ _ _=_);exact hx)|((with_reducible apply cl);(focus((with_reducible apply Zt);(focus exact(p.set t).app);(focus exact t.set.app);(focus walk_at "ln")));(focus walk_at "st"))|walk_at "m1")
 rw[AY];rfl
end
section
variable{m n:Nat}{H J K H2:PH}{last:Int}{es:cA}{b:Int}{ia na fl q r:Nat}{st:Int}{s:PV}{items:List Int}
noncomputable def oZ(H H2:PH)(na fl:Nat)(st:Int):Prop:=(2≤st∧∃J,H2=H.set na (.ns (eU fl (st-1) (sv "live")))++J)∨
 (st=1∧∃J sO,H2=H.set na (.ns (eU sO 0 (sv "gone")))++J∧H.length≤sO∧H2[sO]?=some (.list []))
theorem oZ.app(h:oZ H H2 na fl st):oZ H (H2++J) na fl st:=by
 rcases h with⟨a,J1,e⟩|⟨a,J1,f,e,l,g⟩
 ·exact .inl ⟨a,J1++J,by rw[e,cM]⟩
 ·exact .inr ⟨a,J1++J,f,by rw[e,cM],l,bS g⟩
theorem oZ.pre(h:oZ (H++J) H2 na fl st)(l:na<H.length):oZ H H2 na fl st:=by
 rcases h with⟨a,J1,e⟩|⟨a,J1,f,e,g,w⟩
 ·exact .inl ⟨a,J++J1,by rw[e,lI _ _ l,cM]⟩
 ·exact .inr ⟨a,J++J1,f,by rw[e,lI _ _ l,cM],by rw[eO]at g;exact dM 67875329401831568 rfl g,w⟩
theorem oZ.keep(h:oZ H H2 na fl st){a:Nat}{o:PO}(g:H[a]?=some o)(ne:na≠a):H2[a]?=some o:=by
 rcases h with⟨_,J1,e⟩|⟨_,J1,f,e,_,_⟩<;>rw[e]<;>exact bS (eQ g ne)
theorem K7(p:Hp H last es)(t:Th H es b ia na fl st (sv "live"))(h1:1≤st)(hi:H[fl]?=some (.list (items.map .int)))(hl:items.length≤aJ):
  ∃H2,aG P0 (m+3) (.aE (.ref 290)) [.ref 5,.int b] H= .ok (.ref H.length) H2∧oZ H H2 na fl st∧H2[H.length]?=some (.list []):=by
 by_cases h:st=1
 ·subst h
  refine⟨_,K6 p t hi hl rfl,.inr ⟨rfl,_,_,rfl,?_,?_⟩,bG (i:=0) (gM rfl) rfl⟩
  ·exact aX 67624984213880976 rfl
  ·refine bG (gM rfl) ?_
   show(cU (2*items.length) (PO.list [])++[PO.list []])[2*items.length]?=_;rw[yI (by rw[AY];exact fQ _),AY,yQ];rfl
 ·exact⟨_,K5 p t (NR h1 h) rfl,.inl ⟨NR h1 h,_,rfl⟩,bG (i:=0) (gM rfl) rfl⟩
theorem K4(p1:H[5]?=some (.inst 375 4))(p2:H[4]?=some (dA last))(hq:H[q]?=some (.list [.tup [sv "strong",.int b]]))(hn:H.length=n)
  (hd:aG P0 (m+3) (.aE (.ref 290)) [.ref 5,.int b] (H++[.list [.tup [sv "strong",.int b]],.list [.tup [sv "strong",.int b]]].set 1 (.list []))= .ok (.ref r) H2) (hr:H2[r]?=some (.list [])) (hw:H2[n+1]?=some (.list [])) (ll:n+1<H2.length):
  aG P0 (m+4) (.aE (.ref 283)) [.ref 5,.ref q] H= .ok .none (H2++[.list []]):=by
 obtain⟨n2,dQ⟩: ∃n2,H2.length=n2:=⟨_,rfl⟩;have ne:n2+([]:PH).length≠n+1:=by rw[EE];exact fun fK=>dM 319347431646206305287241112018642534422 rfl ll dQ fK
 rw[←eL H2]at hd;refine start ?_;apply cP (B:=QN) rfl rfl hn rfl;unfold QN;dsimp only[Fu];walk_at "nrm"
 repeat(first
  |((with_reducible change aG _ _ (PV.aE (aR 290)) _ _=_);exact hd)|((with_reducible apply Nd);(focus exact bS hw);(focus walk_at "lk");(focus exact ne);(focus exact rfl);(focus exact set_same (bS hw)))|walk_at "m1")
theorem Ej(p:Hp H last es)(t:Th H es b ia na fl st (sv "live"))(h1:1≤st)(hi:H[fl]?=some (.list (items.map .int)))(hl:items.length≤aJ)(hq:H[q]?=some (.list [.tup [sv "strong",.int b]])):
  ∃H2,aG P0 (m+4) (.aE (.ref 283)) [.ref 5,.ref q] H= .ok .none H2∧oZ H H2 na fl st:=by
 obtain⟨H2,h,d,g⟩:=K7 (m:=m) (H:=H++[.list [.tup [sv "strong",.int b]],.list []]) p.app t.app h1 (bS hi) hl;have hw:=d.keep (bG (n:=H.length) (i:=1) rfl rfl) (by have:=hU t.n;exact fun fK=>aX 9076473706615957069234198 rfl this fK);have ll:=hU hw;exact⟨_,K4 p.i p.n hq rfl h g hw ll,(d.pre (hU t.n)).app⟩
theorem vk(p:Hp H last es)(t:Th H es b ia na fl st (sv "live"))(h1:1≤st)(hi:H[fl]?=some (.list (items.map .int)))(hl:items.length≤aJ):
  ∃H2,aG P0 (m+5) (.aE (.ref 276)) [.ref 5,.int b] H= .ok .none H2∧oZ H H2 na fl st:=by
 obtain⟨H2,h,d⟩:=Ej (m:=m) (H:=H++[.list [.tup [sv "strong",.int b]]]) (q:=H.length+0) p.app t.app h1 (bS hi) hl (bG rfl rfl);refine⟨H2,?_,d.pre (hU t.n)⟩;obtain⟨n,hn⟩: ∃n,H.length=n:=⟨_,rfl⟩;have⟨p1,p2,_,_,_⟩:=p;rw[hn]at h;refine start ?_;apply cP (B:=QM) rfl rfl hn rfl;unfold QM;dsimp only[Ft];walk_at "nrm"
 repeat(first
  |((with_reducible change aG _ _ (PV.aE (aR 283)) _ _=_);exact h)|walk_at "m1")
theorem J3{v:PV}(p:Hp H last es)(t:Th H es b ia na fl st (sv "live"))(h1:1≤st)(hi:H[fl]?=some (.list (items.map .int)))(hl:items.length≤aJ)
  (hc: ∀{n:Nat} {H:PH},H.length=n→aG P0 (m+4) (.aE (.ref 88)) [v] H= .ok (.ref n) (H++[.list [.tup [sv "strong",.int b]],.list []])):
  ∃H2,aG P0 (m+5) (.aE (.ref 318)) [.ref 5,v] H= .ok .none H2∧oZ H H2 na fl st:=by
 obtain⟨H2,h,d⟩:=Ej (m:=m) (H:=H++[.list [.tup [sv "strong",.int b]],.list []]) (q:=H.length+0) p.app t.app h1 (bS hi) hl (bG rfl rfl);refine⟨H2,?_,d.pre (hU t.n)⟩;obtain⟨n,hn⟩: ∃n,H.length=n:=⟨_,rfl⟩;have⟨p1,p2,_,_,_⟩:=p;rw[hn]at h;refine start ?_;apply cP (B:=QP) rfl rfl hn rfl;unfold QP;dsimp only[Fw];walk_at "nrm"
 repeat(first
  |((with_reducible change aG _ _ (PV.aE (aR 283)) _ _=_);exact h)|((with_reducible apply cl);(focus((with_reducible apply hc);walk_at "ln"));(focus walk_at "st"))|walk_at "m1")
end
section
variable{m n:Nat}{H J K H2:PH}{last:Int}{es:cA}{b:Int}{ia na fl q r c:Nat}{st:Int}{s:PV}{items:List Int}
def RV:D:=fC 375 311 (cL 2) (aC (aD 1) aH)
theorem F6{v:Int}(p1:H[5]?=some (.inst 375 4))(p2:H[4]?=some (dA last))(hc:H[c]?=some (.cell (some (.ref 5)))):RV (aG P0 (m+2)) [none,some (.int v),some (.ref c)] H= .ok (.int v) (H++[.list [],.list []]):=by
 unfold RV
 repeat(first
  |with_reducible exact KG|walk_at "m1")
theorem RR{L LN:Nat}(sk:True): ∀(k i f:Nat) (acc:List PV) (H:PH),H[fl]?=some (.list (items.map .int))→H[5]?=some (.inst 375 4)→H[4]?=some (dA last)→H[c]?=some (.cell (some (.ref 5)))→
  i+k=items.length→k<f→acc.length+k≤aJ→
  gA (.live fl) (fun v H=>RV (aG P0 (m+2)) [none,some v,some (.ref c)] H) f i acc H= .ok (acc++(items.drop i).map .int) (H++cU (2*k) (.list []))
 |k,i,0,acc,H,h1,h2,h3,h4,e,l,g=>by exact jE (aS 4222129516052502 rfl l)
 |0,i,f+1,acc,H,h1,h2,h3,h4,e,l,g=>by
  have z:gR (.live fl) i H=some none:=by rw[o_at h1,fW,jN (by exact aX 270356735034802320 rfl e)];rfl
  rw[show 2*0=0 from rfl,Uv,eL,OV (by exact aX 270356735034802320 rfl e),PE,eL,gA,z]
 |k+1,i,f+1,acc,H,h1,h2,h3,h4,e,l,g=>by
  have hi:i<items.length:=by exact dM 278000487534013071505 rfl e
  have z:gR (.live fl) i H=some (some (.int items[i])):=by rw[o_at h1,fW,fZ hi];rfl
  have y:=RR (L:=L) (LN:=LN) sk k (i+1) f (acc++[.int items[i]]) (H++[.list [],.list []]) (bS h1) (bS h2) (bS h3) (bS h4) (fE (dM 1170854186357343937714202896 rfl e) (dM 1161182853659469585528946832 rfl e)) (aX 1107967982703061647505 rfl l) (by rw[eO];simp only[AX,EE];exact aX 5146874442199420844330348782567827728 rfl g);rw[gA,z];simp only[aV (show acc.length<aJ by exact aX 299587522295735592740257937 rfl g)];rw[F6 h2 h3 h4,Out.eV,y,AQ hi,dU,cM,cM,show 2*(k+1)=2*k+1+1 from rfl,AZ,AZ];rfl
theorem Ea{k j:PK}{v:PV}(ne:k≠j): ∀(es:cA),bZ (bT es k v) j=bZ es j
 | []=>by
  have h':(j==k)=false:=dC.mpr ne.symm;simp only[bZ,bT,gZ,h']
 |(a,u)::r=>by
  have:=Ea (v:=v) ne r;unfold bT;split
  ·next h=>
   subst h;have h':(j==a)=false:=dC.mpr ne.symm;simp only[bZ,gZ,h']
  ·simp only[bZ,gZ]at this⊢;rw[this]
theorem Dz{k:PK}{v:PV}: ∀(es:cA),bZ (bT es k v) k=some v
 | []=>by simp only[bZ,bT,gZ,fG]
 |(a,u)::r=>by
  have:=Dz (k:=k) (v:=v) r;unfold bT;split
  ·next h=>subst h;simp only[bZ,gZ,fG]
  ·next h=>
   have h':(k==a)=false:=dC.mpr (gH h);simp only[bZ,gZ,h']at this⊢;exact this
theorem RZ{k j:PK}{v:PV}(h2:j.like k=true): ∀{es:cA},cZ es j=true→cZ (bT es k v) j=true
 | [],_=>by simp[cZ,bT,h2]
 |(a,u)::r,h=>by
  have h':j.like a=true∧cZ r j=true:=by simpa[cZ]using h
  unfold bT;split
  ·simpa[cZ]using h
  ·have:=RZ (v:=v) h2 h'.2
   simp only[cZ,List.all_cons,mW]at this⊢;exact⟨h'.1,this⟩
theorem Ek{k:PK}{v:PV}: ∀(es:cA),(bT es k v).length≤es.length+1
 | []=>by simp[bT]
 |(a,u)::r=>by
  have:=Ek (k:=k) (v:=v) r;unfold bT;split
  ·simp
  ·simp;exact aX 1107967981738404249744 rfl this
theorem Hp.made(p:Hp H last es)(s2:es.length+1<aJ):Hp ((H.set 4 (dA (last+1))).set 6 (.dict (bT es (.int (last+1)) (.ref r)) false)) (last+1) (bT es (.int (last+1)) (.ref r)):=
 ⟨eQ (eQ p.i (by decide)) (by decide),eQ (qC p.n) (by decide),qC (eQ p.d (by decide)),fun j=>RZ rfl (p.k j),cC (by have:=Ek (k:=PK.int (last+1)) (v:= .ref r) es;exact aX 2513122286230476489172140404310161 rfl this s2)⟩
theorem Th.made(p:Hp H last es)(t:Th H es b ia na fl st s)(hb:b≤last):Th ((H.set 4 (dA (last+1))).set 6 (.dict (bT es (.int (last+1)) (.ref r)) false)) (bT es (.int (last+1)) (.ref r)) b ia na fl st s:=
 ⟨by rw[Ea (by intro e;injection e;exact uG 9072004992816369385865238 rfl i_eq hb)];exact t.g,eQ (eQ t.i (fT p.n t.i (by simp))) (fT p.d t.i (by simp)),eQ (eQ t.n (gH (t.MJ p))) (fT p.d t.n (by simp))⟩
theorem sf(p:Hp H last es)(t:Th H es b ia na fl 1 (sv "live")):aG P0 (m+7) (.aE (.ref 365)) [.ref 5,.int b] H= .ok (.int b) (H++[.cell (some (.ref 5))]):=by
 obtain⟨n,hn⟩: ∃n,H.length=n:=⟨_,rfl⟩;have⟨p1,p2,p3,_,_⟩:=p;have⟨_,t2,t3⟩:=t;refine start ?_;apply cP (B:=FC) rfl rfl hn (dP (fU rfl (bG hn rfl) (eE eG hn)) rfl);unfold FC;dsimp only[SU];walk_at "nrm"
 repeat(first
  |with_reducible exact xT p.app t.app|walk_at "m1")
theorem sd(p:Hp H last es)(t:Th H es b ia na fl st (sv "live"))(h1:2≤st)(hb:b≤last)(hi:H[fl]?=some (.list (items.map .int)))(hl:items.length≤aJ)(s2:es.length+1<aJ):
  ∃J q,H.length≤q∧aG P0 (m+7) (.aE (.ref 365)) [.ref 5,.int b] H= .ok (.int (last+1)) (((H.set 4 (dA (last+1))).set 6 (.dict (bT es (.int (last+1)) (.ref (q+2))) false)).set na (.ns (eU fl (st-1) (sv "live")))++J)∧
   (((H.set 4 (dA (last+1))).set 6 (.dict (bT es (.int (last+1)) (.ref (q+2))) false)).set na (.ns (eU fl (st-1) (sv "live")))++J)[q]?=some (.list (items.map .int))∧
   (((H.set 4 (dA (last+1))).set 6 (.dict (bT es (.int (last+1)) (.ref (q+2))) false)).set na (.ns (eU fl (st-1) (sv "live")))++J)[q+1]?=some (.ns (eU q 1 (sv "live")))∧
   (((H.set 4 (dA (last+1))).set 6 (.dict (bT es (.int (last+1)) (.ref (q+2))) false)).set na (.ns (eU fl (st-1) (sv "live")))++J)[q+2]?=some (.inst 230 (q+1)):=by
 refine bQ fun G_ aQ=>?_;obtain⟨n,hn⟩: ∃n,H.length=n:=⟨_,rfl⟩;have hx:=RR (m:=m+4) (c:=n+0) (L:=0) (LN:=0) trivial items.length 0 9000 [] (H++[.cell (some (.ref 5))]) (bS hi) (bS p.i) (bS p.n) (bG hn rfl) (fE (aS 128916652304 rfl) (aS 128916160656 rfl)) (by simp[aJ]at hl;exact aS 71427231138001780881 rfl hl) (by simpa using hl);have hc:(H++([.cell (some (.ref 5))]++cU (2*items.length) (PO.list [])))[n+0]?=some (.cell (some (.ref 5))):=bG hn rfl;rw[cM]at hx;have p':Hp (H++([.cell (some (.ref 5))]++cU (2*items.length) (PO.list []))) last es:=p.app;have t':Th (H++([.cell (some (.ref 5))]++cU (2*items.length) (PO.list []))) es b ia na fl st (sv "live"):=t.app;have BW:(H++([.cell (some (.ref 5))]++cU (2*items.length) (PO.list [])))[fl]?=some (.list (items.map .int)):=bS hi;obtain⟨K1,hK⟩: ∃K1,K1=H++([.cell (some (.ref 5))]++cU (2*items.length) (PO.list [])):=⟨_,rfl⟩;rw[←hK]at hx hc p' t' BW;rw[←eL K1]at hx;obtain⟨n1,gV⟩: ∃n,K1.length=n:=⟨_,rfl⟩;have zF:H.length≤n1:=by rw[←gV,hK,eO];exact aX 32363413648 rfl
 have e: ∀A B C,((K1.set 4 A).set 6 B).set na C=((H.set 4 A).set 6 B).set na C++([.cell (some (.ref 5))]++cU (2*items.length) (PO.list [])):=by
  intro A B C;rw[hK,lI _ _ (hU p.n),lI _ _ (by rw[dS];exact hU p.d),lI _ _ (by rw[dS,dS];exact hU t.n)]
 have hJ:decide ((items.map PV.int).length≤aJ)=true:=by rw[cR];exact cC hl
 have hm:=VC (m:=m+3) (H:=K1++[.list (items.map .int)]) (q:=n1+0) p'.app (bG gV rfl) hJ (n:=n1+1) (lW gV);rw[lI _ _ (hU p'.n),lI _ _ (by rw[dS];exact hU p'.d),cM]at hm;have q1:=p'.made (r:=n1+1+2) s2;have q2:=t'.made (r:=n1+1+2) p' hb;have q3:((K1.set 4 (dA (last+1))).set 6 (.dict (bT es (.int (last+1)) (.ref (n1+1+2))) false))[fl]?=some (.list (items.map .int)):=eQ (eQ BW (fT p'.n BW (by simp))) (fT p'.d BW (by simp));obtain⟨H2,hr,d⟩:=vk (m:=m+1) (H:=((K1.set 4 (dA (last+1))).set 6 (.dict (bT es (.int (last+1)) (.ref (n1+1+2))) false))++([.list (items.map .int)]++[.list (items.map .int),.ns (eU (n1+1) 1 (sv "live")),.inst 230 (n1+1+1)])) q1.app q2.app (jH 1056098299741208 rfl h1) (bS q3) hl;refine aQ ?_;rcases d with⟨_,J2,e2⟩|⟨e1,_⟩
 rotate_left
 ·exact jE (jH 35454685459084719685654 rfl h1 e1)
 rw[lI _ _ (hU q2.n),cM]at e2;have len:(((K1.set 4 (dA (last+1))).set 6 (.dict (bT es (.int (last+1)) (.ref (n1+1+2))) false)).set na (.ns (eU fl (st-1) (sv "live")))).length=n1:=gM (gM (gM gV));have main:aG P0 (m+7) (.aE (.ref 365)) [.ref 5,.int b] H= .ok (.int (last+1)) H2:=by
  have⟨p1,p2,p3,_,_⟩:=p;have⟨_,t2,t3⟩:=t;have⟨y1,y2,y3,_,_⟩:=p';have hs:(st==1)=false:=dC.mpr (fun fK=>jH 35454685459084719685654 rfl h1 fK);have m5:6≠n+0:=fT y3 hc (by simp);have m4:4≠n+0:=fT y2 hc (by simp);refine start ?_;apply cP (B:=FC) rfl rfl hn (dP (fU rfl (bG hn rfl) (eE eG hn)) rfl);unfold FC;dsimp only[SU];walk_at "nrm"
  repeat(first
   |with_reducible exact xT p.app t.app|((with_reducible change gA _ _ _ _ _ _=_);exact hx)|((with_reducible change aG _ _ (PV.aE (aR 255)) _ _=_);exact hm)|((with_reducible change aG _ _ (PV.aE (aR 276)) _ _=_);exact hr)|walk_at "m1")
 refine⟨([.cell (some (.ref 5))]++cU (2*items.length) (PO.list []))++(([.list (items.map .int)]++[.list (items.map .int),.ns (eU (n1+1) 1 (sv "live")),.inst 230 (n1+1+1)])++J2),n1+1,by exact aX 271483852123439248 rfl zF,?_,?_,?_,?_⟩
 ·rw[main,e2,e,cM]
 all_goals rw[←cM,←e]
 ·exact bG (n:=n1) (i:=1) len rfl
 ·exact bG (n:=n1) (i:=2) len rfl
 ·exact bG (n:=n1) (i:=3) len rfl
end
section
variable{H J K H2:PH}{L L':List (Nat×PO)}{a:Nat}{o o':PO}
noncomputable def Own(L:List (Nat×PO))(H:PH):Prop:=(∀p∈L,H[p.1]?=some p.2)∧(L.map (·.1)).Nodup
theorem Own.get(h:Own L H)(m:(a,o)∈L):H[a]?=some o:=h.1 _ m
theorem Own.perm(h:Own L H)(p:L.Perm L'):Own L' H:=⟨fun x m=>h.1 x (p.symm.subset m),(p.map _).nodup_iff.mp h.2⟩
theorem Own.app(h:Own L H):Own L (H++J):=⟨fun x m=>bS (h.1 x m),h.2⟩
theorem Own.set(h:Own ((a,o)::L) H):Own ((a,o')::L) (H.set a o'):=by
 have n:=hA.mp h.2;refine⟨fun x m=>?_,h.2⟩;rcases dJ.mp m with rfl|m
 ·exact qC (h.1 _ (tU ..))
 ·exact eQ (h.1 x (tT _ m)) (fun e=>n.1 (dY.mpr ⟨x,m,e.symm⟩))
theorem Own.add(h:Own L H)(g:H[a]?=some o)(f: ∀p∈L,p.1≠a):Own ((a,o)::L) H:=by
 refine⟨fun x m=>?_,hA.mpr ⟨fun m=>?_,h.2⟩⟩
 ·rcases dJ.mp m with rfl|m
  ·exact g
  ·exact h.1 x m
 ·obtain⟨p,q,e⟩:=dY.mp m;exact f p q e
theorem Own.del{x:Nat×PO}(h:Own (x::L) H):Own L H:=⟨fun y m=>h.1 y (tT _ m),(hA.mp h.2).2⟩
theorem Own.lt(h:Own L H){p:Nat×PO}(m:p∈L):p.1<H.length:=hU (h.1 p m)
structure TH where
 ia:Nat
 na:Nat
 fl:Nat
 st:Int
 live:Bool
 items:List Int
def uU(b:Bool):PV:=match b with
 |true=>sv "live"|false=>sv "gone"
def TH.cells(t:TH):List (Nat×PO):=[(t.na,.ns (eU t.fl t.st (uU t.live))),(t.fl,.list (t.items.map .int)),(t.ia,.inst 230 t.na)]
noncomputable def eB:Int→List TH→cA
 |_,[]=>[]|i,t::r=>(.int i,.ref t.ia)::eB (i+1) r
structure RW where
 j:Int
 a:Nat
 items:List Int
noncomputable def RW.cell(r:RW):Nat×PO:=(r.a,.list (r.items.map .int))
structure Ad where
 R:Nat
 B:Nat
 O:Nat
 W:Nat
 N:Nat
 D:Nat
 nums:List Int
structure St where
 k:Nat
 th:List TH
 val:PV
 of:List (PK×Int)
 rows:List RW
 next:Int
 nat:cA
 hands:cA
noncomputable abbrev St.wk(s:St)(v:Nat):St:={s with k:=v}
noncomputable abbrev St.gE(s:St)(v:List TH):St:={s with th:=v}
noncomputable abbrev St.qL(s:St)(v:PV):St:={s with val:=v}
noncomputable abbrev St.kG(s:St)(v:List (PK×Int)):St:={s with of:=v}
noncomputable abbrev St.iA(s:St)(v:List RW):St:={s with rows:=v}
noncomputable abbrev St.tG(s:St)(v:Int):St:={s with next:=v}
noncomputable abbrev St.DO(s:St)(v:cA):St:={s with nat:=v}
noncomputable abbrev St.qK(s:St)(v:cA):St:={s with hands:=v}
noncomputable abbrev TH.iB(t:TH)(v:Int):TH:={t with st:=v}
noncomputable abbrev TH.fY(t:TH)(v:List Int):TH:={t with items:=v}
noncomputable abbrev TH.gone(t:TH)(f:Nat):TH:={t with st:=0,live:=false,items:=[],fl:=f}
noncomputable abbrev RW.fY(t:RW)(v:List Int):RW:={t with items:=v}
noncomputable def dF(of:List (PK×Int)):cA:=of.map fun e=>(e.1,.int e.2)
noncomputable def eS(rows:List RW):cA:=rows.map fun e=>(.int e.j,.ref e.a)
noncomputable def vB(s:String):PK:= .str (aA s)
noncomputable def mI(A:Ad)(next:Int):cA:=[(vB "of",.ref A.O),(vB "rows",.ref A.W),(vB "next",.int next)]
def cells(A:Ad)(F:List (Nat×PO))(s:St):List (Nat×PO):=
 [(4,dA s.th.length),(6,.dict (eB 1 s.th) false),(3,.list [.ref 2,.int s.k]),(2,.list (A.nums.map .int)),(5,.inst 375 4),(A.R,.list [s.val]),(A.B,.dict (mI A s.next) false),(A.O,.dict (dF s.of) false),
  (A.W,.dict (eS s.rows) false),(A.N,.dict s.nat false),(A.D,.dict s.hands false)]++(s.th.flatMap TH.cells++(s.rows.map RW.cell++F))
noncomputable def Rep(A:Ad)(F:List (Nat×PO))(s:St)(H:PH):Prop:=Own (cells A F s) H
theorem XS: ∀(th:List TH) (k:Int) (i:Nat) (t t':TH),th[i]?=some t→t'.ia=t.ia→eB k (th.set i t')=eB k th
 | [],_,_,_,_,h,_=>nomatch h|x::r,k,0,t,t',h,e=>by injection h with h;subst h;simp only[qP,eB,e]
 |x::r,k,i+1,t,t',h,e=>by simp only[qP,eB];rw[XS r (k+1) i t t' h e]
theorem XR: ∀(th:List TH) (k:Int) (i:Nat) (t:TH),th[i]?=some t→bZ (eB k th) (.int (k+i))=some (.ref t.ia)
 | [],_,_,_,h=>nomatch h|x::r,k,0,t,h=>by injection h with h;subst h;simp[eB,bZ]
 |x::r,k,i+1,t,h=>by
  have y:=XR r (k+1) i t h;have ne:(PK.int (k+(i+1:Nat))==PK.int k)=false:=dC.mpr (by intro e;injection e;exact jX 4448007237869399703574 rfl i_eq);simp only[eB,bZ,gZ,ne]at y⊢;rw[show k+((i+1:Nat):Int)=k+1+i by exact tO (jX 553695097007509873944 rfl) (jX 553979491736818362648 rfl)];exact y
theorem IP: ∀(th:List TH) (k:Int),(eB k th).length=th.length
 | [],_=>rfl|x::r,k=>by simp[eB,IP r]
theorem Qd: ∀(th:List TH) (k:Int) (t:TH),eB k (th++[t])=bT (eB k th) (.int (k+th.length)) (.ref t.ia)
 | [],k,t=>by simp[eB,bT]
 |x::r,k,t=>by
  have ne: ¬PK.int k=PK.int (k+((r.length+1:Nat):Int)):=by intro e;injection e;exact jX 4431835933929744891926 rfl i_eq
  simp only[DY,eB,AX,bT,aN ne];rw[Qd r (k+1) t,show k+1+(r.length:Int)=k+((r.length+1:Nat):Int) by exact tO (jX 553979491736818362648 rfl) (jX 553695097007509873944 rfl)]
theorem XQ: ∀(th:List TH) (k j:Int),cZ (eB k th) (.int j)=true
 | [],_,_=>rfl|_::r,k,j=>XQ r (k+1) j
theorem KF{A:Ad}{F:List (Nat×PO)}{s:St}{i:Nat}{t:TH}(h:s.th[i]?=some t): ∃R,(cells A F s).Perm (t.cells++R)∧∀t':TH,t'.ia=t.ia→(cells A F (s.gE (s.th.set i t'))).Perm (t'.cells++R):=by
 have hi:i<s.th.length:=(eF.mp h).1;have sp:s.th=s.th.take i++t::s.th.drop (i+1):=by
  rw[fZ hi]at h;rw[←gQ h,←AQ hi,Ar]
 refine⟨[(4,dA s.th.length),(6,.dict (eB 1 s.th) false),(3,.list [.ref 2,.int s.k]),(2,.list (A.nums.map .int)),(5,.inst 375 4),(A.R,.list [s.val]),(A.B,.dict (mI A s.next) false),(A.O,.dict (dF s.of) false),
  (A.W,.dict (eS s.rows) false),(A.N,.dict s.nat false),(A.D,.dict s.hands false)]++((s.th.take i).flatMap TH.cells++((s.th.drop (i+1)).flatMap TH.cells++(s.rows.map RW.cell++F))),?_,fun t' e=>?_⟩
 ·unfold cells
  conv=>lhs;rw[show s.th.flatMap TH.cells=(s.th.take i++t::s.th.drop (i+1)).flatMap TH.cells by rw[←sp]]
  rw[Ai,Aj,cM,cM];refine(Ua _ ?_).trans (EH _ _ _);exact EH _ _ _
 ·unfold cells
  simp only[dS,XS s.th 1 i t t' h e];rw[Ux,aV hi,Ai,Aj,cM,cM];refine(Ua _ ?_).trans (EH _ _ _);exact EH _ _ _
end
section
variable{m n:Nat}{H J K H2:PH}{A:Ad}{F:List (Nat×PO)}{s:St}{i:Nat}{t t':TH}{v w:PV}
theorem lZ{L:List (Nat×PO)}{k:Nat}{x:Nat×PO}(h:L[k]?=some x):L.Perm (x::L.eraseIdx k):=by
 obtain⟨l,e⟩:=eF.mp h;rw[List.eraseIdx_eq_take_drop_succ,←e]
 conv=>lhs;rw[←Ar k L,AQ l]
 exact JO
theorem Rep.app(h:Rep A F s H):Rep A F s (H++J):=Own.app h
theorem Rep.well(h:Rep A F s H):H[3]?=some (.list [.ref 2,.int s.k]):=h.get (a:=3) (fD (i:=2) rfl)
theorem Rep.nums(h:Rep A F s H):H[2]?=some (.list (A.nums.map .int)):=h.get (a:=2) (fD (i:=3) rfl)
theorem Rep.root(h:Rep A F s H):H[A.R]?=some (.list [s.val]):=h.get (fD (i:=5) rfl)
theorem Rep.book(h:Rep A F s H):H[A.B]?=some (.dict (mI A s.next) false):=h.get (fD (i:=6) rfl)
theorem Rep.of(h:Rep A F s H):H[A.O]?=some (.dict (dF s.of) false):=h.get (fD (i:=7) rfl)
theorem Rep.zS(h:Rep A F s H):H[A.W]?=some (.dict (eS s.rows) false):=h.get (fD (i:=8) rfl)
theorem Rep.VI(h:Rep A F s H):H[A.N]?=some (.dict s.nat false):=h.get (fD (i:=9) rfl)
theorem Rep.hand(h:Rep A F s H):H[A.D]?=some (.dict s.hands false):=h.get (fD (i:=10) rfl)
theorem Rep.hp(h:Rep A F s H)(l:s.th.length+1<aJ):Hp H s.th.length (eB 1 s.th):=
 ⟨h.get (a:=5) (fD (i:=4) rfl),h.get (a:=4) (fD (i:=0) rfl),h.get (a:=6) (fD (i:=1) rfl),XQ _ _,cC (by rw[IP];exact aS 292565939724371940671633 rfl l)⟩
theorem Rep.XT(h:Rep A F s H)(g:s.th[i]?=some t):Own t.cells H:=by
 obtain⟨R,p,_⟩:=KF (A:=A) (F:=F) g;have:=h.perm p;exact⟨fun x m=>this.1 x (JN _ m),(qO.mp (by have:=this.2;rw[kJ]at this;exact this)).1⟩
theorem Rep.mU(h:Rep A F s H)(g:s.th[i]?=some t)(e:t.live=true):Th H (eB 1 s.th) (i+1) t.ia t.na t.fl t.st (sv "live"):=by
 have c:=h.XT g;refine⟨by rw[DW];exact XR s.th 1 i t g,c.get (fD (i:=2) rfl),?_⟩;have:=c.get (fD (i:=0) rfl);rw[e]at this;exact this
theorem Rep.fld(h:Rep A F s H)(g:s.th[i]?=some t):H[t.fl]?=some (.list (t.items.map .int)):=(h.XT g).get (fD (i:=1) rfl)
theorem Rep.row(h:Rep A F s H){r:RW}(g:r∈s.rows):H[r.a]?=some (.list (r.items.map .int)):=h.get (tS _ (tS _ (JN _ (dY.mpr ⟨r,g,rfl⟩))))
theorem Rep.tmp(h:Rep A F s H){a:Nat}{o:PO}(m:(a,o)∈F):H[a]?=some o:=h.get (tS _ (tS _ (tS _ m)))
theorem Dh{x:Nat×PO}:(cells A (x::F) s).Perm (x::cells A F s):=by
 unfold cells;rw[←cM,←cM,←cM,←cM];exact JO
theorem Rep.keep(h:Rep A F s H){a:Nat}{o:PO}(g:(H++J)[a]?=some o)(l:H.length≤a):Rep A ((a,o)::F) s (H++J):=
 Own.perm (Own.add (Own.app h) g (fun p m=>by have:=Own.lt h m;exact fun fK=>dM 4683400338239965329428054038 rfl this l fK)) Dh.symm
theorem Rep.free{x:Nat×PO}(h:Rep A (x::F) s H):Rep A F s H:=Own.del (Own.perm h Dh)
theorem Rep.mB(h:Rep A F s H)(k:Nat):Rep A F (s.wk k) (H.set 3 (.list [.ref 2,.int k])):=
 Own.perm (Own.set (Own.perm h (lZ (k:=2) rfl))) (lZ (L:=cells A F (s.wk k)) (k:=2) rfl).symm
theorem Rep.AD(h:Rep A F s H)(v:PV):Rep A F (s.qL v) (H.set A.R (.list [v])):=
 Own.perm (Own.set (Own.perm h (lZ (k:=5) rfl))) (lZ (L:=cells A F (s.qL v)) (k:=5) rfl).symm
theorem Rep.aAS(h:Rep A F s H)(v:Int):Rep A F (s.tG v) (H.set A.B (.dict (mI A v) false)):=
 Own.perm (Own.set (Own.perm h (lZ (k:=6) rfl))) (lZ (L:=cells A F (s.tG v)) (k:=6) rfl).symm
theorem Rep.NT(h:Rep A F s H)(v:List (PK×Int)):Rep A F (s.kG v) (H.set A.O (.dict (dF v) false)):=
 Own.perm (Own.set (Own.perm h (lZ (k:=7) rfl))) (lZ (L:=cells A F (s.kG v)) (k:=7) rfl).symm
theorem Rep.NS(h:Rep A F s H)(v:cA):Rep A F (s.DO v) (H.set A.N (.dict v false)):=
 Own.perm (Own.set (Own.perm h (lZ (k:=9) rfl))) (lZ (L:=cells A F (s.DO v)) (k:=9) rfl).symm
theorem Rep.YC(h:Rep A F s H)(v:cA):Rep A F (s.qK v) (H.set A.D (.dict v false)):=
 Own.perm (Own.set (Own.perm h (lZ (k:=10) rfl))) (lZ (L:=cells A F (s.qK v)) (k:=10) rfl).symm
theorem Rep.YH(h:Rep A F s H)(g:s.th[i]?=some t)(st:Int):Rep A F (s.gE (s.th.set i (t.iB st))) (H.set t.na (.ns (eU t.fl st (uU t.live)))):=by
 obtain⟨R,p,q⟩:=KF (A:=A) (F:=F) g;exact Own.perm (Own.set (Own.perm h p)) (q (t.iB st) rfl).symm
theorem Rep.YD(h:Rep A F s H)(g:s.th[i]?=some t)(l:List Int):Rep A F (s.gE (s.th.set i (t.fY l))) (H.set t.fl (.list (l.map .int))):=by
 obtain⟨R,p,q⟩:=KF (A:=A) (F:=F) g;exact Own.perm (Own.perm (Own.set (Own.perm (Own.perm h p) (.swap ..))) (.swap ..)) (q (t.fY l) rfl).symm
theorem Rep.aAR(h:Rep A F s H)(g:s.th[i]?=some t){f:Nat}(hf:(H.set t.na (.ns (eU f 0 (sv "gone")))++J)[f]?=some (.list []))(hl:H.length≤f):
  Rep A F (s.gE (s.th.set i (t.gone f))) (H.set t.na (.ns (eU f 0 (sv "gone")))++J):=by
 obtain⟨R,p,q⟩:=KF (A:=A) (F:=F) g;have h1:=Own.del (Own.perm (Own.set (o':= .ns (eU f 0 (sv "gone"))) (Own.perm h p)) (.swap ..));have h2:=Own.add (Own.app (J:=J) h1) hf (fun x m=>by have:=Own.lt h1 m;rw[dS]at this;exact fun fK=>dM 4683400338239965329428054038 rfl this hl fK);exact Own.perm (Own.perm h2 (.swap ..)) (q (t.gone f) rfl).symm
theorem Rep.YE(h:Rep A F s H)(t:TH)(h1:(((H.set 4 (dA (s.th.length+1))).set 6 (.dict (bT (eB 1 s.th) (.int (s.th.length+1)) (.ref t.ia)) false))++J)[t.ia]?=some (.inst 230 t.na))
  (h2:(((H.set 4 (dA (s.th.length+1))).set 6 (.dict (bT (eB 1 s.th) (.int (s.th.length+1)) (.ref t.ia)) false))++J)[t.na]?=some (.ns (eU t.fl t.st (uU t.live))))
  (h3:(((H.set 4 (dA (s.th.length+1))).set 6 (.dict (bT (eB 1 s.th) (.int (s.th.length+1)) (.ref t.ia)) false))++J)[t.fl]?=some (.list (t.items.map .int)))
  (l1:H.length≤t.ia) (l2:H.length≤t.na) (l3:H.length≤t.fl):Rep A F (s.gE (s.th++[t])) (((H.set 4 (dA (s.th.length+1))).set 6 (.dict (bT (eB 1 s.th) (.int (s.th.length+1)) (.ref t.ia)) false))++J):=by
 have a1:=Own.set (o':=dA (s.th.length+1)) (Own.perm h (lZ (k:=0) rfl));have a2:=Own.app (J:=J) (Own.set (o':= .dict (bT (eB 1 s.th) (.int (s.th.length+1)) (.ref t.ia)) false) (Own.perm a1 (.swap ..)));have lt: ∀x∈((6,PO.dict (bT (eB 1 s.th) (.int (s.th.length+1)) (.ref t.ia)) false)::(4,dA (s.th.length+1))::((cells A F s).eraseIdx 0).eraseIdx 0),x.1<H.length:=by
  intro x m;have e:x.1∈(cells A F s).map (·.1):=by
   rcases dJ.mp m with rfl|m
   ·exact dY.mpr ⟨_,fD (i:=1) rfl,rfl⟩
   rcases dJ.mp m with rfl|m
   ·exact dY.mpr ⟨_,fD (i:=0) rfl,rfl⟩
   ·exact dY.mpr ⟨x,tT _ (tT _ m),rfl⟩
  obtain⟨y,ym,e⟩:=dY.mp e;rw[←e];exact Own.lt h ym
 have mj:t.na≠t.ia:=fT h2 h1 (by simp);have mo:t.fl≠t.na:=fT h3 h2 (by simp);have mn:t.fl≠t.ia:=fT h3 h1 (by simp);have a3:=Own.add a2 h1 (fun x m=>by have:=lt x m;exact fun fK=>dM 4683400338239965329428054038 rfl this l1 fK);have a4:=Own.add a3 h3 (fun x m=>by
  rcases dJ.mp m with rfl|m
  ·exact mn.symm
  ·have:=lt x m;exact fun fK=>dM 4683400338239965329428054038 rfl this l3 fK)
 have a5:=Own.add a4 h2 (fun x m=>by
  rcases dJ.mp m with rfl|m
  ·exact mo
  rcases dJ.mp m with rfl|m
  ·exact mj.symm
  ·have:=lt x m;exact fun fK=>dM 4683400338239965329428054038 rfl this l2 fK)
 refine Own.perm a5 ?_;have e:cells A F (s.gE (s.th++[t]))=((4,dA (s.th.length+1))::(6,.dict (bT (eB 1 s.th) (.int (s.th.length+1)) (.ref t.ia)) false)::[(3,.list [.ref 2,.int s.k]),(2,.list (A.nums.map .int)),(5,.inst 375 4),(A.R,.list [s.val]),(A.B,.dict (mI A s.next) false),(A.O,.dict (dF s.of) false),
  (A.W,.dict (eS s.rows) false),(A.N,.dict s.nat false),(A.D,.dict s.hands false)])++(s.th.flatMap TH.cells++(t.cells++(s.rows.map RW.cell++F))):=by
  unfold cells;simp only[Qd,Ai,eO,cM,Aj,List.flatMap_nil,eL];rw[DW 1];rfl
 rw[e];exact(EH t.cells _ _).trans (aCP (.swap ..) (EH _ _ _))
end
section
set_option genInjectivity true
variable{m n:Nat}{H J K H2:PH}{A:Ad}{F:List (Nat×PO)}{s s':St}{i i':Nat}{t t':TH}{v w:PV}
noncomputable def oH(s:St)(i:Nat)(t:TH)(s':St)(i':Nat)(t':TH):Prop:=
 (t.st=1∧s'=s∧i'=i∧t'=t)∨(2≤t.st∧i'=s.th.length∧s'=(s.gE (s.th.set i (t.iB (t.st-1))++[t']))∧t'.st=1∧t'.live=true∧t'.items=t.items)
theorem oH.get(g:s.th[i]?=some t)(h:oH s i t s' i' t'):s'.th[i']?=some t':=by
 rcases h with⟨_,rfl,rfl,rfl⟩|⟨_,rfl,rfl,_⟩
 ·exact g
 ·show(s.th.set i _++[t'])[s.th.length]?=_
  rw[yI (by rw[dS];exact fQ _),dS,yQ];rfl
theorem oH.live(lv:t.live=true)(h:oH s i t s' i' t'):t'.live=true:=by
 rcases h with⟨_,rfl,rfl,rfl⟩|⟨_,rfl,rfl,_,e,_⟩
 ·exact lv
 ·exact e
theorem oH.items(h:oH s i t s' i' t'):t'.items=t.items:=by
 rcases h with⟨e,rfl,rfl,rfl⟩|⟨_,rfl,rfl,_,_,e⟩
 ·rfl
 ·exact e
theorem oH.len(h:oH s i t s' i' t'):s'.th.length≤s.th.length+1:=by
 rcases h with⟨e,rfl,rfl,rfl⟩|⟨_,rfl,rfl,_,_,e⟩
 ·exact aS 128983400592 rfl
 ·simp
theorem oH.vals(h:oH s i t s' i' t'):s'.val=s.val:=by
 rcases h with⟨e,rfl,rfl,rfl⟩|⟨_,rfl,rfl,_,_,e⟩<;>rfl
theorem se(h:Rep A F s H)(g:s.th[i]?=some t)(lv:t.live=true)(h1:1≤t.st)(l:s.th.length+2<aJ)(hl:t.items.length≤aJ):
  ∃s' H' t',∃i':Nat,aG P0 (m+7) (.aE (.ref 365)) [.ref 5,.int (i+1)] H= .ok (.int (i'+1)) H'∧Rep A F s' H'∧oH s i t s' i' t':=by
 have p:=h.hp (aS 1198350098334399505846240529 rfl l);have q:=h.mU g lv;have hi:i<s.th.length:=(eF.mp g).1;refine bQ fun G_ aQ=>?_;by_cases e:t.st=1
 ·rw[e]at q
  refine aQ ?_;exact⟨s,_,t,i,sf p q,h.app,.inl ⟨e,rfl,rfl,rfl⟩⟩
 ·obtain⟨J,q0,l0,c,f0,f1,f2⟩:=sd (m:=m) p q (NR h1 e) (aX 271483861182973208 rfl hi) (h.fld g) hl (by rw[IP];exact aS 1198350098334399505846240529 rfl l)
  have u:=h.YH g (t.st-1);have n4:=q.MJ p;have n6:=fT q.n p.d (by simp);have el:=XS s.th 1 i t (t.iB (t.st-1)) g rfl;have cm:((H.set 4 (dA (s.th.length+1))).set 6 (.dict (bT (eB 1 s.th) (.int (s.th.length+1)) (.ref (q0+2))) false)).set t.na (.ns (eU t.fl (t.st-1) (sv "live")))=
    ((H.set t.na (.ns (eU t.fl (t.st-1) (sv "live")))).set 4 (dA (s.th.length+1))).set 6 (.dict (bT (eB 1 s.th) (.int (s.th.length+1)) (.ref (q0+2))) false):=by
   rw[Aq _ _ n6.symm,Aq _ _ n4.symm]
  rw[cm]at f0 f1 f2 c;rw[show uU t.live=sv "live" by rw[lv];rfl]at u;have x:=u.YE (J:=J) ⟨q0+2,q0+1,q0,1,true,t.items⟩ (by simp only[dS,el];exact f2) (by simp only[dS,el];exact f1) (by simp only[dS,el];exact f0)
   (by simp only[dS];exact aX 271483852257656976 rfl l0) (by simp only[dS];exact aX 271483852123439248 rfl l0) (by simp only[dS];exact aX 66280237449360 rfl l0)
  simp only[dS,el]at x;refine aQ ?_;refine⟨_,_,_,s.th.length,c,x,.inr ⟨NR h1 e,rfl,rfl,rfl,rfl,rfl⟩⟩
structure mF(val:PV)(p:List Int)(b:Int)(bX:PV→PV):Prop where
 lp:p.length≤3
 rd: ∀{m:Nat} {H:PH} {r:Nat},H[r]?=some (.list [val])→aG P0 (m+2) (.aE (.ref 117)) [spot r (0::p)] H= .ok (bH b) H
 wr: ∀{m:Nat} {H:PH} {v:PV},aG P0 (m+5) (.aE (.ref 124)) [val,bL p,v] H= .ok (bX v) H
theorem zD{p:List Int}{b:Int}{bX:PV→PV}(h:Rep A F s H)(e:mF s.val p b bX):aG P0 (m+3) (.aE (.ref 138)) [spot A.R (0::p)] H= .ok (bH b) H:=
 zC (fun _=>e.rd (bS h.root)) (fun _=>rfl)
theorem Rm{p:List Int}{b:Int}{bX:PV→PV}(h:Rep A F s H)(e:mF s.val p b bX): ∃H',aG P0 (m+6) (.aE (.ref 131)) [spot A.R (0::p),v] H= .ok .none H'∧Rep A F (s.qL (bX v)) H':=
 ⟨_,xY e.lp h.root (fun _=>e.wr),h.AD _⟩
theorem HV{p:List Int}{bX:PV→PV}(h:Rep A F s H)(g:s.th[i]?=some t)(lv:t.live=true)(h1:1≤t.st)(l:s.th.length+2<aJ)(hl:t.items.length≤aJ)(e:mF s.val p (i+1) bX):
  ∃s1 s' H' t',∃i':Nat,aG P0 (m+8) (.aE (.ref 187)) [.ref 5,spot A.R (0::p)] H= .ok (.ref t'.fl) H'∧Rep A F s' H'∧oH s i t s1 i' t'∧(s'=(s1.qL (bX (bH (i'+1))))∨s'=s∧s1=s∧i'=i):=by
 obtain⟨s1,H1,t',i',c,r1,o⟩:=se (m:=m) (h.app (J:=[])) g lv h1 l hl;have p1:=h.hp (aS 1198350098334399505846240529 rfl l);have g':=o.get g;have hv:=o.vals;have WL:=r1.hp (by have:=o.len;exact aX 10293748963628194213913424689598825745 rfl this l);have q1:=r1.mU g' (o.live lv);by_cases ne:i'=i
 ·subst ne
  have hs:s1=s∧t'=t:=by
   rcases o with⟨e,rfl,_,rfl⟩|⟨_,e,_⟩
   ·exact⟨rfl,rfl⟩
   ·have hi:i'<s.th.length:=(eF.mp g).1
    exact⟨jE (aX 2223995931544669650966 rfl hi e),jE (aX 2223995931544669650966 rfl hi e)⟩
  obtain⟨rfl,rfl⟩:=hs;refine⟨s1,s1,H1,t',i',?_,r1,o,.inr ⟨rfl,rfl,rfl⟩⟩;obtain⟨n,hn⟩: ∃n,H.length=n:=⟨_,rfl⟩;have⟨z1,z2,_,_,_⟩:=p1;have⟨y1,y2,_,_,_⟩:=WL;have el:aG P0 (m+5+2) (.aE (.ref 360)) [.ref 5,.int (i'+1)] H1= .ok (.ref t'.fl) H1:=pS WL q1;have fu:aG P0 (m+4+3) (.aE (.ref 138)) [spot A.R (0::p)] (H++[])= .ok (bH (i'+1)) (H++[]):=zD h.app e;have hb:(!((i':Int)+1==i'+1))=false:=by rw[fG];rfl
  refine start ?_;apply cP (B:=EX) rfl rfl hn rfl;unfold EX;dsimp only[SO];walk_at "nrm"
  repeat(first
   |(with_reducible first|exact fu|exact c|exact el)|walk_at "m1")
 ·obtain⟨H2,w,r2⟩:=Rm (m:=m+1) (v:=bH (i'+1)) r1 (show mF s1.val p (i+1) bX by rw[hv];exact e)
  refine⟨s1,_,H2,t',i',?_,r2,o,.inl rfl⟩;obtain⟨n,hn⟩: ∃n,H.length=n:=⟨_,rfl⟩;have⟨z1,z2,_,_,_⟩:=p1;have⟨y1,y2,_,_,_⟩:=WL;have p2:=r2.hp (show s1.th.length+1<aJ by have:=o.len;exact aX 10293748963628194213913424689598825745 rfl this l);have q2:=r2.mU g' (o.live lv);have⟨x1,x2,_,_,_⟩:=p2;have el:aG P0 (m+5+2) (.aE (.ref 360)) [.ref 5,.int (i'+1)] H2= .ok (.ref t'.fl) H2:=pS p2 q2;have fu:aG P0 (m+4+3) (.aE (.ref 138)) [spot A.R (0::p)] (H++[])= .ok (bH (i+1)) (H++[]):=zD h.app e;have hb:(!((i':Int)+1==i+1))=true:=by rw[dC.mpr fun q=>ne (Tt.mp ((Tq 1).mp q))];rfl
  refine start ?_;apply cP (B:=EX) rfl rfl hn rfl;unfold EX;dsimp only[SO];walk_at "nrm"
  repeat(first
   |(with_reducible first|exact fu|exact c|exact w|exact el)|walk_at "m1")
end
section
variable{m n:Nat}{H J K H2:PH}{A:Ad}{F:List (Nat×PO)}{s s':St}{i i':Nat}{t t':TH}{v w:PV}{last:Int}{es:cA}{b:Int}{ia na fl q c:Nat}{st:Int}{items:List Int}
theorem XU(n:Nat): ∀l:List Int,rP (toPy H n) (l.map .int)=some (l.map PW)
 | []=>rfl|x::r=>by
  have e:toPy H n (.int x)=some (.int x):=by cases n<;>rfl
  simp only[dU,rP,e,XU n r]
theorem Ff: ∀l k:List Int,PU (l.map .int) (k.map .int)=decide (l=k)
 | [],[]=>rfl| [],_::_=>rfl|_::_,[]=>rfl|x::l,y::k=>by
  simp only[dU,PU,Bk,Ff l k,aCV,Sh];rfl
theorem oQ{l:List Int}(g:H[q]?=some (.list (l.map .int)))(s:decide ((l.map PV.int).length≤aJ)=true):fX (.ref q) H= .ok (.int l.length) H:=by rw[Ng g s,cR]
theorem rJ{a b:Nat}{l k:List Int}(h1:H[a]?=some (.list (l.map .int)))(h2:H[b]?=some (.list (k.map .int))):xP H (.ref a) (.ref b)=some (decide (l=k)):=by
 have e1:toPy H 6 (.ref a)=some (.list (l.map PW)):=orr rfl (orr rfl (eW (gL h1) (by rw[XU];rfl)));have e2:toPy H 6 (.ref b)=some (.list (k.map PW)):=orr rfl (orr rfl (eW (gL h2) (by rw[XU];rfl)));exact orr rfl (orr rfl (eW e1 (by rw[e2];exact bN some (Ff l k))))
theorem NI{l:List Int}{x:Int}{i:Int}(h0:0≤i)(hx:l[i.toNat]?=some x)(hl:l.length≤aJ):iI (l.map PV.int) i=some (.int x):=by
 unfold iI;rw[aN (by rw[cR];exact aS 71427231136847036948 rfl hl),aV h0,fW,hx];rfl
theorem iF{l:List Int}(hl:l.length≤aJ):decide ((l.map PV.int).length≤aJ)=true:=by rw[cR];exact cC hl
theorem XC{C:dI}{fr:aW}{a:D}{cl:Addr}{k d:Nat}(h:a C fr H= .ok v (K++J))(l:K.length=n)(e:n+J.length=d):mA cl k a C fr H= .exc cl d (K++(J++[.ns [(k,v)]])):=by subst e;exact xd h l
theorem Es{r:Nat}{i:Int}{l:List PV}(h:H[r]?=some (.list l))(h0: ¬(0≤i∧i<l.length))(hl:decide (l.length≤aJ)=true)(hn:H.length=n):aG P0 (m+1) (.aE (.ref 194)) [.ref r,.int i] H= .exc 63 n (H++[.ns [(0,sv "index")]]):=by
 have hb:(!(decide ((0:Int)≤i)&&decide ((i:Int)<l.length)))=true:=Me h0;show(fun H'=>aG P0 (m+1) (.aE (.ref 194)) [.ref r,.int i] H') H=_;refine start ?_;apply BC (B:=EY) rfl rfl hn rfl;unfold EY;dsimp only[SQ];walk_at "nrm";apply oN
 repeat(first
  |with_reducible apply oN|with_reducible apply XC|walk_at "m1")
theorem Iz: ∀x∈["array#make","array#count","array#get","array#concat","array#first","array#last"],∀H,dE .In (sv x) (.tup [sv "array#make",sv "array#count",sv "array#get",sv "array#concat",sv "array#first",sv "array#last"]) H= .ok true H:=by
 intro x hx H;simp only[dJ,yK,or_false]at hx;rcases hx with rfl|rfl|rfl|rfl|rfl|rfl<;>kernel_rfl!
theorem G8(p:Hp H last es)(t:Th H es b ia na fl st (sv "live"))(hi:H[fl]?=some (.list (items.map .int)))(hl:items.length≤aJ)(hq:H[q]?=some (.list [bH b])):
  aG P0 (m+3) (.aE (.ref 206)) [.ref 5,sv "array#count",.ref q] H= .ok (.int items.length) (H++[.cell (some (.ref 5))]):=by
 obtain⟨n,hn⟩: ∃n,H.length=n:=⟨_,rfl⟩;have⟨p1,p2,p3,_,_⟩:=p;have hJ:=iF hl;refine start ?_;apply cP (B:=kL) rfl rfl hn (dP (fU rfl (bG hn rfl) (eE eG hn)) rfl);unfold kL;dsimp only[sM];walk_at "nrm"
 repeat(first
  |with_reducible exact pS p.app t.app|((with_reducible apply oQ);(focus walk_at "lk"))|walk_at "m1")
end
section
variable{m n:Nat}{H J K H2:PH}{A:Ad}{F:List (Nat×PO)}{s s':St}{i i':Nat}{t t':TH}{v w:PV}{last:Int}{es:cA}{b:Int}{ia na fl q c:Nat}{st:Int}{items:List Int}
noncomputable abbrev DN:List String:=["array#make","array#count","array#get","array#concat","array#first","array#last"]
theorem Mi: ∀x∈DN,∀H,dE .Eq (sv x) (sv "array#append") H= .ok false H:=by
 intro x hx H;simp only[DN,dJ,yK,or_false]at hx;rcases hx with rfl|rfl|rfl|rfl|rfl|rfl<;>kernel_rfl!
theorem Mj: ∀x∈DN,∀H,dE .Eq (sv x) (sv "array#pop") H= .ok false H:=by
 intro x hx H;simp only[DN,dJ,yK,or_false]at hx;rcases hx with rfl|rfl|rfl|rfl|rfl|rfl<;>kernel_rfl!
theorem sF{x:String}(hx:x∈DN)(h:aG P0 m (.aE (.ref 206)) [.ref 5,sv x,.ref q] H= .ok v H2):aG P0 (m+1) (.aE (.ref 213)) [.ref 5,sv x,.ref q] H= .ok v H2:=by
 obtain⟨n,hn⟩: ∃n,H.length=n:=⟨_,rfl⟩;rw[←eL H]at h;refine start ?_;apply cP (B:=qV) rfl rfl hn rfl;unfold qV;dsimp only[BL];walk_at "nrm"
 repeat(first
  |(with_reducible first|exact h|exact Mi x hx _|exact Mj x hx _|exact Iz x hx _)|walk_at "m1")
theorem Xm{x:String}{cl:Addr}{d:Nat}(hx:x∈DN)(h:aG P0 m (.aE (.ref 206)) [.ref 5,sv x,.ref q] H= .exc cl d H2):aG P0 (m+1) (.aE (.ref 213)) [.ref 5,sv x,.ref q] H= .exc cl d H2:=by
 obtain⟨n,hn⟩: ∃n,H.length=n:=⟨_,rfl⟩;rw[←eL H]at h;show(fun H'=>aG P0 (m+1) (.aE (.ref 213)) [.ref 5,sv x,.ref q] H') H=_;refine start ?_;apply BC (B:=qV) rfl rfl hn rfl;unfold qV;dsimp only[BL];walk_at "nrm"
 iterate 2 (apply mO;(focus repeat(first
  |(with_reducible first|exact Mi x hx _|exact Mj x hx _)|walk_at "m1"));walk_at "m1")
 apply oN
 repeat(first
  |with_reducible exact h|with_reducible apply oN|with_reducible apply SE|with_reducible exact Iz x hx _|walk_at "m1")
theorem V3{at_ x:Int}(p:Hp H last es)(t:Th H es b ia na fl st (sv "live"))(hi:H[fl]?=some (.list (items.map .int)))(hl:items.length≤aJ)(hq:H[q]?=some (.list [bH b,.int at_]))(h0:0≤at_)(hx:items[at_.toNat]?=some x):
  aG P0 (m+3) (.aE (.ref 206)) [.ref 5,sv "array#get",.ref q] H= .ok (.int x) (H++[.cell (some (.ref 5)),.list [],.list []]):=by
 obtain⟨n,hn⟩: ∃n,H.length=n:=⟨_,rfl⟩;have⟨p1,p2,p3,_,_⟩:=p;have hJ:=iF hl;have el: ∀J,aG P0 (m+2) (.aE (.ref 194)) [.ref fl,.int at_] (H++J)= .ok (.int x) (H++J):=fun J=>element_at (m:=m+1) (bS hi) h0 (by rw[fW,hx];rfl) hJ;refine start ?_;apply cP (B:=kL) rfl rfl hn (dP (fU rfl (bG hn rfl) (eE eG hn)) rfl);unfold kL;dsimp only[sM];walk_at "nrm"
 repeat(first
  |(with_reducible first|exact pS p.app t.app|exact el _)|((with_reducible apply cl);(focus with_reducible exact KG);(focus walk_at "st"))|walk_at "m1")
theorem U9{at_:Int}(p:Hp H last es)(t:Th H es b ia na fl st (sv "live"))(hi:H[fl]?=some (.list (items.map .int)))(hl:items.length≤aJ)(hq:H[q]?=some (.list [bH b,.int at_]))(h0: ¬(0≤at_∧at_<items.length)):
  aG P0 (m+3) (.aE (.ref 206)) [.ref 5,sv "array#get",.ref q] H= .exc 63 (H.length+1) (H++[.cell (some (.ref 5)),.ns [(0,sv "index")]]):=by
 obtain⟨n,hn⟩: ∃n,H.length=n:=⟨_,rfl⟩;have⟨p1,p2,p3,_,_⟩:=p;have hJ:=iF hl;have el:=Es (m:=m+1) (n:=n+1) (r:=fl) (i:=at_) (H:=H++[.cell (some (.ref 5))]) (bS hi) (by rw[cR];exact h0) hJ (lW hn);rw[cM]at el;rw[hn];show(fun H'=>aG P0 (m+3) (.aE (.ref 206)) [.ref 5,sv "array#get",.ref q] H') H=_;refine start ?_;apply BC (B:=kL) rfl rfl hn (dP (fU rfl (bG hn rfl) (eE eG hn)) rfl);unfold kL;dsimp only[sM];walk_at "nrm"
 iterate 3 (apply mO;(focus repeat(first
  |with_reducible exact pS p.app t.app|walk_at "m1"));walk_at "m1")
 apply oN
 repeat(first
  |((with_reducible change aG _ _ (PV.aE (aR 194)) _ _=_);exact el)|with_reducible apply oN|with_reducible apply SE|with_reducible apply L8|with_reducible apply SD|walk_at "m1")
end
section
variable{m n:Nat}{H J K H2:PH}{A:Ad}{F:List (Nat×PO)}{s s':St}{i i':Nat}{t t':TH}{v w:PV}{last:Int}{es:cA}{b:Int}{ia na fl q c:Nat}{st:Int}{items:List Int}
theorem Pn{x:Int}:aG P0 (m+1) (.aE (.ref 74)) [.int x] H= .ok (.tup [sv "enum",.int 1,.int x]) H:=by kernel_rfl!
theorem S6(p:Hp H last es)(t:Th H es b ia na fl st (sv "live"))(hi:H[fl]?=some (.list []))(hq:H[q]?=some (.list [bH b])):
  aG P0 (m+3) (.aE (.ref 206)) [.ref 5,sv "array#first",.ref q] H= .ok (.tup [sv "enum",.int 0,.none]) (H++[.cell (some (.ref 5)),.list []]):=by
 obtain⟨n,hn⟩: ∃n,H.length=n:=⟨_,rfl⟩;have⟨p1,p2,p3,_,_⟩:=p;refine start ?_;apply cP (B:=kL) rfl rfl hn (dP (fU rfl (bG hn rfl) (eE eG hn)) rfl);unfold kL;dsimp only[sM];walk_at "nrm"
 repeat(first
  |with_reducible exact pS p.app t.app|((with_reducible change dE _ (PV.ref _) (PV.ref _) _=_);exact qF (rJ (l:=[]) (k:=[]) (bS hi) (bG hn rfl)))|walk_at "m1")
theorem S7{x:Int}(p:Hp H last es)(t:Th H es b ia na fl st (sv "live"))(hi:H[fl]?=some (.list (items.map .int)))(eP:decide (items=[])=false)(hx:iI (items.map .int) 0=some (.int x))(hq:H[q]?=some (.list [bH b])):
  aG P0 (m+3) (.aE (.ref 206)) [.ref 5,sv "array#first",.ref q] H= .ok (.tup [sv "enum",.int 1,.int x]) (H++[.cell (some (.ref 5)),.list [],.list [],.list []]):=by
 obtain⟨n,hn⟩: ∃n,H.length=n:=⟨_,rfl⟩;have⟨p1,p2,p3,_,_⟩:=p;refine start ?_;apply cP (B:=kL) rfl rfl hn (dP (fU rfl (bG hn rfl) (eE eG hn)) rfl);unfold kL;dsimp only[sM];walk_at "nrm"
 repeat(first
  |with_reducible exact pS p.app t.app|((with_reducible change dE _ (PV.ref _) (PV.ref _) _=_);exact qF (rJ (l:=items) (k:=[]) (bS hi) (bG hn rfl)))|((with_reducible change nF (PV.ref fl) _ _=_);exact VV (bS hi) hx)|((with_reducible apply cl);(focus with_reducible exact KG);(focus walk_at "st"))|with_reducible exact Pn|walk_at "m1")
theorem iz(p:Hp H last es)(t:Th H es b ia na fl st (sv "live"))(hi:H[fl]?=some (.list []))(hq:H[q]?=some (.list [bH b])):
  aG P0 (m+3) (.aE (.ref 206)) [.ref 5,sv "array#last",.ref q] H= .ok (.tup [sv "enum",.int 0,.none]) (H++[.cell (some (.ref 5)),.list []]):=by
 obtain⟨n,hn⟩: ∃n,H.length=n:=⟨_,rfl⟩;have⟨p1,p2,p3,_,_⟩:=p;refine start ?_;apply cP (B:=kL) rfl rfl hn (dP (fU rfl (bG hn rfl) (eE eG hn)) rfl);unfold kL;dsimp only[sM];walk_at "nrm"
 repeat(first
  |with_reducible exact pS p.app t.app|((with_reducible change dE _ (PV.ref _) (PV.ref _) _=_);exact qF (rJ (l:=[]) (k:=[]) (bS hi) (bG hn rfl)))|walk_at "m1")
theorem ja{x:Int}(p:Hp H last es)(t:Th H es b ia na fl st (sv "live"))(hi:H[fl]?=some (.list (items.map .int)))(eP:decide (items=[])=false)(hx:iI (items.map .int) (-1)=some (.int x))(hq:H[q]?=some (.list [bH b])):
  aG P0 (m+3) (.aE (.ref 206)) [.ref 5,sv "array#last",.ref q] H= .ok (.tup [sv "enum",.int 1,.int x]) (H++[.cell (some (.ref 5)),.list [],.list [],.list []]):=by
 obtain⟨n,hn⟩: ∃n,H.length=n:=⟨_,rfl⟩;have⟨p1,p2,p3,_,_⟩:=p;refine start ?_;apply cP (B:=kL) rfl rfl hn (dP (fU rfl (bG hn rfl) (eE eG hn)) rfl);unfold kL;dsimp only[sM];walk_at "nrm"
 repeat(first
  |with_reducible exact pS p.app t.app|((with_reducible change dE _ (PV.ref _) (PV.ref _) _=_);exact qF (rJ (l:=items) (k:=[]) (bS hi) (bG hn rfl)))|((with_reducible change nF (PV.ref fl) _ _=_);exact VV (bS hi) hx)|((with_reducible apply cl);(focus with_reducible exact KG);(focus walk_at "st"))|with_reducible exact Pn|walk_at "m1")
theorem VD{l:List PV}(p:Hp H last es)(hq:H[q]?=some (.list l))(hl:decide (l.length≤aJ)=true)(hn:H.length=n):
  aG P0 (m+4) (.aE (.ref 206)) [.ref 5,sv "array#make",.ref q] H= .ok (bH (last+1)) ((H.set 4 (dA (last+1))).set 6 (.dict (bT es (.int (last+1)) (.ref (n+3))) false)++[.cell (some (.ref 5)),.list l,.ns (eU (n+1) 1 (sv "live")),.inst 230 (n+2)]):=by
 have⟨p1,p2,p3,_,_⟩:=p;have mk:=VC (m:=m) (H:=H++[.cell (some (.ref 5))]) p.app (bS hq) hl (lW hn);rw[lI _ _ (hU p2),lI _ _ (by rw[dS];exact hU p3),cM]at mk;refine start ?_;apply cP (B:=kL) rfl rfl hn (dP (fU rfl (bG hn rfl) (eE eG hn)) rfl);unfold kL;dsimp only[sM];walk_at "nrm"
 repeat(first
  |((with_reducible change aG _ _ (PV.aE (aR 255)) _ _=_);exact mk)|walk_at "m1")
theorem fy{r:Nat}{l k:List Int}(h1:H[q]?=some (.list (l.map .int)))(h2:H[r]?=some (.list (k.map .int)))(hl:l.length+k.length≤aJ)(hn:H.length=n):
  aG P0 (m+1) (.aE (.ref 166)) [.ref q,.ref r] H= .ok (.ref n) (H++[.list ((l++k).map .int)]):=by
 have a1:=iF (l:=l) (aX 73141486903505425858704 rfl hl);have a2:=iF (l:=k) (aX 73141484669297798217872 rfl hl);have a3:decide ((l.map PV.int++k.map PV.int).length≤aJ)=true:=cC (by rw[eO,cR,cR];exact hl);have a4:decide ((1000000:Int)<(l.length:Int)+k.length)=false:=iW (by simp only[aJ]at hl;exact aX 84326393129970433873382563422398300357276 rfl hl);rw[kJ];refine start ?_;apply cP (B:=QG) rfl rfl hn rfl;unfold QG;dsimp only[Fl];walk_at "nrm"
 repeat(first
  |((with_reducible apply oQ);(focus walk_at "lk"))|((with_reducible apply Nb);(focus walk_at "lk");(focus walk_at "lk"))|walk_at "m1")
end
section
variable{m n:Nat}{H J K H2:PH}{A:Ad}{F:List (Nat×PO)}{s s':St}{i i':Nat}{t t':TH}{v w:PV}{last:Int}{es:cA}{b:Int}{ia na fl q c:Nat}{st:Int}{items:List Int}
theorem G4{b2:Int}{bh mq BN:Nat}{XL:Int}{lV:List Int}(p:Hp H last es)(t:Th H es b ia na fl st (sv "live"))(t2:Th H es b2 bh mq BN XL (sv "live"))(hi:H[fl]?=some (.list (items.map .int)))(Y8:H[BN]?=some (.list (lV.map .int)))
  (hl:items.length+lV.length≤aJ) (hq:H[q]?=some (.list [bH b,bH b2])):
  ∃J q0,H.length≤q0∧aG P0 (m+5) (.aE (.ref 206)) [.ref 5,sv "array#concat",.ref q] H= .ok (bH (last+1)) ((H.set 4 (dA (last+1))).set 6 (.dict (bT es (.int (last+1)) (.ref (q0+2))) false)++J)∧
   ((H.set 4 (dA (last+1))).set 6 (.dict (bT es (.int (last+1)) (.ref (q0+2))) false)++J)[q0]?=some (.list ((items++lV).map .int))∧
   ((H.set 4 (dA (last+1))).set 6 (.dict (bT es (.int (last+1)) (.ref (q0+2))) false)++J)[q0+1]?=some (.ns (eU q0 1 (sv "live")))∧
   ((H.set 4 (dA (last+1))).set 6 (.dict (bT es (.int (last+1)) (.ref (q0+2))) false)++J)[q0+2]?=some (.inst 230 (q0+1)):=by
 refine bQ fun G_ aQ=>?_;obtain⟨n,hn⟩: ∃n,H.length=n:=⟨_,rfl⟩;have hlen:(items++lV).length≤aJ:=by rw[eO];exact hl
 have hJ:=iF hlen;have jo:=fy (m:=m+3) (H:=H++[.cell (some (.ref 5))]) (n:=n+1) (bS hi) (bS Y8) hl (lW hn);rw[cM]at jo;have hx:=RR (m:=m+2) (c:=n+0) (fl:=n+1) (L:=0) (LN:=0) trivial (items++lV).length 0 9000 [] (H++([.cell (some (.ref 5))]++[.list ((items++lV).map .int)])) (bG (i:=1) hn rfl) (bS p.i) (bS p.n) (bG hn rfl) (fE (aS 128916652304 rfl) (aS 128916160656 rfl)) (by simp[aJ]at hlen;simp;exact aX 74896882589189690298074385 rfl hl) (by simpa using hlen);obtain⟨K1,hK⟩: ∃K1,K1=H++([.cell (some (.ref 5))]++[.list ((items++lV).map .int)])++cU (2*(items++lV).length) (PO.list []):=⟨_,rfl⟩;have p':Hp K1 last es:=by rw[hK];exact p.app.app
 have hc:K1[n+0]?=some (.cell (some (.ref 5))):=by rw[hK];exact bS (bG hn rfl)
 rw[←hK,←eL K1]at hx;obtain⟨n1,gV⟩: ∃n,K1.length=n:=⟨_,rfl⟩;have zF:H.length≤n1:=by rw[←gV,hK,eO,eO];exact dM 33278615912592 rfl
 have e: ∀A B,(K1.set 4 A).set 6 B=(H.set 4 A).set 6 B++(([.cell (some (.ref 5))]++[.list ((items++lV).map .int)])++cU (2*(items++lV).length) (PO.list [])):=by
  intro A B;rw[hK,cM,lI _ _ (hU p.n),lI _ _ (by rw[dS];exact hU p.d)]
 have hm:=VC (m:=m+1) (H:=K1++[.list ((items++lV).map .int)]) (q:=n1+0) p'.app (bG gV rfl) hJ (n:=n1+1) (lW gV);rw[lI _ _ (hU p'.n),lI _ _ (by rw[dS];exact hU p'.d),cM]at hm;have len:((K1.set 4 (dA (last+1))).set 6 (.dict (bT es (.int (last+1)) (.ref (n1+1+2))) false)).length=n1:=gM (gM gV);have main:aG P0 (m+5) (.aE (.ref 206)) [.ref 5,sv "array#concat",.ref q] H= .ok (bH (last+1)) ((K1.set 4 (dA (last+1))).set 6 (.dict (bT es (.int (last+1)) (.ref (n1+1+2))) false)++([.list ((items++lV).map .int)]++[.list ((items++lV).map .int),.ns (eU (n1+1) 1 (sv "live")),.inst 230 (n1+1+1)])):=by
  have⟨p1,p2,p3,_,_⟩:=p;have⟨y1,y2,y3,_,_⟩:=p';refine start ?_;apply cP (B:=kL) rfl rfl hn (dP (fU rfl (bG hn rfl) (eE eG hn)) rfl);unfold kL;dsimp only[sM];walk_at "nrm"
  repeat(first
   |(with_reducible first|exact pS p.app t.app|exact pS p.app t2.app)|((with_reducible change aG _ _ (PV.aE (aR 166)) _ _=_);exact jo)|((with_reducible change gA _ _ _ _ _ _=_);exact hx)|((with_reducible change aG _ _ (PV.aE (aR 255)) _ _=_);exact hm)|walk_at "m1")
 refine aQ ?_;refine⟨(([.cell (some (.ref 5))]++[.list ((items++lV).map .int)])++cU (2*(items++lV).length) (PO.list []))++([.list ((items++lV).map .int)]++[.list ((items++lV).map .int),.ns (eU (n1+1) 1 (sv "live")),.inst 230 (n1+1+1)]),n1+1,by exact aX 271483852123439248 rfl zF,?_,?_,?_,?_⟩
 ·rw[main,e,cM]
 all_goals rw[←cM,←e]
 ·exact bG (n:=n1) (i:=1) len rfl
 ·exact bG (n:=n1) (i:=2) len rfl
 ·exact bG (n:=n1) (i:=3) len rfl
theorem G3{j:Nat}{u:TH}(h:Rep A F s H)(g:s.th[i]?=some t)(lv:t.live=true)(g2:s.th[j]?=some u)(lu:u.live=true)(l:s.th.length+1<aJ)(hl:t.items.length+u.items.length≤aJ)(hq:H[q]?=some (.list [bH (i+1),bH (j+1)])):
  ∃t' H',aG P0 (m+6) (.aE (.ref 213)) [.ref 5,sv "array#concat",.ref q] H= .ok (bH (s.th.length+1)) H'∧Rep A F (s.gE (s.th++[t'])) H'∧t'.st=1∧t'.live=true∧t'.items=t.items++u.items:=by
 refine bQ fun G_ aQ=>?_;obtain⟨J,q0,l0,c,f0,f1,f2⟩:=G4 (m:=m) (h.hp l) (h.mU g lv) (h.mU g2 lu) (h.fld g) (h.fld g2) hl hq;refine aQ ?_;exact⟨⟨q0+2,q0+1,q0,1,true,t.items++u.items⟩,_,sF (by simp) c,h.YE (J:=J) ⟨q0+2,q0+1,q0,1,true,t.items++u.items⟩ f2 f1 f0 (by show _≤q0+2;exact aX 271483852257656976 rfl l0) (by show _≤q0+1;exact aX 271483852123439248 rfl l0) l0,rfl,rfl,rfl⟩
theorem ku(h:Rep A F s H)(l:s.th.length+1<aJ)(hl:items.length≤aJ)(hq:H[q]?=some (.list (items.map .int))):
  ∃t' H',aG P0 (m+5) (.aE (.ref 213)) [.ref 5,sv "array#make",.ref q] H= .ok (bH (s.th.length+1)) H'∧Rep A F (s.gE (s.th++[t'])) H'∧t'.st=1∧t'.live=true∧t'.items=items:=by
 obtain⟨n,hn⟩: ∃n,H.length=n:=⟨_,rfl⟩;have c:=VD (m:=m) (h.hp l) hq (iF hl) hn;have len:((H.set 4 (dA (s.th.length+1))).set 6 (.dict (bT (eB 1 s.th) (.int (s.th.length+1)) (.ref (n+3))) false)).length=n:=gM (gM hn);exact⟨⟨n+3,n+2,n+1,1,true,items⟩,_,sF (by simp) c,h.YE ⟨n+3,n+2,n+1,1,true,items⟩ (bG (i:=3) len rfl) (bG (i:=2) len rfl) (bG (i:=1) len rfl) (by show _≤n+3;exact aX 271483869571743888 rfl hn) (by show _≤n+2;exact aX 271483869437526160 rfl hn) (by show _≤n+1;exact aX 271483869303308432 rfl hn),rfl,rfl,rfl⟩
end
section
variable{m n:Nat}{H J K H2:PH}{A:Ad}{F:List (Nat×PO)}{s s':St}{i i':Nat}{t t':TH}{v w:PV}{q c:Nat}{p:List Int}{bX:PV→PV}
noncomputable def lP(s:St)(i:Nat)(t:TH)(bX:PV→PV)(s':St)(i':Nat)(t':TH):Prop:= ∃s1,oH s i t s1 i' t'∧(s'=(s1.qL (bX (bH (i'+1))))∨s'=s∧s1=s∧i'=i)
theorem lP.get(g:s.th[i]?=some t)(h:lP s i t bX s' i' t'):s'.th[i']?=some t':=by
 obtain⟨s1,o,e⟩:=h;have:=o.get g;rcases e with rfl|⟨rfl,rfl,rfl⟩<;>exact this
theorem lP.items(h:lP s i t bX s' i' t'):t'.items=t.items:=by obtain⟨s1,o,_⟩:=h;exact o.items
theorem Xo{x:Int}(h:Rep A F s H)(g:s.th[i]?=some t)(lv:t.live=true)(h1:1≤t.st)(l:s.th.length+2<aJ)(hl:t.items.length<aJ)(e:mF s.val p (i+1) bX)(hq:(q,.list [spot A.R (0::p),.int x])∈F):
  ∃s' H' t',∃i':Nat,aG P0 (m+9) (.aE (.ref 213)) [.ref 5,sv "array#append",.ref q] H= .ok (.tup []) H'∧Rep A F (s'.gE (s'.th.set i' (t'.fY (t.items++[x])))) H'∧lP s i t bX s' i' t':=by
 obtain⟨s1,s',H1,t',i',c,r,o,o2⟩:=HV (m:=m) (h.app (J:=[])) g lv h1 l (aS 71427231140018192528 rfl hl) e;have o:lP s i t bX s' i' t':=⟨s1,o,o2⟩;have hf:=r.fld (o.get g);have Io:=h.tmp hq;have hq2:=r.tmp hq;have hs:decide ((t'.items.map PV.int).length<aJ)=true:=cC (by rw[cR,o.items];exact hl);refine⟨s',_,t',i',?_,r.YD (o.get g) (t.items++[x]),o⟩;obtain⟨n,hn⟩: ∃n,H.length=n:=⟨_,rfl⟩;have ha:H1.set t'.fl (.list (t'.items.map PV.int++[.int x]))=H1.set t'.fl (.list ((t.items++[x]).map PV.int)):=by rw[o.items,kJ];rfl
 refine start ?_;apply cP (B:=qV) rfl rfl hn rfl;unfold qV;dsimp only[BL];walk_at "nrm"
 repeat(first
  |(with_reducible first|exact c|exact ha)|walk_at "m1")
theorem Mo{a b:Nat}{l:List Int}(h1:H[a]?=some (.list (l.map .int)))(h2:H[b]?=some (.list [])):dE .Eq (.ref a) (.ref b) H= .ok (decide (l=[])) H:=qF (rJ (k:=[]) h1 h2)
theorem tq{x:Int}(h:Rep A F s H)(g:s.th[i]?=some t)(lv:t.live=true)(h1:1≤t.st)(l:s.th.length+2<aJ)(hl:t.items.length≤aJ)(e:mF s.val p (i+1) bX)(hq:(q,.list [spot A.R (0::p)])∈F)(hx:t.items.getLast?=some x):
  ∃s' H' t',∃i':Nat,aG P0 (m+9) (.aE (.ref 213)) [.ref 5,sv "array#pop",.ref q] H= .ok (.int x) H'∧Rep A F (s'.gE (s'.th.set i' (t'.fY t.items.dropLast))) H'∧lP s i t bX s' i' t':=by
 obtain⟨s1,s',H1,t',i',c,r,o,o2⟩:=HV (m:=m) (h.app (J:=[])) g lv h1 l (aS 71427231137870708880 rfl hl) e;have o:lP s i t bX s' i' t':=⟨s1,o,o2⟩;have hf:=r.fld (o.get g);have Io:=h.tmp hq;have hJ:=iF (l:=t'.items) (by rw[o.items];exact hl);have TR:(t'.items.map PV.int).getLast?=some (.int x):=by rw[o.items,Un,hx];rfl
 have uM:decide (t'.items=[])=false:=iW (by rw[o.items];rintro e;rw[e]at hx;exact nomatch hx);refine⟨s',_,t',i',?_,(r.app (J:=[.list []])).YD (o.get g) t.items.dropLast,o⟩;obtain⟨n,hn⟩: ∃n,H.length=n:=⟨_,rfl⟩;obtain⟨n1,gV⟩: ∃n,H1.length=n:=⟨_,rfl⟩;have hd:(H1++[PO.list []]).set t'.fl (.list (t'.items.map PV.int).dropLast)=(H1++[PO.list []]).set t'.fl (.list (t.items.dropLast.map PV.int)):=by rw[o.items,Us]
 rw[←eL H1]at c;refine start ?_;apply cP (B:=qV) rfl rfl hn rfl;unfold qV;dsimp only[BL];walk_at "nrm"
 repeat(first
  |(with_reducible first|exact c|exact TR)|((with_reducible change dE _ (PV.ref _) (PV.ref _) _=_);exact Mo (bS hf) (bG gV rfl))|((with_reducible change qP (_++_) t'.fl _=_);exact hd)|walk_at "m1")
theorem tm(h:Rep A F s H)(g:s.th[i]?=some t)(lv:t.live=true)(h1:1≤t.st)(l:s.th.length+2<aJ)(e:mF s.val p (i+1) bX)(hq:(q,.list [spot A.R (0::p)])∈F)(hx:t.items=[]):
  ∃s' H' t' d,∃i':Nat,aG P0 (m+9) (.aE (.ref 213)) [.ref 5,sv "array#pop",.ref q] H= .exc 63 d H'∧H'[d]?=some (.ns [(0,sv "index")])∧Rep A F s' H'∧lP s i t bX s' i' t':=by
 obtain⟨s1,s',H1,t',i',c,r,o,o2⟩:=HV (m:=m) (h.app (J:=[])) g lv h1 l (by rw[hx];exact lK _) e;have o:lP s i t bX s' i' t':=⟨s1,o,o2⟩;have hf:=r.fld (o.get g);have Io:=h.tmp hq;have uM:decide (t'.items=[])=true:=cC (by rw[o.items];exact hx);obtain⟨n,hn⟩: ∃n,H.length=n:=⟨_,rfl⟩;obtain⟨n1,gV⟩: ∃n,H1.length=n:=⟨_,rfl⟩;refine⟨s',H1++([.list []]++[.ns [(0,sv "index")]]),t',n1+1,i',?_,bG gV rfl,r.app,o⟩;rw[←eL H1]at c;show(fun H'=>aG P0 (m+9) (.aE (.ref 213)) [.ref 5,sv "array#pop",.ref q] H') H=_;refine start ?_;apply BC (B:=qV) rfl rfl hn rfl;unfold qV;dsimp only[BL];walk_at "nrm"
 iterate 1 (apply mO;(focus repeat(walk_at "m1"));walk_at "m1")
 apply oN
 repeat(first
  |with_reducible exact c|((with_reducible change dE _ (PV.ref _) (PV.ref _) _=_);exact Mo (bS hf) (bG gV rfl))|((with_reducible apply mO);(focus((repeat(first|with_reducible exact c|walk_at "m1"));done)))|with_reducible apply oN|with_reducible apply XC|walk_at "m1")
end
section
variable{m n:Nat}{H J K H2:PH}{A:Ad}{F:List (Nat×PO)}{s s':St}{i i':Nat}{t t':TH}{v w:PV}{q c:Nat}{p:List Int}{bX:PV→PV}
theorem N3{at_:Int}(h:Rep A F s H)(g:s.th[i]?=some t)(lv:t.live=true)(h1:1≤t.st)(l:s.th.length+2<aJ)(hl:t.items.length≤aJ)(e:mF s.val p (i+1) bX)(h0:0≤at_)(hx:at_<t.items.length):
  ∃s' H' t',∃i':Nat,aG P0 (m+9) (.aE (.ref 201)) [.ref 5,spot A.R (0::p),.int at_] H= .ok (spot t'.fl [at_]) H'∧Rep A F s' H'∧lP s i t bX s' i' t':=by
 refine bQ fun G_ aQ=>?_;obtain⟨s1,s',H1,t',i',c,r,o,o2⟩:=HV (m:=m) (h.app (J:=[])) g lv h1 l hl e;have o:lP s i t bX s' i' t':=⟨s1,o,o2⟩;have hf:=r.fld (o.get g);have el:aG P0 (m+8) (.aE (.ref 194)) [.ref t'.fl,.int at_] H1= .ok (.int (t'.items[at_.toNat]'(by rw[o.items];exact(yG h0).mpr hx))) H1:=element_at (m:=m+7) hf h0 (by rw[fW,fZ (by rw[o.items];exact(yG h0).mpr hx)];rfl) (iF (by rw[o.items];exact hl));refine aQ ?_;refine⟨s',H1,t',i',?_,r,o⟩;obtain⟨n,hn⟩: ∃n,H.length=n:=⟨_,rfl⟩;refine start ?_;apply cP (B:=EZ) rfl rfl hn rfl;unfold EZ;dsimp only[SR];walk_at "nrm"
 repeat(first
  |(with_reducible first|exact c|exact el|exact place_in _)|walk_at "m1")
theorem N2{at_:Int}(h:Rep A F s H)(g:s.th[i]?=some t)(lv:t.live=true)(h1:1≤t.st)(l:s.th.length+2<aJ)(hl:t.items.length≤aJ)(e:mF s.val p (i+1) bX)(hx: ¬(0≤at_∧at_<t.items.length)):
  ∃s' H' t' d,∃i':Nat,aG P0 (m+9) (.aE (.ref 201)) [.ref 5,spot A.R (0::p),.int at_] H= .exc 63 d H'∧H'[d]?=some (.ns [(0,sv "index")])∧Rep A F s' H'∧lP s i t bX s' i' t':=by
 refine bQ fun G_ aQ=>?_;obtain⟨s1,s',H1,t',i',c,r,o,o2⟩:=HV (m:=m) (h.app (J:=[])) g lv h1 l hl e;have o:lP s i t bX s' i' t':=⟨s1,o,o2⟩;have hf:=r.fld (o.get g);obtain⟨n1,gV⟩: ∃n,H1.length=n:=⟨_,rfl⟩;have el:=Es (m:=m+7) (n:=n1) (r:=t'.fl) (i:=at_) hf (by rw[cR,o.items];exact hx) (iF (by rw[o.items];exact hl)) gV;refine aQ ?_;refine⟨s',H1++[.ns [(0,sv "index")]],t',n1,i',?_,bG (i:=0) gV rfl,r.app,o⟩;obtain⟨n,hn⟩: ∃n,H.length=n:=⟨_,rfl⟩;show(fun H'=>aG P0 (m+9) (.aE (.ref 201)) [.ref 5,spot A.R (0::p),.int at_] H') H=_;refine start ?_;apply BC (B:=EZ) rfl rfl hn rfl;unfold EZ;dsimp only[SR];walk_at "nrm"
 iterate 1 (apply mO;(focus repeat(first|with_reducible exact c|walk_at "m1"));walk_at "m1")
 apply oN
 repeat(first
  |with_reducible exact el|with_reducible apply Er|walk_at "m1")
theorem aBZ{at_ x:Int}{r:Nat}{items:List Int}(h:H[r]?=some (.list (items.map .int)))(h0:0≤at_)(hx:at_<items.length)(hl:items.length≤aJ):
  aG P0 (m+6) (.aE (.ref 131)) [spot r [at_],.int x] H= .ok .none (H.set r (.list ((items.set at_.toNat x).map .int))):=by
 have:=Re (m:=m) (p:=[]) (v:= .int x) (by decide) h h0 (by rw[fW,fZ ((yG h0).mpr hx)];rfl) (iF hl) (fun _=>Kz);rw[this,PF]
theorem Own.sub{L L':List (Nat×PO)}(h:Own L H)(s:L'.Sublist L):Own L' H:=⟨fun x m=>h.1 x (s.subset m),yH (s.map _) h.2⟩
theorem D3{r:RW}(h:s.rows[i]?=some r): ∃R,(cells A F s).Perm (r.cell::R)∧∀l:List Int,(cells A F (s.iA (s.rows.set i (r.fY l)))).Perm (RW.cell (r.fY l)::R):=by
 have hi:i<s.rows.length:=(eF.mp h).1;have e:s.rows[i]=r:=by rw[fZ hi]at h;exact gQ h
 have sp:s.rows=s.rows.take i++r::s.rows.drop (i+1):=by
  rw[←e,←AQ hi,Ar]
 have er: ∀l,eS (s.rows.set i (r.fY l))=eS s.rows:=by
  intro l;unfold eS;rw[PF];apply JG;intro j;rw[JH];split
  ·next ej=>subst ej;rw[aV (by rw[cR];exact hi),fW,h];rfl
  ·rfl
 let fx:List (Nat×PO):=[(4,dA s.th.length),(6,.dict (eB 1 s.th) false),(3,.list [.ref 2,.int s.k]),(2,.list (A.nums.map .int)),(5,.inst 375 4),(A.R,.list [s.val]),(A.B,.dict (mI A s.next) false),(A.O,.dict (dF s.of) false),
  (A.W,.dict (eS s.rows) false),(A.N,.dict s.nat false),(A.D,.dict s.hands false)]
 refine⟨(fx++s.th.flatMap TH.cells++(s.rows.take i).map RW.cell)++((s.rows.drop (i+1)).map RW.cell++F),?_,fun l=>?_⟩
 ·have:cells A F s=(fx++s.th.flatMap TH.cells++(s.rows.take i).map RW.cell)++r.cell::((s.rows.drop (i+1)).map RW.cell++F):=by
   show fx++(s.th.flatMap TH.cells++(s.rows.map RW.cell++F))=_
   conv=>lhs;rw[sp]
   rw[kJ,dU];simp only[cM,DY]
  rw[this];exact JO
 ·have:cells A F (s.iA (s.rows.set i (r.fY l)))=(fx++s.th.flatMap TH.cells++(s.rows.take i).map RW.cell)++RW.cell (r.fY l)::((s.rows.drop (i+1)).map RW.cell++F):=by
   unfold cells;simp only[er];rw[Ux,aV hi,kJ,dU];simp only[fx,cM,DY]
  rw[this];exact JO
theorem Rep.YF{r:RW}(h:Rep A F s H)(g:s.rows[i]?=some r)(l:List Int):Rep A F (s.iA (s.rows.set i (r.fY l))) (H.set r.a (.list (l.map .int))):=by
 obtain⟨R,p,q⟩:=D3 (A:=A) (F:=F) g;exact Own.perm (Own.set (Own.perm h p)) (q l).symm
theorem Rep.newRow(h:Rep A F s H)(r:RW)(g:(H.set A.W (.dict (eS (s.rows++[r])) false)++J)[r.a]?=some (.list (r.items.map .int)))(l:H.length≤r.a):
  Rep A F (s.iA (s.rows++[r])) (H.set A.W (.dict (eS (s.rows++[r])) false)++J):=by
 have a1:=Own.set (o':= .dict (eS (s.rows++[r])) false) (Own.perm h (lZ (k:=8) rfl));have a2:=Own.add (Own.app (J:=J) a1) g (fun x m=>by have:=Own.lt a1 m;rw[dS]at this;exact fun fK=>dM 4683400338239965329428054038 rfl this l fK);refine Own.perm (Own.perm a2 (.swap ..)) (aCS ?_ (lZ (L:=cells A F (s.iA (s.rows++[r]))) (k:=8) rfl).symm);refine aCQ _ ?_;let fx:List (Nat×PO):=[(4,dA s.th.length),(6,.dict (eB 1 s.th) false),(3,.list [.ref 2,.int s.k]),(2,.list (A.nums.map .int)),(5,.inst 375 4),(A.R,.list [s.val]),(A.B,.dict (mI A s.next) false),(A.O,.dict (dF s.of) false),
  (A.N,.dict s.nat false),(A.D,.dict s.hands false)]
 show(r.cell::(fx++(s.th.flatMap TH.cells++(s.rows.map RW.cell++F)))).Perm (fx++(s.th.flatMap TH.cells++((s.rows++[r]).map RW.cell++F)));rw[kJ,←cM,←cM,←cM,←cM,←cM];show(r.cell::_).Perm (_++[r.cell]++F);rw[cM (bs:=[r.cell])];exact JO.symm
theorem Rep.J0(h:Rep A F s H)(l:List RW)(sb:l.Sublist s.rows):Rep A F (s.iA l) (H.set A.W (.dict (eS l) false)):=by
 have a1:=Own.set (o':= .dict (eS l) false) (Own.perm h (lZ (k:=8) rfl));refine Own.perm (Own.sub a1 ?_) (lZ (L:=cells A F (s.iA l)) (k:=8) rfl).symm;refine aCT _ ?_;let fx:List (Nat×PO):=[(4,dA s.th.length),(6,.dict (eB 1 s.th) false),(3,.list [.ref 2,.int s.k]),(2,.list (A.nums.map .int)),(5,.inst 375 4),(A.R,.list [s.val]),(A.B,.dict (mI A s.next) false),(A.O,.dict (dF s.of) false),
  (A.N,.dict s.nat false),(A.D,.dict s.hands false)]
 show(fx++(s.th.flatMap TH.cells++(l.map RW.cell++F))).Sublist (fx++(s.th.flatMap TH.cells++(s.rows.map RW.cell++F)));exact(OU _).append ((OU _).append ((sb.map _).append (OU _)))
end
section
set_option genInjectivity true
variable{m n:Nat}{H J K H2:PH}{A:Ad}{F:List (Nat×PO)}{s s':St}{i i':Nat}{v w hv:PV}{q c:Nat}{ki:PK}{items:List Int}{j:Int}{r:RW}
noncomputable def oset:List (PK×Int)→PK→Int→List (PK×Int)
 | [],k,v=>[(k,v)]|(j,u)::r,k,v=>if j=k then(j,v)::r else(j,u)::oset r k v
noncomputable def cI(of:List (PK×Int))(k:PK):List (PK×Int):=of.filter fun e=>e.1≠k
noncomputable def vals(of:List (PK×Int)):List Int:=of.map (·.2)
theorem HO: ∀(of:List (PK×Int)) (k:PK) (v:Int),bT (dF of) k (.int v)=dF (oset of k v)
 | [],_,_=>rfl|(j,u)::r,k,v=>by
  have:=HO r k v;simp only[dF,dU,bT,oset]at this⊢;split
  ·rfl
  ·rw[dU,←this]
theorem sU: ∀(of:List (PK×Int)) (k:PK),bZ (dF of) k=(of.lookup k).map .int
 | [],_=>rfl|(j,u)::r,k=>by
  have:=sU r k;simp only[bZ,dF,dU,gZ]at this⊢;split
  ·rfl
  ·exact this
theorem qo(of:List (PK×Int))(k:PK):iD (dF of) k=dF (cI of k):=by unfold iD dF cI;rw[OX];rfl
theorem MQ(of:List (PK×Int)):(dF of).map (·.2)=(vals of).map .int:=by simp only[dF,vals,tR];rfl
theorem xJ(of:List (PK×Int)):(dF of).length=of.length:=by simp only[dF,cR]
theorem Pa(l:List RW):(eS l).length=l.length:=by simp only[eS,cR]
theorem vD: ∀(l:List RW) (j:Int),cZ (eS l) (.int j)=true
 | [],_=>rfl|_::r,j=>vD r j
noncomputable def eX(l:List RW)(j:Int):Option RW:=l.find? fun r=>r.j==j
theorem zR: ∀(l:List RW) (j:Int),bZ (eS l) (.int j)=(eX l j).map fun r=> .ref r.a
 | [],_=>rfl|x::r,j=>by
  have:=zR r j;simp only[bZ,eS,eX,dU,gZ,List.find?]at this⊢;by_cases e:x.j=j
  ·subst e;simp only[fG,pE]
  ·have e1:(x.j==j)=false:=dC.mpr e
   have e2:(PK.int j==PK.int x.j)=false:=dC.mpr (by intro h;injection h with h;exact e h.symm);simp only[e1,e2];exact this
theorem WY: ∀(l:List RW) (r:RW),(∀x∈l,x.j≠r.j)→bT (eS l) (.int r.j) (.ref r.a)=eS (l++[r])
 | [],_,_=>rfl|x::l,r,h=>by
  have:=WY l r (fun y m=>h y (tT _ m));have e: ¬PK.int x.j=PK.int r.j:=by intro g;injection g with g;exact h x (tU ..) g
  simp only[eS,dU,DY,bT,aN e]at this⊢;rw[this]
theorem vz(l:List RW)(j:Int):iD (eS l) (.int j)=eS (l.filter fun r=>r.j≠j):=by
 unfold iD eS;rw[OX];congr 1;apply Af;intro x _;simp
noncomputable def tupK(of:List (PK×Int)):Prop:= ∀e∈of,∃l,e.1= .tup l
theorem rG{of:List (PK×Int)}(h:tupK of)(l:List PA):cZ (dF of) (.tup l)=true:=by
 unfold cZ dF;rw[ZZ,jT];intro e m;obtain⟨k,x⟩:=h e m;exact bN (PK.like (.tup l)) x
theorem pL(g:H[A.B]?=some (.dict (mI A j) false)):nF (.ref A.B) (sv "of") H= .ok (.ref A.O) H:=CX g rfl rfl rfl
theorem vZ(g:H[A.B]?=some (.dict (mI A j) false)):nF (.ref A.B) (sv "rows") H= .ok (.ref A.W) H:=CX g rfl rfl rfl
theorem JZ(g:H[A.B]?=some (.dict (mI A j) false)):nF (.ref A.B) (sv "next") H= .ok (.int j) H:=CX g rfl rfl rfl
theorem Zi{k:Int}(g:H[A.B]?=some (.dict (mI A j) false))(e:H.set A.B (.dict (mI A k) false)=H2):DH (.ref A.B) (sv "next") (.int k) H= .ok () H2:=Nj g rfl rfl rfl e
theorem rH{L:List (Nat×PO)}(h:Own L H){i j:Nat}{x y:Nat×PO}(hi:L[i]?=some x)(hj:L[j]?=some y)(ne:i≠j):x.1≠y.1:=by
 intro e;have a:(L.map (·.1))[i]?=some x.1:=by rw[fW,hi];rfl
 have b:(L.map (·.1))[j]?=some y.1:=by rw[fW,hj];rfl
 obtain⟨l1,e1⟩:=eF.mp a;obtain⟨l2,e2⟩:=eF.mp b;have nd:=List.pairwise_iff_getElem.mp h.2;rcases Nat.lt_or_gt_of_ne ne with z|z
 ·exact nd i j l1 l2 z (e1.trans (e.trans e2.symm))
 ·exact nd j i l2 l1 z (e2.trans (e.symm.trans e1.symm))
theorem Rep.bo(h:Rep A F s H):A.B≠A.O:=rH h (i:=6) (j:=7) rfl rfl (by decide)
theorem Rep.bw(h:Rep A F s H):A.B≠A.W:=rH h (i:=6) (j:=8) rfl rfl (by decide)
theorem Rep.wo(h:Rep A F s H):A.W≠A.O:=rH h (i:=8) (j:=7) rfl rfl (by decide)
theorem Rep.wb(h:Rep A F s H):A.W≠A.B:=h.bw.symm
theorem Rep.ow(h:Rep A F s H):A.O≠A.W:=h.wo.symm
structure Wb(s:St):Prop where
 tk:tupK s.of
 rl: ∀r∈s.rows,r.j≤s.next
 lo:s.of.length+2<aJ
 lr:s.rows.length+2<aJ
theorem VK{l:List PA}(h:Rep A F s H)(b:Wb s)(hk:keyOf hv=some (.tup l))(hq:H[q]?=some (.list (items.map .int)))(hl:items.length≤aJ):
  ∃a H',aG P0 (m+1) (.aE (.ref 498)) [.ref A.B,hv,.ref q] H= .ok .none H'∧Rep A F (((s.tG (s.next+1)).iA (s.rows++[⟨s.next+1,a,items⟩])).kG (oset s.of (.tup l) (s.next+1))) H':=by
 obtain⟨n,hn⟩: ∃n,H.length=n:=⟨_,rfl⟩;have e1:bT (eS s.rows) (.int (s.next+1)) (.ref n)=eS (s.rows++[⟨s.next+1,n,items⟩]):=WY s.rows ⟨s.next+1,n,items⟩ (fun x m=>by have:=b.rl x m;show x.j≠s.next+1;exact fun fK=>uG 9109488761017007435939862 rfl fK this);have r1:=h.aAS (s.next+1);have r2:=r1.newRow (J:=[.list (items.map .int)]) ⟨s.next+1,n,items⟩ (bG (i:=0) (gM (gM hn)) rfl) (by rw[dS,hn];exact fQ _);have r3:=r2.NT (oset s.of (.tup l) (s.next+1));refine⟨n,_,?_,r3⟩;have hB:=h.book;have hO:=h.of;have hW:=h.zS;have bo:=h.bo;have bw:=h.bw;have wo:=h.wo;have wb:=h.wb;have d1:cZ (eS s.rows) (.int (s.next+1))=true:=vD _ _;have d2:=rG b.tk l;have l1:decide ((eS s.rows).length<aJ)=true:=cC (by rw[Pa];have:=b.lr;exact aS 292565941976171754356881 rfl this);have l2:decide ((dF s.of).length<aJ)=true:=cC (by rw[xJ];have:=b.lo;exact aS 292565941976171754356881 rfl this);have hJ:=iF hl;have bq:A.B≠q:=fT hB hq (by simp);have wq:A.W≠q:=fT hW hq (by simp);rw[←HO,←e1];refine start ?_;apply cP (B:=QX) rfl rfl hn rfl;unfold QX;dsimp only[Ge];walk_at "nrm"
 repeat(first
  |((with_reducible apply JZ);(focus walk_at "lk"))|((with_reducible apply vZ);(focus walk_at "lk"))|((with_reducible apply pL);(focus walk_at "lk"))|((with_reducible apply Zi);(focus walk_at "lk");(focus walk_at "st"))|with_reducible exact hk|walk_at "m1")
 rw[lI _ _ (by rw[dS,dS];exact hU hO)];rfl
end
section
variable{m n:Nat}{H J K H2:PH}{A:Ad}{F:List (Nat×PO)}{s s':St}{i i':Nat}{v w hv:PV}{q c:Nat}{ki:PK}{items:List Int}{j:Int}{r r':RW}{l:List PA}
theorem LT: ∀l:List Int,intsOf (l.map .int)=some l
 | []=>rfl|x::r=>by
  show(intsOf (r.map .int)).map _=_;rw[LT r];rfl
theorem Nq: ∀(of:List (PK×Int)) (k:PK) (v:Int),(oset of k v).lookup k=some v
 | [],k,v=>by simp only[oset,gZ,fG]
 |(a,u)::r,k,v=>by
  unfold oset;split
  ·next h=>subst h;simp only[gZ,fG]
  ·next h=>
   have h':(k==a)=false:=dC.mpr (gH h);simp only[gZ,h'];exact Nq r k v
noncomputable def qQ(s:St)(l:List PA)(j:Int)(r:RW)(s':St)(r':RW):Prop:=
 ((vals s.of).count j≤1∧s'=s∧r'=r)∨(1<(vals s.of).count j∧∃a,r'=⟨s.next+1,a,r.items⟩∧s'=(((s.tG (s.next+1)).iA (s.rows++[r'])).kG (oset s.of (.tup l) (s.next+1))))
theorem IC(h:eX s.rows j=some r):r∈s.rows:=PJ h
theorem WK(h:Rep A F s H)(b:Wb s)(hk:keyOf hv=some (.tup l))(ho:s.of.lookup (.tup l)=some j)(hr:eX s.rows j=some r)(hl:r.items.length≤aJ):
  ∃s' H' r',aG P0 (m+2) (.aE (.ref 491)) [.ref A.B,hv] H= .ok (.ref r'.a) H'∧Rep A F s' H'∧qQ s l j r s' r':=by
 refine bQ fun G_ aQ=>?_;obtain⟨n,hn⟩: ∃n,H.length=n:=⟨_,rfl⟩;have hB:=h.book;have hO:=h.of;have hW:=h.zS;have d1:cZ (eS s.rows) (.int j)=true:=vD _ _;have d2:=rG b.tk l;have g1:bZ (dF s.of) (.tup l)=some (.int j):=by rw[sU,ho];rfl
 have g2:bZ (eS s.rows) (.int j)=some (.ref r.a):=by rw[zR,hr];rfl
 have v1:intsOf ((dF s.of).map (·.2))=some (vals s.of):=by rw[MQ,LT]
 have v2:decide (((dF s.of).map (·.2)).length≤aJ)=true:=cC (by rw[cR,xJ];have:=b.lo;exact aS 292565941976171754356880 rfl this);by_cases hc:1<(vals s.of).count j
 ·have iX:decide ((1:Int)<((vals s.of).count j:Nat))=true:=cC (aS 1056089651086361 rfl hc)
  obtain⟨a,H1,c,r1⟩:=VK (m:=m) (h.app (J:=[.list ((dF s.of).map (·.2))])) b hk (h.app.row (IC hr)) hl;refine aQ ?_;refine⟨_,_,⟨s.next+1,a,r.items⟩,?_,r1,.inr ⟨hc,a,rfl,rfl⟩⟩;have kB:=r1.book;have kO:=r1.of;have kW:=r1.zS;have e1:cZ (eS (s.rows++[⟨s.next+1,a,r.items⟩])) (.int (s.next+1))=true:=vD _ _;have e2:cZ (dF (oset s.of (.tup l) (s.next+1))) (.tup l)=true:=by rw[←HO];exact RZ rfl d2
  have e3:bZ (dF (oset s.of (.tup l) (s.next+1))) (.tup l)=some (.int (s.next+1)):=by rw[sU,Nq];rfl
  have e4:bZ (eS (s.rows++[⟨s.next+1,a,r.items⟩])) (.int (s.next+1))=some (.ref a):=by
   rw[←WY s.rows ⟨s.next+1,a,r.items⟩ (fun x m=>by have:=b.rl x m;show x.j≠s.next+1;exact fun fK=>uG 9109488761017007435939862 rfl fK this),Dz]
  refine start ?_;apply cP (B:=FG) rfl rfl hn rfl;unfold FG;dsimp only[SX];walk_at "nrm"
  repeat(first
   |((with_reducible change aG _ _ (PV.aE (aR 498)) _ _=_);exact c)|((with_reducible apply JZ);(focus walk_at "lk"))|((with_reducible apply vZ);(focus walk_at "lk"))|((with_reducible apply pL);(focus walk_at "lk"))|with_reducible exact hk|((with_reducible apply HL);(focus walk_at "lk"))|((with_reducible apply VS);(focus walk_at "lk"))|walk_at "m1")
 ·have iX:decide ((1:Int)<((vals s.of).count j:Nat))=false:=iW (aS 1056089676252188 rfl hc)
  refine aQ ?_;refine⟨s,_,r,?_,h.app (J:=[.list ((dF s.of).map (·.2))]),.inl ⟨by exact aS 1056089676316816 rfl hc,rfl,rfl⟩⟩;refine start ?_;apply cP (B:=FG) rfl rfl hn rfl;unfold FG;dsimp only[SX];walk_at "nrm"
  repeat(first
   |((with_reducible apply JZ);(focus walk_at "lk"))|((with_reducible apply vZ);(focus walk_at "lk"))|((with_reducible apply pL);(focus walk_at "lk"))|with_reducible exact hk|((with_reducible apply HL);(focus walk_at "lk"))|((with_reducible apply VS);(focus walk_at "lk"))|walk_at "m1")
theorem Nx: ∀p:List Int,partsOf (p.map .int)=some (p.map .int):=List.rec rfl fun x _ h=>bN (fF (PA.int x:: ·)) h
theorem Jo{l:List Int}{x:Int}(g:H[q]?=some (.list (l.map .int))):dE .NotIn (.int x) (.ref q) H= .ok (!l.contains x) H:=by
 have e3: ∀l:List Int,((l.map PA.int).any fun p=>p== .int x)=l.contains x:=by
  intro l;induction l with
  |nil=>rfl|cons y r ih=>
   rw[dU,Aa,ih,List.contains_cons];congr 1;by_cases h:x=y
   ·subst h;simp only[fG]
   ·rw[dC.mpr h,dC.mpr (by intro e;injection e with e;exact h e.symm)]
 have e:isIn H (.int x) (.ref q)=some (l.contains x):=orr rfl (orr (KB (nZ g rfl)) (eW (a:=x) rfl (eW (gL g) (by
  show(partsOf (l.map .int)).map _=_;rw[Nx];exact bN some (e3 l)))))
 exact cG (bN (fF not) e) rfl
theorem VT{x:PV}{ent Ex:cA}(g:H[q]?=some (.dict ent false))(k:keyOf x=some ki)(s:cZ ent ki=true)(s1:decide (ent.length≤aJ)=true)(s2:bZ ent ki=some v)(e0:iD ent ki=Ex)(e:H.set q (.dict Ex false)=H2):BM.run .pN (.ref q) [x] H= .ok v H2:=by subst e0;exact Nc g k s s1 s2 e
theorem UV(h:Rep A F s H)(b:Wb s)(hk:keyOf hv=some (.tup l))(ho:s.of.lookup (.tup l)=some j)(hr:eX s.rows j=some r):
  ∃H',aG P0 (m+1) (.aE (.ref 505)) [.ref A.B,hv] H= .ok .none H'∧Rep A F ((s.kG (cI s.of (.tup l))).iA (if(vals (cI s.of (.tup l))).contains j then s.rows else s.rows.filter fun r=>r.j≠j)) H':=by
 obtain⟨n,hn⟩: ∃n,H.length=n:=⟨_,rfl⟩;have hB:=h.book;have hO:=h.of;have hW:=h.zS;have ob:A.O≠A.B:=h.bo.symm;have ow:=h.ow;have d1:cZ (eS s.rows) (.int j)=true:=vD _ _;have d2:=rG b.tk l;have g1:bZ (dF s.of) (.tup l)=some (.int j):=by rw[sU,ho];rfl
 have g2:bZ (eS s.rows) (.int j)=some (.ref r.a):=by rw[zR,hr];rfl
 have l1:decide ((dF s.of).length≤aJ)=true:=cC (by rw[xJ];have:=b.lo;exact aS 292565941976171754356880 rfl this);have l2:decide ((eS s.rows).length≤aJ)=true:=cC (by rw[Pa];have:=b.lr;exact aS 292565941976171754356880 rfl this);have lv:(cI s.of (.tup l)).length≤s.of.length:=ED _ _;have l3:decide (((dF (cI s.of (.tup l))).map (·.2)).length≤aJ)=true:=cC (by rw[cR,xJ];have:=b.lo;exact aX 613555250384104152949097300112 rfl lv this);have eD:iD (dF s.of) (.tup l)=dF (cI s.of (.tup l)):=qo _ _;have zX:H.set A.O (.dict (iD (dF s.of) (.tup l)) false)=H.set A.O (.dict (dF (cI s.of (.tup l))) false):=by rw[eD]
 have r1:=h.NT (cI s.of (.tup l));by_cases hc:(vals (cI s.of (.tup l))).contains j=true
 ·have iX:(!(vals (cI s.of (.tup l))).contains j)=false:=by rw[hc];rfl
  rw[aV hc];refine⟨_,?_,r1.app (J:=[.list ((dF (cI s.of (.tup l))).map (·.2))])⟩;refine start ?_;apply cP (B:=FH) rfl rfl hn rfl;unfold FH;dsimp only[SY];walk_at "nrm"
  repeat(first
   |((with_reducible apply vZ);(focus walk_at "lk"))|((with_reducible apply pL);(focus walk_at "lk"))|with_reducible exact hk|((with_reducible apply VT);(focus walk_at "lk");(focus exact hk);(focus exact d2);(focus exact l1);(focus exact g1);(focus exact eD);(focus walk_at "st"))|((with_reducible apply HL);(focus walk_at "lk"))|((with_reducible change dE IZ _ _ _=_);exact Jo (bG (gM hn) (by rw[MQ];rfl)))|walk_at "m1")
 ·have iX:(!(vals (cI s.of (.tup l))).contains j)=true:=by rw[Si.mpr hc];rfl
  rw[aN hc];have r2:=r1.J0 (s.rows.filter fun r=>r.j≠j) (EB);rw[←vz]at r2;refine⟨_,?_,r2.app (J:=[.list ((dF (cI s.of (.tup l))).map (·.2))])⟩;refine start ?_;apply cP (B:=FH) rfl rfl hn rfl;unfold FH;dsimp only[SY];walk_at "nrm"
  repeat(first
   |((with_reducible apply vZ);(focus walk_at "lk"))|((with_reducible apply pL);(focus walk_at "lk"))|with_reducible exact hk|((with_reducible apply VT);(focus walk_at "lk");(focus exact hk);(focus exact d2);(focus exact l1);(focus exact g1);(focus exact eD);(focus walk_at "st"))|((with_reducible apply Nc);(focus walk_at "lk"))|((with_reducible apply HL);(focus walk_at "lk"))|((with_reducible change dE IZ _ _ _=_);exact Jo (bG (gM hn) (by rw[MQ];rfl)))|walk_at "m1")
end
section
variable{m n:Nat}{H J K H2:PH}{A:Ad}{F:List (Nat×PO)}{s s':St}{i i':Nat}{v w hv:PV}{q c:Nat}
noncomputable def bP(nums:List Int)(k:Nat)(size:Int):Int:=match nums[k]? with
 |some x=>tN x size|none=>tN (7*k+tM k 5+3) size
theorem pP{nums:List Int}{k:Nat}{size:Int}(h:0<size):0≤bP nums k size:=by
 unfold bP;split<;>exact Int.fmod_nonneg_of_pos _ h
theorem pQ{nums:List Int}{k:Nat}{size:Int}(h:0<size):bP nums k size<size:=by
 unfold bP;split<;>exact Int.fmod_lt_of_pos _ h
theorem VY{a b:Int}(h:b≠0):binOp .Mod (.int a) (.int b) H= .ok (.int (tN a b)) H:=fL (by rw[dC.mpr h];rfl) rfl
theorem VZ{a b:Int}(h:small a=true)(k:small b=true):binOp .Mult (.int a) (.int b) H= .ok (.int (a*b)) H:=fL (vW h k) rfl
theorem VU{a b:Int}(z:b≠0)(h:small a=true)(k:small b=true):binOp .FloorDiv (.int a) (.int b) H= .ok (.int (tM a b)) H:=by
 have _:=h;exact fL (vW (by rw[dC.mpr z];rfl) k) rfl
theorem NK{a:Int}(h:a.natAbs≤1000000):small a=true:=cC (tW h (by decide+kernel))
theorem KK{u w k:Nat}{nums:List Int}{size:Int}(hw:H[w]?=some (.list [.ref u,.int k]))(hu:H[u]?=some (.list (nums.map .int)))(n3:w≠u)(hs:0<size)(hk:k≤1000)(hl:nums.length≤40):aG P0 (m+1) (.aE (.ref 435)) [.ref w,.int size] H= .ok (.int (bP nums k size)) (H.set w (.list [.ref u,.int (k+1:Nat)])):=by
 obtain⟨n,hn⟩: ∃n,H.length=n:=⟨_,rfl⟩;have hJ:=iF (l:=nums) (by simp only[aJ];exact aS 281475286996942992 rfl hl);have hz:size≠0:=by exact fun fK=>jH 35417791970868614660118 rfl hs fK
 have s1:small (k:Int)=true:=NK (bW hk (by decide));have s7:small 7=true:=by decide+kernel
 have s5:small 5=true:=by decide+kernel
 have z5:(5:Int)≠0:=by decide
 by_cases hc:k<nums.length
 ·have iX:decide ((k:Int)<(nums.length:Nat))=true:=cC (aX 66280239546521 rfl hc)
  have uN:iI (nums.map PV.int) k=some (.int nums[k]):=NI (aS 125894680 rfl) (fZ hc) (by simp only[aJ];exact aS 281475286996942992 rfl hl);have e:bP nums k size=tN nums[k] size:=by unfold bP;rw[fZ hc]
  rw[e];refine start ?_;apply cP (B:=FD) rfl rfl hn rfl;unfold FD;dsimp only[SV];walk_at "nrm"
  repeat(first
   |with_reducible apply VY|with_reducible apply VZ|with_reducible apply VU|((with_reducible apply oQ);(focus walk_at "lk"))|walk_at "m1")
 ·have iX:decide ((k:Int)<(nums.length:Nat))=false:=iW (aX 66280245837980 rfl hc)
  have e:bP nums k size=tN (7*k+tM k 5+3) size:=by unfold bP;rw[jN (by exact aX 66007515414672 rfl hc)]
  rw[e];refine start ?_;apply cP (B:=FD) rfl rfl hn rfl;unfold FD;dsimp only[SV];walk_at "nrm"
  repeat(first
   |with_reducible apply VY|with_reducible apply VZ|with_reducible apply VU|((with_reducible apply oQ);(focus walk_at "lk"))|walk_at "m1")
theorem K2{size:Int}(h:Rep A F s H)(hs:0<size)(hk:s.k≤1000)(hl:A.nums.length≤40):aG P0 (m+1) (.aE (.ref 435)) [.ref 3,.int size] H= .ok (.int (bP A.nums s.k size)) (H.set 3 (.list [.ref 2,.int (s.k+1:Nat)])):=KK h.well h.nums (by decide) hs hk hl
end
section
variable{m n:Nat}{H J K H2:PH}{A:Ad}{F:List (Nat×PO)}{s s':St}{i i':Nat}{v w hv:PV}{q c:Nat}
theorem nQ{size:Int}(h:Rep A F s H)(hs:0<size)(hk:s.k≤1000)(hl:A.nums.length≤40):aG P0 (m+1) (.aE (.ref 435)) [.ref 3,.int size] (H++J)= .ok (.int (bP A.nums s.k size)) (H.set 3 (.list [.ref 2,.int (s.k+1:Nat)])++J):=by
 rw[K2 h.app hs hk hl,lI _ _ (hU h.well)]
theorem qZ{size:Int}(h:Rep A F s H)(j:Nat)(hs:0<size)(hk:s.k+j≤1000)(hl:A.nums.length≤40):aG P0 (m+1) (.aE (.ref 435)) [.ref 3,.int size] (H.set 3 (.list [.ref 2,.int (s.k+j:Nat)])++J)= .ok (.int (bP A.nums (s.k+j) size)) (H.set 3 (.list [.ref 2,.int (s.k+j+1:Nat)])++J):=by
 have:=nQ (m:=m) (J:=J) (h.mB (s.k+j)) hs hk hl;rw[this,vQ]
theorem Cc(hn:H.length=n):aG P0 (m+1) (.aE (.ref 393)) [] H= .ok (.ref n) (H++[.list [bL [1],bL [2,1]]]):=by
 refine start ?_;apply cP (B:=QU) rfl rfl hn rfl;unfold QU;dsimp only[Gb];walk_at "nrm"
 repeat walk_at "m1"
theorem VR(hn:H.length=n):aG P0 (m+1) (.aE (.ref 386)) [] H= .ok (.ref n) (H++[.list [bL [0],bL [2,0],bL [3,-1,0]]]):=by
 refine start ?_;apply cP (B:=QT) rfl rfl hn rfl;unfold QT;dsimp only[Ga];walk_at "nrm"
 repeat walk_at "m1"
noncomputable def iH(d:Int):List Int:=if d=0 then[1]else[2,1]
abbrev kept(x:Int):PV:= .tup [sv "kept",.int x]
abbrev eT(A:Ad)(c c':Nat)(way:Int)(p:List Int)(x name:Int):aW:=[some (.ref 3),some (.ref c),some (spot A.R [0]),some (.ref A.D),some (.ref A.B),some (.ref A.N),some (.int way),some (bL p),some (.int x),some (kept name),none,none,none,none,some (.ref c'),none,none,none,none,none,none,none,none,none,none,none,none,none,none,none,none,none]
theorem Ny(d:Int):(iH d).length≤3:=by unfold iH;split<;>decide
theorem Oa{d:Int}(h0:0≤d)(h1:d<2):iI [bL [1],bL [2,1]] d=some (bL (iH d)):=by
 have:d=0∨d=1:=HQ h0 h1;rcases this with rfl|rfl<;>rfl
theorem u6(h:Rep A F s H)(hk:s.k+3≤1000)(hl:A.nums.length≤40)(hh:s.hands.length≤1000):
  ∃H1 c c',Rep A ((c',.cell (some (spot A.R (0::iH (bP A.nums (s.k+1) 2)))))::(c,.cell (some (.ref 5)))::F) (s.wk (s.k+3)) H1∧
   ∀v H2,gW (dG (aG P0 (m+3)) (eT A c c' (bP A.nums s.k 10) (iH (bP A.nums (s.k+1) 2)) (bP A.nums (s.k+2) 90-40) (s.next+100*s.hands.length)) H1)= .ok v H2→
    aG P0 (m+4) (.aE (.ref 540)) [.ref 3,.ref 5,spot A.R [0],.ref A.D,.ref A.B,.ref A.N] H= .ok v H2:=by
 obtain⟨n,hn⟩: ∃n,H.length=n:=⟨_,rfl⟩;have ln:(H.set 3 (.list [.ref 2,.int (s.k+3:Nat)])).length=n:=gM hn;have r1:=((h.mB (s.k+3)).keep (J:=[.cell (some (.ref 5))]) (bG (i:=0) ln rfl) (by rw[ln];exact fQ _)).keep (J:=[.cell (some (spot A.R (0::iH (bP A.nums (s.k+1) 2)))),.list [bL [1],bL [2,1]]]) (bG (i:=0) (lW ln) rfl) (by rw[lW ln];exact fQ _);rw[cM]at r1;refine⟨_,_,_,r1,fun v H2 hv=>?_⟩;obtain⟨fl,dO,hv,hw⟩:=Ox hv;have hB:=h.book;have hD:=h.hand;have iY:=Oa (pP (nums:=A.nums) (k:=s.k+1) (size:=2) (by decide)) (pQ (by decide));have hlen:decide (s.hands.length≤aJ)=true:=cC (by simp only[aJ];exact aS 69456906300896116880 rfl hh);have s1:small (s.hands.length:Int)=true:=NK (bW hh (by decide));have s2:small 100=true:=by decide+kernel
 have n3B:=(rH h (i:=2) (j:=6) rfl rfl (by decide):3≠A.B);have n3D:=(rH h (i:=2) (j:=10) rfl rfl (by decide):3≠A.D);have ha: ∀H,aG P0 (m+3) (.aE (.ref 442)) [spot A.R [0],bL (iH (bP A.nums (s.k+1) 2))] H= .ok (spot A.R (0::iH (bP A.nums (s.k+1) 2))) H:=fun H=>qU _ (Ny _);have d0: ∀J,aG P0 (m+3) (.aE (.ref 435)) [.ref 3,.int 10] (H++J)= .ok (.int (bP A.nums s.k 10)) (H.set 3 (.list [.ref 2,.int (s.k+1:Nat)])++J):=fun J=>nQ h (by decide) (aS 284495493695720574222480 rfl hk) hl;have d1: ∀J,aG P0 (m+3) (.aE (.ref 435)) [.ref 3,.int 2] (H.set 3 (.list [.ref 2,.int (s.k+1:Nat)])++J)= .ok (.int (bP A.nums (s.k+1) 2)) (H.set 3 (.list [.ref 2,.int (s.k+2:Nat)])++J):=fun J=>qZ h 1 (by decide) (aS 1165293542177671472015738128 rfl hk) hl;have d2: ∀J,aG P0 (m+3) (.aE (.ref 435)) [.ref 3,.int 90] (H.set 3 (.list [.ref 2,.int (s.k+2:Nat)])++J)= .ok (.int (bP A.nums (s.k+2) 90)) (H.set 3 (.list [.ref 2,.int (s.k+3:Nat)])++J):=fun J=>qZ h 2 (by decide) (aS 1165293542177671472016786704 rfl hk) hl;refine start ?_;apply cP (B:=QZ) rfl rfl hn (dP (kC rfl) (dP (fU rfl (bG hn rfl) (eE eG hn)) rfl));unfold QZ;dsimp only[Gg];walk_at "nrm"
 repeat(first
  |((with_reducible change dG _ _ _=_);exact hv)|(with_reducible first|exact d0 _|exact d1 _|exact d2 _)|((with_reducible apply cl);(focus((with_reducible apply Cc);walk_at "ln"));(focus walk_at "st"))|with_reducible exact ha _|((with_reducible apply JZ);(focus walk_at "lk"))|with_reducible apply VZ|walk_at "m1")
end
section
set_option genInjectivity true
variable{m n:Nat}{H J K H2:PH}{A:Ad}{F:List (Nat×PO)}{s s':St}{i i':Nat}{v w hv:PV}{q c c':Nat}{p:List Int}{j x nm:Int}{r r':RW}{t t':TH}{bX:PV→PV}
noncomputable abbrev pk(p:List Int):PK:= .tup (p.map .int)
theorem uS(p:List Int):keyOf (bL p)=some (pk p):=bN (fF PK.tup) (Nx p)
structure rT(s:St)(p:List Int)(j:Int)(r:RW)(i:Nat)(t:TH)(bX:PV→PV):Prop where
 ho:s.of.lookup (pk p)=some j
 hr:eX s.rows j=some r
 g:s.th[i]?=some t
 lv:t.live=true
 it:t.items=r.items
 one:1≤t.st
 e:mF s.val p (i+1) bX
 len:r.items.length<4000
structure Wl(A:Ad)(s:St):Prop where
 b:Wb s
 th:s.th.length+3<aJ
 k:s.k≤900
 nl:A.nums.length≤40
theorem qQ.mem(hr:eX s.rows j=some r)(o:qQ s l j r s' r'):r'∈s'.rows:=by
 rcases o with⟨_,rfl,rfl⟩|⟨_,a,rfl,rfl⟩
 ·exact IC hr
 ·exact tS _ (eZ.mpr rfl)
theorem qQ.it(o:qQ s l j r s' r'):r'.items=r.items:=by rcases o with⟨_,rfl,rfl⟩|⟨_,a,rfl,rfl⟩<;>rfl
theorem qQ.th(o:qQ s l j r s' r'):s'.th=s.th:=by rcases o with⟨_,rfl,rfl⟩|⟨_,a,rfl,rfl⟩<;>rfl
theorem qQ.val(o:qQ s l j r s' r'):s'.val=s.val:=by rcases o with⟨_,rfl,rfl⟩|⟨_,a,rfl,rfl⟩<;>rfl
noncomputable def sB(s:St)(p:List Int)(j:Int)(r:RW)(i:Nat)(t:TH)(bX:PV→PV)(new:List Int)(s':St):Prop:=
 ∃s2 r' idx s3 i' t',qQ s (p.map .int) j r s2 r'∧s2.rows[idx]?=some r'∧lP (s2.iA (s2.rows.set idx (r'.fY new))) i t bX s3 i' t'∧s'=(s3.gE (s3.th.set i' (t'.fY new)))
theorem aA2(h:Rep A ((c',.cell (some (spot A.R (0::p))))::(c,.cell (some (.ref 5)))::F) s H)(a:rT s p j r i t bX)(w:Wl A s):
  ∃s' H',gW (dG (aG P0 (m+10)) (eT A c c' 1 p x nm) H)= .ok (.bool true) H'∧Rep A F s' H'∧sB s p j r i t bX (r.items++[x]) s':=by
 refine bQ fun G_ aQ=>?_;obtain⟨s2,H1,r',c1,r1,o1⟩:=WK (m:=m+8) (h.app (J:=[])) w.b (uS p) a.ho a.hr (by have:=a.len;simp only[aJ];exact aS 70301331233175568528 rfl this);obtain⟨idx,iY⟩:=AW (o1.mem a.hr);have jY:=r1.row (o1.mem a.hr);have r2:=r1.YF iY (r.items++[x]);obtain⟨n,hn⟩: ∃n,(H1.set r'.a (.list ((r.items++[x]).map .int))).length=n:=⟨_,rfl⟩;have r3:=r2.keep (J:=[.list [spot A.R (0::p),.int x]]) (bG (i:=0) hn rfl) (by rw[hn];exact fQ _);have g2:s2.th[i]?=some t:=by rw[o1.th];exact a.g
 obtain⟨s3,H3,t',i',c3,r4,o3⟩:=Xo (m:=m+1) (x:=x) r3 g2 a.lv a.one (by show s2.th.length+2<aJ;rw[o1.th];have:=w.th;exact aS 1198350107557771542702064913 rfl this) (by rw[a.it];have:=a.len;simp only[aJ];exact aS 70301331233175568529 rfl this) (by show mF s2.val p (i+1) bX;rw[o1.val];exact a.e) (tU ..);rw[a.it]at r4;refine aQ ?_;refine⟨_,H3,?_,r4.free.free.free,s2,r',idx,s3,i',t',o1,iY,o3,rfl⟩;have k0:=h.tmp (a:=c) (o:= .cell (some (.ref 5))) (by simp);have k1:=h.tmp (a:=c') (o:= .cell (some (spot A.R (0::p)))) (by simp);have k2:=r2.tmp (a:=c) (o:= .cell (some (.ref 5))) (by simp);have k3:=r2.tmp (a:=c') (o:= .cell (some (spot A.R (0::p)))) (by simp);have hs:decide ((r'.items.map PV.int).length<aJ)=true:=cC (by rw[cR,o1.it];have:=a.len;simp only[aJ];exact aS 70301331233175568529 rfl this);have ha:H1.set r'.a (.list (r'.items.map PV.int++[.int x]))=H1.set r'.a (.list ((r.items++[x]).map PV.int))++[]:=by rw[o1.it,kJ,eL];rfl
 have X8: ∀H,dE .Eq (.tup []) (.tup []) H= .ok true H:=fun _=>rfl;have main: ∃dO,dG (aG P0 (m+10)) (eT A c c' 1 p x nm) H= .ok (.ret (.bool true),dO) H3:=by
  refine⟨?_,?_⟩;rotate_left
  ·refine start ?_
   unfold dG
   repeat(first
    |(with_reducible first|exact c1|exact ha|exact X8 _)|((with_reducible change aG _ _ (PV.aE (aR 213)) _ _=_);exact c3)|walk_at "m1")
 obtain⟨dO,e⟩:=main;rw[e];rfl
end
section
variable{m n:Nat}{H J K H2:PH}{A:Ad}{F:List (Nat×PO)}{s s':St}{i i':Nat}{v w hv:PV}{q c c' d:Nat}{p:List Int}{j x nm:Int}{r r':RW}{t t':TH}{bX:PV→PV}
theorem wB{lb:Expr}{sc:Scope}{lf:aW}{D:D}{ro:Out PV}(g:H[q]?=some (.lam lb sc lf))(nd:iQ sc.names=true)(e:P0.sT {P0.sc with names:=sc.names} lb=some D)(k:D (aG P0 m) lf H=ro):aG P0 (m+1) (.ref q) [] H=ro:=by
 show KE P0 (aG P0 m) (.ref q) [] H=ro;unfold KE;exact cG (a:=()) rfl (cG (a:=(lb,sc,lf)) (nZ g rfl) (fL nd (cG e k)))
theorem La:P0.sT {P0.sc with names:=uV.names} uT=some (aZ (aB (.aE (.ref 213))) (aC (cL 2) (aC (aB (sv "array#get")) (aC (dN (aC (cL 0) (aC (cL 1) aH))) aH)))):=by kernel_rfl!
theorem Lb:P0.sT {P0.sc with names:=HC.names} GZ=some (aZ (aB (.aE (.ref 131))) (aC (aZ (aB (.aE (.ref 201))) (aC (cL 1) (aC (cL 3) (aC (cL 0) aH)))) (aC (cL 2) aH))):=by kernel_rfl!
theorem il:P0.sT {P0.sc with names:=xC.names} wY=some (aZ (aB (.aE (.ref 138))) (aC (cL 0) aH)):=by kernel_rfl!
theorem im:P0.sT {P0.sc with names:=xE.names} wZ=some (aZ (aB (.aE (.ref 138))) (aC (aZ (aB (.aE (.ref 442))) (aC (cL 0) (aC (bM (aC (aB (.int 0)) aH)) aH))) aH)):=by kernel_rfl!
theorem Lc:P0.sT {P0.sc with names:=CQ.names} CL=some (aZ (aB (.aE (.ref 213))) (aC (cL 0) (aC (aB (sv "array#pop")) (aC (dN (aC (cL 1) aH)) aH)))):=by kernel_rfl!
theorem XX{lb:Expr}{sc:Scope}{lf:aW}(g:H[q]?=some (.lam lb sc lf))(k:aG P0 m (.ref q) [] H= .ok v H2):aG P0 (m+1) (.aE (.ref 449)) [.ref q] H= .ok (.tup [sv "gives",v]) H2:=by
 obtain⟨n,hn⟩: ∃n,H.length=n:=⟨_,rfl⟩;rw[←eL H]at k;refine start ?_;apply cP (B:=FF) rfl rfl hn rfl;unfold FF;dsimp only[SW];walk_at "nrm";apply mO
 ·apply xe
  repeat(first
   |with_reducible exact k|walk_at "m1")
 repeat walk_at "m1"
theorem XW{lb:Expr}{sc:Scope}{lf:aW}(g:H[q]?=some (.lam lb sc lf))(k:aG P0 m (.ref q) [] H= .exc 63 d H2)(hd:H2[d]?=some (.ns [(0,v)]))(hv:HI v=true):aG P0 (m+1) (.aE (.ref 449)) [.ref q] H= .ok (.tup [sv "traps",v]) (H2++[.exc 63 d]):=by
 obtain⟨n,hn⟩: ∃n,H.length=n:=⟨_,rfl⟩;obtain⟨n2,dQ⟩: ∃n,H2.length=n:=⟨_,rfl⟩;rw[←eL H,←eL H2]at k;refine start ?_;apply cP (B:=FF) rfl rfl hn rfl;unfold FF;dsimp only[SW];walk_at "nrm";apply mO
 ·apply xh
  ·apply oN
   apply SE;apply L9;apply L7
   ·exact oB
   ·apply SD
    repeat(first
     |with_reducible exact k|walk_at "m1")
  ·exact dQ
  ·rfl
  ·repeat(first
    |((with_reducible apply pd);(focus walk_at "lk"))|walk_at "m1")
 repeat walk_at "m1"
theorem Ow{lb:Expr}{sc:Scope}{lf:aW}(g:H[q]?=some (.lam lb sc lf))(k:aG P0 m (.ref q) [] H= .exc 51 d H2):aG P0 (m+1) (.aE (.ref 456)) [.ref q] H= .ok (.bool true) H2:=by
 obtain⟨n,hn⟩: ∃n,H.length=n:=⟨_,rfl⟩;rw[←eL H]at k;refine start ?_;apply cP (B:=QV) rfl rfl hn rfl;unfold QV;dsimp only[Gc];walk_at "nrm";apply mO
 ·apply xg
  ·apply oN
   apply Er
   repeat(first
    |with_reducible exact k|walk_at "m1")
  ·exact oB
 repeat walk_at "m1"
theorem Gy{R:Nat}{path:List Int}{V:PV}(h: ∀J,aG P0 (m+2) (.aE (.ref 117)) [spot R path] (H++J)= .ok .none (H++J))(hR:H[R]?=some (.list [V]))(hn:H.length=n):
  aG P0 (m+3) (.aE (.ref 138)) [spot R path] H= .exc 51 (n+2) (H++([.list [],.list [.tup [sv "global"]]]++[.ns [(0,sv "an empty place is read")]])):=by
 have pe: ∀{H:PH} {a b:Nat},H[a]?=some (.list [])→H[b]?=some (.list [.tup [sv "global"]])→xP H (.ref a) (.ref b)=some false:=by
  intro H a b h1 h2;have e1:toPy H 6 (.ref a)=some (.list []):=orr rfl (orr rfl (eW (gL h1) rfl));have e2:toPy H 6 (.ref b)=some (.list [.tuple [.str (aA "global")]]):=by
   have e3:rP (toPy H 5) [.tup [sv "global"]]=some [.tuple [.str (aA "global")]]:=by kernel_rfl!
   exact orr rfl (orr rfl (eW (gL h2) (by rw[e3];rfl)))
  exact orr rfl (orr rfl (eW e1 (by rw[e2];rfl)))
 show(fun H'=>aG P0 (m+3) (.aE (.ref 138)) [spot R path] H') H=_;refine start ?_;apply BC (B:=EW) rfl rfl hn rfl;unfold EW;dsimp only[SN];walk_at "nrm"
 iterate 1 (apply mO;(focus repeat(first|with_reducible exact h _|walk_at "m1"));walk_at "m1")
 apply oN
 repeat(first
  |((with_reducible change dE _ (PV.ref _) (PV.ref _) _=_);exact qF (pe (bG (i:=0) hn rfl) (bG (i:=1) hn rfl)))|((with_reducible apply mO);(focus((repeat(first|((with_reducible change dE _ (PV.ref _) (PV.ref _) _=_);exact qF (pe (bG (i:=0) hn rfl) (bG (i:=1) hn rfl)))|with_reducible apply pf|walk_at "m1"));done));(focus(walk_at "m1")))|with_reducible apply oN|with_reducible apply XC|walk_at "m1")
end
section
variable{m n:Nat}{H J K H2:PH}{A:Ad}{F:List (Nat×PO)}{s s' s2 s3:St}{i i':Nat}{v w hv:PV}{q c c' d:Nat}{p:List Int}{j x nm:Int}{r r':RW}{t t':TH}{bX:PV→PV}
theorem sZ{α:Type}{l:List α}{i:Nat}{x:α}(h:l[i]?=some x):l.set i x=l:=by
 apply JG;intro k;rw[JH];split
 ·next e=>subst e;rw[aV (eF.mp h).1,h]
 ·rfl
theorem sB.aAE(a:rT s p j r i t bX)(o1:qQ s (p.map .int) j r s2 r')(o3:lP s2 i t bX s3 i' t'):sB s p j r i t bX r.items s3:=by
 obtain⟨idx,iY⟩:=AW (o1.mem a.hr);have g2:s2.th[i]?=some t:=by rw[o1.th];exact a.g
 have e1:((r'.fY r.items):RW)=r':=by rw[←o1.it]
 have e2:((t'.fY r.items):TH)=t':=by rw[←a.it,←o3.items]
 refine⟨s2,r',idx,s3,i',t',o1,iY,?_,?_⟩
 ·rw[e1,sZ iY];exact o3
 ·rw[e2,sZ (o3.get g2)]
theorem SI(H:PH):dE .Eq (.tup [sv "traps",sv "index"]) (.tup [sv "traps",sv "index"]) H= .ok true H:=by kernel_rfl!
theorem Fe(x:Int)(H:PH):dE .Eq (.tup [sv "gives",.int x]) (.tup [sv "gives",.int x]) H= .ok true H:=by
 have:dE .Eq (.tup [sv "gives",.int x]) (.tup [sv "gives",.int x]) H= .ok (x==x&&true) H:=by kernel_rfl!
 rw[this,fG];rfl
theorem Mn{a b:Nat}{l:List Int}(h1:H[a]?=some (.list (l.map .int)))(h2:H[b]?=some (.list [])):dE .NotEq (.ref a) (.ref b) H= .ok (!decide (l=[])) H:=Ni h1 (rJ (k:=[]) h1 h2)
theorem aA3(h:Rep A ((c',.cell (some (spot A.R (0::p))))::(c,.cell (some (.ref 5)))::F) s H)(a:rT s p j r i t bX)(w:Wl A s):
  ∃s' H',gW (dG (aG P0 (m+11)) (eT A c c' 2 p x nm) H)= .ok (.bool true) H'∧Rep A F s' H'∧sB s p j r i t bX r.items.dropLast s':=by
 obtain⟨s2,H1,r',c1,r1,o1⟩:=WK (m:=m+9) (h.app (J:=[])) w.b (uS p) a.ho a.hr (by have:=a.len;simp only[aJ];exact aS 70301331233175568528 rfl this);obtain⟨idx,iY⟩:=AW (o1.mem a.hr);have jY:=r1.row (o1.mem a.hr);have g2:s2.th[i]?=some t:=by rw[o1.th];exact a.g
 have e2:mF s2.val p (i+1) bX:=by rw[o1.val];exact a.e
 have l2:s2.th.length+2<aJ:=by rw[o1.th];have:=w.th;exact aS 1198350107557771542702064913 rfl this
 have lt:t.items.length≤aJ:=by rw[a.it];have:=a.len;simp only[aJ];exact aS 70301331233175568528 rfl this
 have k0:=h.tmp (a:=c) (o:= .cell (some (.ref 5))) (by simp);have k1:=h.tmp (a:=c') (o:= .cell (some (spot A.R (0::p)))) (by simp);have hJ:=iF (l:=r'.items) (by rw[o1.it];have:=a.len;simp only[aJ];exact aS 70301331233175568528 rfl this);rw[←eL H1]at c1;by_cases he:r.items=[]
 ·obtain⟨n1,gV⟩: ∃n,H1.length=n:=⟨_,rfl⟩
  have k2:=r1.tmp (a:=c) (o:= .cell (some (.ref 5))) (by simp);have k3:=r1.tmp (a:=c') (o:= .cell (some (spot A.R (0::p)))) (by simp);have r3:=r1.keep (J:=[.list [],.lam CL CQ [some (.ref c),some (.ref c'),none]]++[.list [spot A.R (0::p)]]) (bG (i:=2) gV rfl) (by rw[gV];exact aS 129117618320 rfl);obtain⟨s3,H3,t',d,i',c3,hd,r4,o3⟩:=tm (m:=m) r3 g2 a.lv a.one l2 e2 (tU ..) (by rw[a.it];exact he);have lc:aG P0 (m+10) (.ref (n1+1)) [] (H1++[.list [],.lam CL CQ [some (.ref c),some (.ref c'),none]])= .exc 63 d H3:=by
   refine wB (bG (i:=1) gV rfl) rfl Lc ?_
   repeat(first
    |((with_reducible change aG _ _ (PV.aE (aR 213)) _ _=_);exact c3)|walk_at "m1")
  have tc:=XW (bG (i:=1) gV rfl) lc hd rfl;have eP:(!decide (r'.items=[]))=false:=by rw[o1.it,he];rfl
  have main: ∃dO,dG (aG P0 (m+11)) (eT A c c' 2 p x nm) H= .ok (.ret (.bool true),dO) (H3++[.exc 63 d]):=by
   refine⟨?_,?_⟩;rotate_left
   ·refine start ?_
    unfold dG
    repeat(first
     |with_reducible exact c1|((with_reducible change dE kI (PV.ref _) (PV.ref _) _=_);exact Mn (bS jY) (bG (i:=0) gV rfl))|((with_reducible change aG _ _ (PV.aE (aR 449)) _ _=_);exact tc)|with_reducible exact SI _|walk_at "m1")
  obtain⟨dO,e⟩:=main;refine⟨s3,H3++[.exc 63 d],by rw[e];rfl,r4.free.free.free.app,?_⟩;have:=sB.aAE a o1 o3;rw[he]at this⊢;exact this
 ·obtain⟨y,hy⟩: ∃y,r.items.getLast?=some y:=by cases hh:r.items.getLast? with
   |none=>exact absurd (List.getLast?_eq_none_iff.mp hh) he|some y=>exact⟨y,rfl⟩
  have r2:=(r1.app (J:=[.list []])).YF iY r.items.dropLast;obtain⟨n1,gV⟩: ∃n,H1.length=n:=⟨_,rfl⟩;have k2:=r2.tmp (a:=c) (o:= .cell (some (.ref 5))) (by simp);have k3:=r2.tmp (a:=c') (o:= .cell (some (spot A.R (0::p)))) (by simp);obtain⟨n2,dQ⟩: ∃n,((H1++[PO.list []]).set r'.a (.list (r.items.dropLast.map .int))).length=n:=⟨_,rfl⟩;have r3:=r2.keep (J:=[.lam CL CQ [some (.ref c),some (.ref c'),none]]++[.list [spot A.R (0::p)]]) (bG (i:=1) dQ rfl) (by rw[dQ];exact aS 128983400592 rfl);obtain⟨s3,H3,t',i',c3,r4,o3⟩:=tq (m:=m) (x:=y) r3 g2 a.lv a.one l2 lt e2 (tU ..) (by rw[a.it];exact hy);have lc:aG P0 (m+10) (.ref (n2+0)) [] ((H1++[PO.list []]).set r'.a (.list (r.items.dropLast.map .int))++[.lam CL CQ [some (.ref c),some (.ref c'),none]])= .ok (.int y) H3:=by
   refine wB (bG (i:=0) dQ rfl) rfl Lc ?_
   repeat(first
    |((with_reducible change aG _ _ (PV.aE (aR 213)) _ _=_);exact c3)|walk_at "m1")
  have tc:=XX (bG (i:=0) dQ rfl) lc;have eP:(!decide (r'.items=[]))=true:=by rw[o1.it,iW he];rfl
  have TR:(r'.items.map PV.int).getLast?=some (.int y):=by rw[o1.it,Un,hy];rfl
  have gJ:(H1++[PO.list []]).set r'.a (.list (r'.items.map PV.int).dropLast)=(H1++[PO.list []]).set r'.a (.list (r.items.dropLast.map .int))++[]:=by rw[o1.it,Us,eL]
  have main: ∃dO,dG (aG P0 (m+11)) (eT A c c' 2 p x nm) H= .ok (.ret (.bool true),dO) H3:=by
   refine⟨?_,?_⟩;rotate_left
   ·refine start ?_
    unfold dG
    repeat(first
     |(with_reducible first|exact c1|exact TR)|((with_reducible change dE kI (PV.ref _) (PV.ref _) _=_);exact Mn (bS jY) (bG (i:=0) gV rfl))|((with_reducible change qP (_++_) r'.a _=_);exact gJ)|((with_reducible change aG _ _ (PV.aE (aR 449)) _ _=_);exact tc)|with_reducible exact Fe _ _|walk_at "m1")
  obtain⟨dO,e⟩:=main;refine⟨_,H3,by rw[e];rfl,r4.free.free.free,s2,r',idx,s3,i',t',o1,iY,o3,?_⟩;rw[a.it]
end
section
variable{m n:Nat}{H J K H2:PH}{A:Ad}{F:List (Nat×PO)}{s s' s2 s3:St}{i i' idx:Nat}{v w hv:PV}{q c c' d:Nat}{p:List Int}{j x nm:Int}{r r':RW}{t t':TH}{bX:PV→PV}
theorem N5(H:PH):dE .Eq (.tup [sv "gives",.none]) (.tup [sv "gives",.none]) H= .ok true H:=by kernel_rfl!
theorem ij(h:Rep A F s H)(iY:s.rows[idx]?=some r)(g:s.th[i]?=some t)(lv:t.live=true)(one:1≤t.st)(l2:s.th.length+2<aJ)(lt:t.items.length<4000)(it:t.items=r.items)(e:mF s.val p (i+1) bX)(hk:s.k≤900)(hl:A.nums.length≤40):
  ∃s3 H' t' new,∃i':Nat,aG P0 (m+12) (.aE (.ref 519)) [.ref 3,.ref 5,spot A.R (0::p),.ref r.a,.int x] H= .ok (.bool true) H'∧
   Rep A F ((s3.iA (s3.rows.set idx (r.fY new))).gE (s3.th.set i' (t'.fY new))) H'∧lP (s.wk (s.k+1)) i t bX s3 i' t'∧new.length≤t.items.length:=by
 refine bQ fun G_ aQ=>?_;obtain⟨n,hn⟩: ∃n,H.length=n:=⟨_,rfl⟩;have fB:(H.set 3 (.list [.ref 2,.int (s.k+1:Nat)])).length=n:=gM hn;obtain⟨d,hd⟩: ∃d,d=bP A.nums s.k 5-1:=⟨_,rfl⟩;have d0: ∀J,aG P0 (m+11) (.aE (.ref 435)) [.ref 3,.int 5] (H++J)= .ok (.int (bP A.nums s.k 5)) (H.set 3 (.list [.ref 2,.int (s.k+1:Nat)])++J):=fun J=>nQ h (by decide) (aS 69428758802307547280 rfl hk) hl;have r1:=(h.mB (s.k+1)).keep (J:=[.cell (some (.ref 5)),.cell (some (spot A.R (0::p))),.cell (some (.int x))]) (bG (i:=2) fB rfl) (by rw[fB];exact aS 129117618320 rfl);have Ll:(H.set 3 (.list [.ref 2,.int (s.k+1:Nat)])++[PO.cell (some (.ref 5)),.cell (some (spot A.R (0::p))),.cell (some (.int x))]).length=n+3:=lW fB;have r2:=r1.keep (J:=[.cell (some (.int d)),.lam GZ HC [some (.ref (n+3)),some (.ref (n+0)),some (.ref (n+2)),some (.ref (n+1)),none,none]]) (bG (n:=n+3) (i:=0) Ll rfl) (by rw[Ll];exact fQ _);rw[cM]at r2;have CU:t.items.length≤aJ:=by simp only[aJ];exact aS 70301331233175568528 rfl lt
 have g1:((s.wk (s.k+1)):St).th[i]?=some t:=g;by_cases hx:0≤d∧d<t.items.length
 ·obtain⟨s3,H3,t',i',c3,r4,o3⟩:=N3 (m:=m) r2 g lv one l2 CU e hx.1 hx.2
  have hf:=r4.fld (o3.get g1);have li:t'.items.length=t.items.length:=by rw[o3.items]
  have we:=aBZ (m:=m+3) (x:=x) hf hx.1 (by rw[o3.items];exact hx.2) (by rw[o3.items];exact CU);have r5:=r4.YD (o3.get g1) (t'.items.set d.toNat x);have kx:=r4.tmp (a:=n+2) (o:= .cell (some (.int x))) (by simp);have lc:aG P0 (m+10) (.ref (n+4)) [] (H.set 3 (.list [.ref 2,.int (s.k+1:Nat)])++([PO.cell (some (.ref 5)),.cell (some (spot A.R (0::p))),.cell (some (.int x))]++[.cell (some (.int d)),.lam GZ HC [some (.ref (n+3)),some (.ref (n+0)),some (.ref (n+2)),some (.ref (n+1)),none,none]]))= .ok .none (H3.set t'.fl (.list ((t'.items.set d.toNat x).map .int))):=by
   refine wB (bG (i:=4) fB rfl) rfl Lb ?_
   repeat(first
    |((with_reducible change aG _ _ (PV.aE (aR 131)) _ _=_);exact we)|((with_reducible change aG _ _ (PV.aE (aR 201)) _ _=_);exact c3)|walk_at "m1")
  have tc:=XX (bG (i:=4) fB rfl) lc;have WZ:s3.rows=s.rows:=by
   obtain⟨s1,o,e⟩:=o3;have:s1.rows=s.rows:=by rcases o with⟨_,rfl,_⟩|⟨_,_,rfl,_⟩<;>rfl
   rcases e with rfl|⟨rfl,rfl,rfl⟩
   ·exact this
   ·rfl
  have GJ:s3.rows[idx]?=some r:=by rw[WZ];exact iY
  have jY:=r5.row (fD GJ);have gv:=r5.tmp (a:=n+2) (o:= .cell (some (.int x))) (by simp);have CJ:=r5.tmp (a:=n+3+0) (o:= .cell (some (.int d))) (by simp);have CJ:(H3.set t'.fl (.list ((t'.items.set d.toNat x).map .int)))[n+3]?=some (.cell (some (.int d))):=CJ;have r6:=r5.YF GJ (r.items.set d.toNat x);have hb:(!(decide ((0:Int)≤d)&&decide (d<(r.items.length:Nat))))=false:=by rw[←it,cC hx.1,cC hx.2];rfl
  have hJ:=iF (l:=r.items) (by rw[←it];exact CU);have hs:decide (0≤d∧d<((r.items.map PV.int).length:Nat)∧(r.items.map PV.int).length≤aJ)=true:=cC ⟨hx.1,by rw[cR,←it];exact hx.2,by rw[cR,←it];exact CU⟩;have gJ: ∀K:PH,K.set r.a (.list ((r.items.map PV.int).set d.toNat (.int x)))=K.set r.a (.list ((r.items.set d.toNat x).map .int)):=by intro K;rw[PF]
  have fin:=r6.free.free;rw[o3.items,←it]at fin;refine aQ ?_;refine⟨s3,_,t',t.items.set d.toNat x,i',?_,fin,o3,by rw[dS];exact fQ _⟩
  ·rw[o3.items]at CJ gv jY tc
   rw[←it]at hs gJ hb hJ jY;rw[hd]at*;refine start ?_;apply cP (B:=FI) rfl rfl hn (dP (kC rfl) (dP (fU rfl (bG hn rfl) (eE eG hn)) (dP (fU rfl (bG hn rfl) (eE eG hn)) (dP (kC rfl) (dP (fU rfl (bG hn rfl) (eE eG hn)) sX)))));unfold FI;dsimp only[SZ];walk_at "nrm"
   repeat(first
    |with_reducible exact d0 _|((with_reducible change aG _ _ (PV.aE (aR 449)) _ _=_);exact tc)|((with_reducible apply oQ);(focus walk_at "lk"))|((with_reducible change qP _ r.a _=_);exact gJ _)|with_reducible exact N5 _|walk_at "m1")
 ·obtain⟨s3,H3,t',d',i',c3,W8,r4,o3⟩:=N2 (m:=m) r2 g lv one l2 CU e hx
  have lc:aG P0 (m+10) (.ref (n+4)) [] (H.set 3 (.list [.ref 2,.int (s.k+1:Nat)])++([PO.cell (some (.ref 5)),.cell (some (spot A.R (0::p))),.cell (some (.int x))]++[.cell (some (.int d)),.lam GZ HC [some (.ref (n+3)),some (.ref (n+0)),some (.ref (n+2)),some (.ref (n+1)),none,none]]))= .exc 63 d' H3:=by
   refine wB (bG (i:=4) fB rfl) rfl Lb ?_;apply L6
   ·exact oB
   apply SD
   repeat(first
    |((with_reducible change aG _ _ (PV.aE (aR 201)) _ _=_);exact c3)|walk_at "m1")
  have tc:=XW (bG (i:=4) fB rfl) lc W8 rfl;have WZ:s3.rows=s.rows:=by
   obtain⟨s1,o,e⟩:=o3;have:s1.rows=s.rows:=by rcases o with⟨_,rfl,_⟩|⟨_,_,rfl,_⟩<;>rfl
   rcases e with rfl|⟨rfl,rfl,rfl⟩
   ·exact this
   ·rfl
  have GJ:s3.rows[idx]?=some r:=by rw[WZ];exact iY
  have jY:=r4.row (fD GJ);have CJ:=r4.tmp (a:=n+3+0) (o:= .cell (some (.int d))) (by simp);have CJ:H3[n+3]?=some (.cell (some (.int d))):=CJ;have hb:(!(decide ((0:Int)≤d)&&decide (d<(r.items.length:Nat))))=true:=by rw[←it];exact Me hx
  have hJ:=iF (l:=r.items) (by rw[←it];exact CU);refine aQ ?_;refine⟨s3,H3++[.exc 63 d'],t',t.items,i',?_,?_,o3,fQ _⟩;rotate_left
  ·have e1:((r.fY t.items):RW)=r:=by rw[it]
   have e2:((t'.fY t.items):TH)=t':=by rw[←o3.items]
   rw[e1,e2,sZ GJ,sZ (o3.get g1)];exact r4.free.free.app
  ·rw[hd]at*
   refine start ?_;apply cP (B:=FI) rfl rfl hn (dP (kC rfl) (dP (fU rfl (bG hn rfl) (eE eG hn)) (dP (fU rfl (bG hn rfl) (eE eG hn)) (dP (kC rfl) (dP (fU rfl (bG hn rfl) (eE eG hn)) sX)))));unfold FI;dsimp only[SZ];walk_at "nrm"
   repeat(first
    |with_reducible exact d0 _|((with_reducible change aG _ _ (PV.aE (aR 449)) _ _=_);exact tc)|((with_reducible apply oQ);(focus walk_at "lk"))|with_reducible exact SI _|walk_at "m1")
theorem aA4(h:Rep A ((c',.cell (some (spot A.R (0::p))))::(c,.cell (some (.ref 5)))::F) s H)(a:rT s p j r i t bX)(w:Wl A s):
  ∃s' H' new,gW (dG (aG P0 (m+13)) (eT A c c' 3 p x nm) H)= .ok (.bool true) H'∧Rep A F s' H'∧sB s p j r i t bX new (s'.wk s.k)∧s'.k=s.k+1∧new.length≤r.items.length:=by
 refine bQ fun G_ aQ=>?_;obtain⟨s2,H1,r',c1,r1,o1⟩:=WK (m:=m+11) (h.app (J:=[])) w.b (uS p) a.ho a.hr (by have:=a.len;simp only[aJ];exact aS 70301331233175568528 rfl this);obtain⟨idx,iY⟩:=AW (o1.mem a.hr);have g2:s2.th[i]?=some t:=by rw[o1.th];exact a.g
 have k0:=h.tmp (a:=c) (o:= .cell (some (.ref 5))) (by simp);have k1:=h.tmp (a:=c') (o:= .cell (some (spot A.R (0::p)))) (by simp);refine aQ ?_;have ek:s2.k=s.k:=by rcases o1 with⟨_,rfl,rfl⟩|⟨_,a,rfl,rfl⟩<;>rfl
 refine bQ fun G_ aQ=>?_;obtain⟨s3,H3,t',new,i',c3,r4,o3,hn⟩:=ij (m:=m+1) (x:=x) r1 iY g2 a.lv a.one (by rw[o1.th];have:=w.th;exact aS 1198350107557771542702064913 rfl this) (by rw[a.it];exact a.len) (by rw[a.it,o1.it]) (by rw[o1.val];exact a.e) (by rw[ek];exact w.k) w.nl;have main: ∃dO,dG (aG P0 (m+13)) (eT A c c' 3 p x nm) H= .ok (.ret (.bool true),dO) H3:=by
  refine⟨?_,?_⟩;rotate_left
  ·refine start ?_
   unfold dG
   repeat(first
    |(with_reducible first|exact c1|exact c3)|walk_at "m1")
 obtain⟨dO,e⟩:=main;refine aQ ?_;refine⟨_,H3,new,by rw[e];rfl,r4.free.free,⟨s2,r',idx,((s3.wk s.k).iA (s2.rows.set idx (r'.fY new))),i',t',o1,iY,?_,?_⟩,?_,?_⟩
 ·obtain⟨s1,o,e⟩:=o3
  refine⟨((s1.wk s.k).iA (s2.rows.set idx (r'.fY new))),?_,?_⟩
  ·refine bQ fun G_ aQ=>?_
   rcases o with⟨z,rfl,z2,z3⟩|⟨z,z2,rfl,z3⟩
   ·refine aQ ?_
    exact .inl ⟨z,by rw[←ek]<;>rfl,z2,z3⟩
   ·refine aQ ?_
    exact .inr ⟨z,z2,by rw[←ek]<;>rfl,z3⟩
  ·rcases e with rfl|⟨rfl,rfl,rfl⟩
   ·exact .inl rfl
   ·exact .inr ⟨by rw[←ek]<;>rfl,by rw[←ek]<;>rfl,rfl⟩
 ·obtain⟨s1,o,e⟩:=o3
  have:s1.rows=s2.rows:=by rcases o with⟨_,rfl,_⟩|⟨_,_,rfl,_⟩<;>rfl
  have:s3.rows=s2.rows:=by
   rcases e with rfl|⟨rfl,rfl,rfl⟩
   ·exact this
   ·rfl
  rw[this]
 ·obtain⟨s1,o,e⟩:=o3
  show s3.k=s.k+1;rw[←ek];have:s1.k=s2.k+1:=by rcases o with⟨_,rfl,_⟩|⟨_,_,rfl,_⟩<;>rfl
  rcases e with rfl|⟨rfl,rfl,rfl⟩
  ·exact this
  ·rfl
 ·rw[a.it]at hn
  exact hn
end
section
variable{m n:Nat}{H J K H2:PH}{A:Ad}{F:List (Nat×PO)}{s s' s2 s3:St}{i i' idx:Nat}{v w hv:PV}{q c c' d:Nat}{p:List Int}{j x nm:Int}{r r':RW}{t t':TH}{bX:PV→PV}
theorem Dp(h:Rep A F s H)(g:s.th[i]?=some t)(lv:t.live=true)(l:s.th.length+1<aJ):
  ∃H',(∀m,aG P0 (m+3) (.aE (.ref 311)) [.ref 5,bH (i+1)] H= .ok (bH (i+1)) H')∧Rep A F (s.gE (s.th.set i (t.iB (t.st+1)))) H':=by
 have u:=h.YH g (t.st+1);rw[show uU t.live=sv "live" by rw[lv];rfl]at u;exact⟨_,fun m=>G5 (h.hp l) (h.mU g lv),u.app⟩
noncomputable abbrev bI(nm:Int):PK:= .tup [.str (aA "kept"),.int nm]
noncomputable def xU(es:cA):Prop:= ∀e∈es,∃l,e.1=PK.tup l
theorem AB{es:cA}(h:xU es)(l:List PA):cZ es (.tup l)=true:=by
 unfold cZ;rw[jT];intro e m;obtain⟨k,x⟩:=h e m;exact bN (PK.like (.tup l)) x
theorem YJ(h:Rep A ((c',.cell (some (spot A.R (0::p))))::(c,.cell (some (.ref 5)))::F) s H)(a:rT s p j r i t bX)(w:Wl A s)(th:xU s.hands)(lh:s.hands.length<1000)(hn:bZ s.hands (bI nm)=none):
  ∃H',gW (dG (aG P0 (m+5)) (eT A c c' 4 p x nm) H)= .ok (.bool true) H'∧Rep A F (((s.gE (s.th.set i (t.iB (t.st+1)))).qK (bT s.hands (bI nm) (bH (i+1)))).kG (oset s.of (bI nm) j)) H':=by
 have k0:=h.tmp (a:=c) (o:= .cell (some (.ref 5))) (by simp);have k1:=h.tmp (a:=c') (o:= .cell (some (spot A.R (0::p)))) (by simp);have pp:=(h.app (J:=[])).hp (by have:=w.th;exact aS 1198350107557771542701016337 rfl this);have⟨p1,p2,_,_,_⟩:=pp;obtain⟨H1,c1,r1⟩:=Dp (h.app (J:=[])) a.g a.lv (by have:=w.th;exact aS 1198350107557771542701016337 rfl this);have fu:aG P0 (m+2+3) (.aE (.ref 138)) [spot A.R (0::p)] (H++[])= .ok (bH (i+1)) (H++[]):=zD h.app a.e;have c1:aG P0 (m+5) (.aE (.ref 311)) [.ref 5,bH (i+1)] (H++[])= .ok (bH (i+1)) (H1++[]):=by rw[eL H1];exact c1 (m+2)
 have hD:=h.hand;have Hf:=r1.hand;have dk:=AB th [.str (aA "kept"),.int nm];have jk:decide (s.hands.length<aJ)=true:=cC (by simp only[aJ];exact aS 69456906303043600529 rfl lh);have r2:=r1.YC (bT s.hands (bI nm) (bH (i+1)));have hB2:=r2.book;have hO2:=r2.of;have r3:=r2.NT (oset s.of (bI nm) j);have dko:=rG w.b.tk (p.map PA.int);have aDR:=rG w.b.tk [.str (aA "kept"),.int nm];have g1:bZ (dF s.of) (pk p)=some (.int j):=by rw[sU,a.ho];rfl
 have kp:=uS p;have kn:keyOf (kept nm)=some (bI nm):=rfl;have l2:decide ((dF s.of).length<aJ)=true:=cC (by rw[xJ];have:=w.b.lo;exact aS 292565941976171754356881 rfl this);have uM:(!(bZ s.hands (bI nm)).isSome)=true:=by rw[hn];rfl
 have zX:(H1++[]).set A.D (.dict (bT s.hands (bI nm) (bH (i+1))) false)=H1.set A.D (.dict (bT s.hands (bI nm) (bH (i+1))) false):=by rw[eL]
 have main: ∃dO,dG (aG P0 (m+5)) (eT A c c' 4 p x nm) H= .ok (.ret (.bool true),dO) ((H1.set A.D (.dict (bT s.hands (bI nm) (bH (i+1))) false)).set A.O (.dict (dF (oset s.of (bI nm) j)) false)):=by
  rw[←HO];refine⟨?_,?_⟩;rotate_left
  ·refine start ?_
   unfold dG
   repeat(first
    |(with_reducible first|exact c1|exact fu|exact kp|exact kn|exact zX)|((with_reducible apply MN);(focus walk_at "lk"))|((with_reducible apply pL);(focus walk_at "lk"))|walk_at "m1")
 obtain⟨dO,e⟩:=main;exact⟨_,by rw[e];rfl,r3.free.free⟩
end
section
set_option genInjectivity true
variable{m n:Nat}{H J K H2:PH}{A:Ad}{F:List (Nat×PO)}{s s' s2 s3:St}{i i' idx:Nat}{v w hv:PV}{q c c' d:Nat}{p:List Int}{j x nm:Int}{r r':RW}{t t':TH}{bX:PV→PV}
theorem Fc(x:Int)(H:PH):dE .Eq (.tup [sv "enum",.int 1,.int x]) (.tup [sv "enum",.int 1,.int x]) H= .ok true H:=by
 have:dE .Eq (.tup [sv "enum",.int 1,.int x]) (.tup [sv "enum",.int 1,.int x]) H= .ok (x==x&&true) H:=by kernel_rfl!
 rw[this,fG];rfl
theorem Fd(H:PH):dE .Eq (.tup [sv "enum",.int 0,.none]) (.tup [sv "enum",.int 0,.none]) H= .ok true H:=by kernel_rfl!
theorem KO(x:Int)(H:PH):dE .Eq (.int x) (.int x) H= .ok true H:=by
 have:dE .Eq (.int x) (.int x) H= .ok (x==x) H:=rfl;rw[this,fG]
structure vI(A:Ad)(F:List (Nat×PO))(s:St)(H:PH)(i:Nat)(t:TH)(r:RW):Prop where
 h:Rep A F s H
 g:s.th[i]?=some t
 lv:t.live=true
 it:t.items=r.items
 lt:r.items.length<4000
 hr:r∈s.rows
 l:s.th.length+2<aJ
 k:s.k≤900
 nl:A.nums.length≤40
theorem Xv(a:vI A F s H i t r)(ho:bP A.nums s.k 4=0): ∃J,aG P0 (m+8) (.aE (.ref 512)) [.ref 3,.ref 5,bH (i+1),.ref r.a] H= .ok (.bool true) (H.set 3 (.list [.ref 2,.int (s.k+2:Nat)])++J):=by
 obtain⟨n,hn⟩: ∃n,H.length=n:=⟨_,rfl⟩;have fB:(H.set 3 (.list [.ref 2,.int (s.k+2:Nat)])).length=n:=gM hn;have d0: ∀J,aG P0 (m+7) (.aE (.ref 435)) [.ref 3,.int 4] (H++J)= .ok (.int 0) (H.set 3 (.list [.ref 2,.int (s.k+1:Nat)])++J):=fun J=>by have:=nQ (m:=m+6) (J:=J) (size:=4) a.h (by decide) (by have:=a.k;exact aS 69428758802307547280 rfl this) a.nl;rw[ho]at this;exact this
 have d1: ∀J,aG P0 (m+7) (.aE (.ref 435)) [.ref 3,.int 5] (H.set 3 (.list [.ref 2,.int (s.k+1:Nat)])++J)= .ok (.int (bP A.nums (s.k+1) 5)) (H.set 3 (.list [.ref 2,.int (s.k+2:Nat)])++J):=fun J=>qZ (m:=m+6) a.h 1 (by decide) (by have:=a.k;exact aS 284380196054251714118928 rfl this) a.nl;have r0:=a.h.mB (s.k+2);have hf:=r0.fld a.g;have jY:=r0.row a.hr;have pp:=fun J=>(r0.app (J:=J)).hp (by have:=a.l;show s.th.length+1<aJ;exact aS 1198350098334399505846240529 rfl this);have tt:=fun J=>(r0.app (J:=J)).mU a.g a.lv;have lt:t.items.length≤aJ:=by rw[a.it];have:=a.lt;simp only[aJ];exact aS 70301331233175568528 rfl this
 have hJ:=iF (l:=r.items) (by rw[←a.it];exact lt);obtain⟨d,hd⟩: ∃d,d=bP A.nums (s.k+1) 5-1:=⟨_,rfl⟩;have cv:=sF (by simp) (G8 (m:=m+3) (pp ([PO.cell (some (.ref 5)),.cell (some (bH (i+1))),.cell (some (.int d)),.list [bH (i+1)]])) (tt _) (bS hf) lt (bG (i:=3) fB rfl));rw[a.it,hd]at cv;rw[cM]at cv;refine⟨?_,?_⟩;rotate_left
 ·refine start ?_
  apply cP (B:=mZ) rfl rfl hn (dP (kC rfl) (dP (fU rfl (bG hn rfl) (eE eG hn)) (dP (fU rfl (bG hn rfl) (eE eG hn)) (dP (kC rfl) sX))));unfold mZ;dsimp only[wH];walk_at "nrm"
  repeat(first
   |(with_reducible first|exact d0 _|exact d1 _)|((with_reducible change aG _ _ (PV.aE (aR 213)) _ _=_);exact cv)|with_reducible exact KO _ _|((with_reducible apply oQ);(focus walk_at "lk"))|walk_at "m1")
theorem Xy(a:vI A F s H i t r)(ho:bP A.nums s.k 4=1)(GR:0≤bP A.nums (s.k+1) 5-1)(hx:bP A.nums (s.k+1) 5-1<r.items.length): ∃J,aG P0 (m+8) (.aE (.ref 512)) [.ref 3,.ref 5,bH (i+1),.ref r.a] H= .ok (.bool true) (H.set 3 (.list [.ref 2,.int (s.k+2:Nat)])++J):=by
 obtain⟨n,hn⟩: ∃n,H.length=n:=⟨_,rfl⟩;have fB:(H.set 3 (.list [.ref 2,.int (s.k+2:Nat)])).length=n:=gM hn;have d0: ∀J,aG P0 (m+7) (.aE (.ref 435)) [.ref 3,.int 4] (H++J)= .ok (.int 1) (H.set 3 (.list [.ref 2,.int (s.k+1:Nat)])++J):=fun J=>by have:=nQ (m:=m+6) (J:=J) (size:=4) a.h (by decide) (by have:=a.k;exact aS 69428758802307547280 rfl this) a.nl;rw[ho]at this;exact this
 have d1: ∀J,aG P0 (m+7) (.aE (.ref 435)) [.ref 3,.int 5] (H.set 3 (.list [.ref 2,.int (s.k+1:Nat)])++J)= .ok (.int (bP A.nums (s.k+1) 5)) (H.set 3 (.list [.ref 2,.int (s.k+2:Nat)])++J):=fun J=>qZ (m:=m+6) a.h 1 (by decide) (by have:=a.k;exact aS 284380196054251714118928 rfl this) a.nl;have r0:=a.h.mB (s.k+2);have hf:=r0.fld a.g;have jY:=r0.row a.hr;have pp:=fun J=>(r0.app (J:=J)).hp (by have:=a.l;show s.th.length+1<aJ;exact aS 1198350098334399505846240529 rfl this);have tt:=fun J=>(r0.app (J:=J)).mU a.g a.lv;have lt:t.items.length≤aJ:=by rw[a.it];have:=a.lt;simp only[aJ];exact aS 70301331233175568528 rfl this
 have hJ:=iF (l:=r.items) (by rw[←a.it];exact lt);obtain⟨d,hd⟩: ∃d,d=bP A.nums (s.k+1) 5-1:=⟨_,rfl⟩;rw[←hd]at GR hx;obtain⟨y,hy⟩: ∃y,r.items[d.toNat]?=some y:=⟨_,fZ ((yG GR).mpr hx)⟩;have cv:=sF (by simp) (V3 (m:=m+1) (x:=y) (pp ([PO.cell (some (.ref 5)),.cell (some (bH (i+1))),.cell (some (.int d)),.lam uT uV [some (.ref (n+1)),some (.ref (n+2)),some (.ref (n+0)),none],.list [bH (i+1),.int d]])) (tt _) (bS hf) lt (bG (i:=4) fB rfl) GR (by rw[a.it];exact hy));rw[cM]at cv;have lc:aG P0 (m+6) (.ref (n+3)) [] (H.set 3 (.list [.ref 2,.int (s.k+2:Nat)])++([PO.cell (some (.ref 5)),.cell (some (bH (i+1))),.cell (some (.int d)),.lam uT uV [some (.ref (n+1)),some (.ref (n+2)),some (.ref (n+0)),none]]))= .ok (.int y) (H.set 3 (.list [.ref 2,.int (s.k+2:Nat)])++([PO.cell (some (.ref 5)),.cell (some (bH (i+1))),.cell (some (.int d)),.lam uT uV [some (.ref (n+1)),some (.ref (n+2)),some (.ref (n+0)),none],.list [bH (i+1),.int d]]++[.cell (some (.ref 5)),.list [],.list []])):=wB (bG (i:=3) fB rfl) rfl La (by
  repeat(first
   |((with_reducible change aG _ _ (PV.aE (aR 213)) _ _=_);exact cv)|walk_at "m1"))
 have tc:=XX (bG (i:=3) fB rfl) lc;have uN:=NI (l:=r.items) GR hy (by rw[←a.it];exact lt);have hb:(decide ((0:Int)≤d)&&decide (d<(r.items.length:Nat)))=true:=by rw[cC GR,cC hx];rfl
 rw[hd]at uN hb tc;refine⟨?_,?_⟩;rotate_left
 ·refine start ?_
  apply cP (B:=mZ) rfl rfl hn (dP (kC rfl) (dP (fU rfl (bG hn rfl) (eE eG hn)) (dP (fU rfl (bG hn rfl) (eE eG hn)) (dP (kC rfl) sX))));unfold mZ;dsimp only[wH];walk_at "nrm"
  repeat(first
   |(with_reducible first|exact d0 _|exact d1 _)|((with_reducible change aG _ _ (PV.aE (aR 449)) _ _=_);exact tc)|(with_reducible first|exact uN|exact Fe _ _)|((with_reducible apply oQ);(focus walk_at "lk"))|walk_at "m1")
theorem Xz(a:vI A F s H i t r)(ho:bP A.nums s.k 4=1)(hx: ¬(0≤bP A.nums (s.k+1) 5-1∧bP A.nums (s.k+1) 5-1<r.items.length)): ∃J,aG P0 (m+8) (.aE (.ref 512)) [.ref 3,.ref 5,bH (i+1),.ref r.a] H= .ok (.bool true) (H.set 3 (.list [.ref 2,.int (s.k+2:Nat)])++J):=by
 obtain⟨n,hn⟩: ∃n,H.length=n:=⟨_,rfl⟩;have fB:(H.set 3 (.list [.ref 2,.int (s.k+2:Nat)])).length=n:=gM hn;have d0: ∀J,aG P0 (m+7) (.aE (.ref 435)) [.ref 3,.int 4] (H++J)= .ok (.int 1) (H.set 3 (.list [.ref 2,.int (s.k+1:Nat)])++J):=fun J=>by have:=nQ (m:=m+6) (J:=J) (size:=4) a.h (by decide) (by have:=a.k;exact aS 69428758802307547280 rfl this) a.nl;rw[ho]at this;exact this
 have d1: ∀J,aG P0 (m+7) (.aE (.ref 435)) [.ref 3,.int 5] (H.set 3 (.list [.ref 2,.int (s.k+1:Nat)])++J)= .ok (.int (bP A.nums (s.k+1) 5)) (H.set 3 (.list [.ref 2,.int (s.k+2:Nat)])++J):=fun J=>qZ (m:=m+6) a.h 1 (by decide) (by have:=a.k;exact aS 284380196054251714118928 rfl this) a.nl;have r0:=a.h.mB (s.k+2);have hf:=r0.fld a.g;have jY:=r0.row a.hr;have pp:=fun J=>(r0.app (J:=J)).hp (by have:=a.l;show s.th.length+1<aJ;exact aS 1198350098334399505846240529 rfl this);have tt:=fun J=>(r0.app (J:=J)).mU a.g a.lv;have lt:t.items.length≤aJ:=by rw[a.it];have:=a.lt;simp only[aJ];exact aS 70301331233175568528 rfl this
 have hJ:=iF (l:=r.items) (by rw[←a.it];exact lt);obtain⟨d,hd⟩: ∃d,d=bP A.nums (s.k+1) 5-1:=⟨_,rfl⟩;rw[←hd]at hx;have cv:=Xm (by simp) (U9 (m:=m+1) (at_:=d) (pp ([PO.cell (some (.ref 5)),.cell (some (bH (i+1))),.cell (some (.int d)),.lam uT uV [some (.ref (n+1)),some (.ref (n+2)),some (.ref (n+0)),none],.list [bH (i+1),.int d]])) (tt _) (bS hf) lt (bG (i:=4) fB rfl) (by rw[a.it];exact hx));have lx:(H.set 3 (.list [.ref 2,.int (s.k+2:Nat)])++[PO.cell (some (.ref 5)),.cell (some (bH (i+1))),.cell (some (.int d)),.lam uT uV [some (.ref (n+1)),some (.ref (n+2)),some (.ref (n+0)),none],.list [bH (i+1),.int d]]).length=n+5:=lW fB;rw[cM,lx]at cv;have lc:aG P0 (m+6) (.ref (n+3)) [] (H.set 3 (.list [.ref 2,.int (s.k+2:Nat)])++([PO.cell (some (.ref 5)),.cell (some (bH (i+1))),.cell (some (.int d)),.lam uT uV [some (.ref (n+1)),some (.ref (n+2)),some (.ref (n+0)),none]]))= .exc 63 (n+5+1) (H.set 3 (.list [.ref 2,.int (s.k+2:Nat)])++([PO.cell (some (.ref 5)),.cell (some (bH (i+1))),.cell (some (.int d)),.lam uT uV [some (.ref (n+1)),some (.ref (n+2)),some (.ref (n+0)),none],.list [bH (i+1),.int d]]++[.cell (some (.ref 5)),.ns [(0,sv "index")]])):=wB (bG (i:=3) fB rfl) rfl La (by
  repeat(first
   |((with_reducible change aG _ _ (PV.aE (aR 213)) _ _=_);exact cv)|walk_at "m1"))
 have tc:=XW (v:=sv "index") (bG (i:=3) fB rfl) lc (bG (i:=6) fB rfl) rfl;rw[cM]at tc;have hb:(decide ((0:Int)≤d)&&decide (d<(r.items.length:Nat)))=false:=Mg hx;rw[hd]at hb tc;refine⟨?_,?_⟩;rotate_left
 ·refine start ?_
  apply cP (B:=mZ) rfl rfl hn (dP (kC rfl) (dP (fU rfl (bG hn rfl) (eE eG hn)) (dP (fU rfl (bG hn rfl) (eE eG hn)) (dP (kC rfl) sX))));unfold mZ;dsimp only[wH];walk_at "nrm"
  repeat(first
   |(with_reducible first|exact d0 _|exact d1 _)|((with_reducible change aG _ _ (PV.aE (aR 449)) _ _=_);exact tc)|with_reducible exact SI _|((with_reducible apply oQ);(focus walk_at "lk"))|walk_at "m1")
theorem Xw(a:vI A F s H i t r)(ho:bP A.nums s.k 4=2)(he:r.items=[]): ∃J,aG P0 (m+8) (.aE (.ref 512)) [.ref 3,.ref 5,bH (i+1),.ref r.a] H= .ok (.bool true) (H.set 3 (.list [.ref 2,.int (s.k+2:Nat)])++J):=by
 obtain⟨n,hn⟩: ∃n,H.length=n:=⟨_,rfl⟩;have fB:(H.set 3 (.list [.ref 2,.int (s.k+2:Nat)])).length=n:=gM hn;have d0: ∀J,aG P0 (m+7) (.aE (.ref 435)) [.ref 3,.int 4] (H++J)= .ok (.int 2) (H.set 3 (.list [.ref 2,.int (s.k+1:Nat)])++J):=fun J=>by have:=nQ (m:=m+6) (J:=J) (size:=4) a.h (by decide) (by have:=a.k;exact aS 69428758802307547280 rfl this) a.nl;rw[ho]at this;exact this
 have d1: ∀J,aG P0 (m+7) (.aE (.ref 435)) [.ref 3,.int 5] (H.set 3 (.list [.ref 2,.int (s.k+1:Nat)])++J)= .ok (.int (bP A.nums (s.k+1) 5)) (H.set 3 (.list [.ref 2,.int (s.k+2:Nat)])++J):=fun J=>qZ (m:=m+6) a.h 1 (by decide) (by have:=a.k;exact aS 284380196054251714118928 rfl this) a.nl;have r0:=a.h.mB (s.k+2);have hf:=r0.fld a.g;have jY:=r0.row a.hr;have pp:=fun J=>(r0.app (J:=J)).hp (by have:=a.l;show s.th.length+1<aJ;exact aS 1198350098334399505846240529 rfl this);have tt:=fun J=>(r0.app (J:=J)).mU a.g a.lv;have lt:t.items.length≤aJ:=by rw[a.it];have:=a.lt;simp only[aJ];exact aS 70301331233175568528 rfl this
 have hJ:=iF (l:=r.items) (by rw[←a.it];exact lt);obtain⟨d,hd⟩: ∃d,d=bP A.nums (s.k+1) 5-1:=⟨_,rfl⟩;rw[a.it,he]at hf;rw[he]at jY;have cv:=sF (by simp) (S6 (m:=m+3) (pp ([PO.cell (some (.ref 5)),.cell (some (bH (i+1))),.cell (some (.int d)),.list [],.list [bH (i+1)]])) (tt _) (bS hf) (bG (i:=4) fB rfl));rw[hd,cM]at cv;refine⟨?_,?_⟩;rotate_left
 ·refine start ?_
  apply cP (B:=mZ) rfl rfl hn (dP (kC rfl) (dP (fU rfl (bG hn rfl) (eE eG hn)) (dP (fU rfl (bG hn rfl) (eE eG hn)) (dP (kC rfl) sX))));unfold mZ;dsimp only[wH];walk_at "nrm"
  repeat(first
   |(with_reducible first|exact d0 _|exact d1 _)|((with_reducible change dE _ (PV.ref _) (PV.ref _) _=_);exact qF (rJ (l:=[]) (k:=[]) (bS jY) (bG (i:=3) fB rfl)))|((with_reducible change aG _ _ (PV.aE (aR 213)) _ _=_);exact cv)|with_reducible exact Fd _|((with_reducible apply oQ);(focus walk_at "lk"))|walk_at "m1")
theorem Xx(a:vI A F s H i t r)(ho:bP A.nums s.k 4=2)(he:decide (r.items=[])=false)(hx:r.items[0]?=some x): ∃J,aG P0 (m+8) (.aE (.ref 512)) [.ref 3,.ref 5,bH (i+1),.ref r.a] H= .ok (.bool true) (H.set 3 (.list [.ref 2,.int (s.k+2:Nat)])++J):=by
 obtain⟨n,hn⟩: ∃n,H.length=n:=⟨_,rfl⟩;have fB:(H.set 3 (.list [.ref 2,.int (s.k+2:Nat)])).length=n:=gM hn;have d0: ∀J,aG P0 (m+7) (.aE (.ref 435)) [.ref 3,.int 4] (H++J)= .ok (.int 2) (H.set 3 (.list [.ref 2,.int (s.k+1:Nat)])++J):=fun J=>by have:=nQ (m:=m+6) (J:=J) (size:=4) a.h (by decide) (by have:=a.k;exact aS 69428758802307547280 rfl this) a.nl;rw[ho]at this;exact this
 have d1: ∀J,aG P0 (m+7) (.aE (.ref 435)) [.ref 3,.int 5] (H.set 3 (.list [.ref 2,.int (s.k+1:Nat)])++J)= .ok (.int (bP A.nums (s.k+1) 5)) (H.set 3 (.list [.ref 2,.int (s.k+2:Nat)])++J):=fun J=>qZ (m:=m+6) a.h 1 (by decide) (by have:=a.k;exact aS 284380196054251714118928 rfl this) a.nl;have r0:=a.h.mB (s.k+2);have hf:=r0.fld a.g;have jY:=r0.row a.hr;have pp:=fun J=>(r0.app (J:=J)).hp (by have:=a.l;show s.th.length+1<aJ;exact aS 1198350098334399505846240529 rfl this);have tt:=fun J=>(r0.app (J:=J)).mU a.g a.lv;have lt:t.items.length≤aJ:=by rw[a.it];have:=a.lt;simp only[aJ];exact aS 70301331233175568528 rfl this
 have hJ:=iF (l:=r.items) (by rw[←a.it];exact lt);obtain⟨d,hd⟩: ∃d,d=bP A.nums (s.k+1) 5-1:=⟨_,rfl⟩;have sq:iI (r.items.map PV.int) 0=some (.int x):=NI (by decide) hx (by rw[←a.it];exact lt);have XK:=sq;have cv:=sF (by simp) (S7 (m:=m+3) (x:=x) (pp ([PO.cell (some (.ref 5)),.cell (some (bH (i+1))),.cell (some (.int d)),.list [],.list [bH (i+1)]])) (tt _) (bS hf) (by rw[a.it];exact he) (by rw[a.it];exact sq) (bG (i:=4) fB rfl));rw[hd,cM]at cv;refine⟨?_,?_⟩;rotate_left
 ·refine start ?_
  apply cP (B:=mZ) rfl rfl hn (dP (kC rfl) (dP (fU rfl (bG hn rfl) (eE eG hn)) (dP (fU rfl (bG hn rfl) (eE eG hn)) (dP (kC rfl) sX))));unfold mZ;dsimp only[wH];walk_at "nrm"
  repeat(first
   |(with_reducible first|exact d0 _|exact d1 _)|((with_reducible change dE _ (PV.ref _) (PV.ref _) _=_);exact qF (rJ (l:=r.items) (k:=[]) (bS jY) (bG (i:=3) fB rfl)))|((with_reducible change aG _ _ (PV.aE (aR 213)) _ _=_);exact cv)|(with_reducible first|exact XK|exact Fc _ _)|((with_reducible apply oQ);(focus walk_at "lk"))|walk_at "m1")
theorem Yb(a:vI A F s H i t r)(ho:bP A.nums s.k 4=3)(he:r.items=[]): ∃J,aG P0 (m+8) (.aE (.ref 512)) [.ref 3,.ref 5,bH (i+1),.ref r.a] H= .ok (.bool true) (H.set 3 (.list [.ref 2,.int (s.k+2:Nat)])++J):=by
 obtain⟨n,hn⟩: ∃n,H.length=n:=⟨_,rfl⟩;have fB:(H.set 3 (.list [.ref 2,.int (s.k+2:Nat)])).length=n:=gM hn;have d0: ∀J,aG P0 (m+7) (.aE (.ref 435)) [.ref 3,.int 4] (H++J)= .ok (.int 3) (H.set 3 (.list [.ref 2,.int (s.k+1:Nat)])++J):=fun J=>by have:=nQ (m:=m+6) (J:=J) (size:=4) a.h (by decide) (by have:=a.k;exact aS 69428758802307547280 rfl this) a.nl;rw[ho]at this;exact this
 have d1: ∀J,aG P0 (m+7) (.aE (.ref 435)) [.ref 3,.int 5] (H.set 3 (.list [.ref 2,.int (s.k+1:Nat)])++J)= .ok (.int (bP A.nums (s.k+1) 5)) (H.set 3 (.list [.ref 2,.int (s.k+2:Nat)])++J):=fun J=>qZ (m:=m+6) a.h 1 (by decide) (by have:=a.k;exact aS 284380196054251714118928 rfl this) a.nl;have r0:=a.h.mB (s.k+2);have hf:=r0.fld a.g;have jY:=r0.row a.hr;have pp:=fun J=>(r0.app (J:=J)).hp (by have:=a.l;show s.th.length+1<aJ;exact aS 1198350098334399505846240529 rfl this);have tt:=fun J=>(r0.app (J:=J)).mU a.g a.lv;have lt:t.items.length≤aJ:=by rw[a.it];have:=a.lt;simp only[aJ];exact aS 70301331233175568528 rfl this
 have hJ:=iF (l:=r.items) (by rw[←a.it];exact lt);obtain⟨d,hd⟩: ∃d,d=bP A.nums (s.k+1) 5-1:=⟨_,rfl⟩;rw[a.it,he]at hf;rw[he]at jY;have cv:=sF (by simp) (iz (m:=m+3) (pp ([PO.cell (some (.ref 5)),.cell (some (bH (i+1))),.cell (some (.int d)),.list [],.list [bH (i+1)]])) (tt _) (bS hf) (bG (i:=4) fB rfl));rw[hd,cM]at cv;refine⟨?_,?_⟩;rotate_left
 ·refine start ?_
  apply cP (B:=mZ) rfl rfl hn (dP (kC rfl) (dP (fU rfl (bG hn rfl) (eE eG hn)) (dP (fU rfl (bG hn rfl) (eE eG hn)) (dP (kC rfl) sX))));unfold mZ;dsimp only[wH];walk_at "nrm"
  repeat(first
   |(with_reducible first|exact d0 _|exact d1 _)|((with_reducible change dE _ (PV.ref _) (PV.ref _) _=_);exact qF (rJ (l:=[]) (k:=[]) (bS jY) (bG (i:=3) fB rfl)))|((with_reducible change aG _ _ (PV.aE (aR 213)) _ _=_);exact cv)|with_reducible exact Fd _|((with_reducible apply oQ);(focus walk_at "lk"))|walk_at "m1")
theorem Yc(a:vI A F s H i t r)(ho:bP A.nums s.k 4=3)(he:decide (r.items=[])=false)(hx:r.items.getLast?=some x): ∃J,aG P0 (m+8) (.aE (.ref 512)) [.ref 3,.ref 5,bH (i+1),.ref r.a] H= .ok (.bool true) (H.set 3 (.list [.ref 2,.int (s.k+2:Nat)])++J):=by
 obtain⟨n,hn⟩: ∃n,H.length=n:=⟨_,rfl⟩;have fB:(H.set 3 (.list [.ref 2,.int (s.k+2:Nat)])).length=n:=gM hn;have d0: ∀J,aG P0 (m+7) (.aE (.ref 435)) [.ref 3,.int 4] (H++J)= .ok (.int 3) (H.set 3 (.list [.ref 2,.int (s.k+1:Nat)])++J):=fun J=>by have:=nQ (m:=m+6) (J:=J) (size:=4) a.h (by decide) (by have:=a.k;exact aS 69428758802307547280 rfl this) a.nl;rw[ho]at this;exact this
 have d1: ∀J,aG P0 (m+7) (.aE (.ref 435)) [.ref 3,.int 5] (H.set 3 (.list [.ref 2,.int (s.k+1:Nat)])++J)= .ok (.int (bP A.nums (s.k+1) 5)) (H.set 3 (.list [.ref 2,.int (s.k+2:Nat)])++J):=fun J=>qZ (m:=m+6) a.h 1 (by decide) (by have:=a.k;exact aS 284380196054251714118928 rfl this) a.nl;have r0:=a.h.mB (s.k+2);have hf:=r0.fld a.g;have jY:=r0.row a.hr;have pp:=fun J=>(r0.app (J:=J)).hp (by have:=a.l;show s.th.length+1<aJ;exact aS 1198350098334399505846240529 rfl this);have tt:=fun J=>(r0.app (J:=J)).mU a.g a.lv;have lt:t.items.length≤aJ:=by rw[a.it];have:=a.lt;simp only[aJ];exact aS 70301331233175568528 rfl this
 have hJ:=iF (l:=r.items) (by rw[←a.it];exact lt);obtain⟨d,hd⟩: ∃d,d=bP A.nums (s.k+1) 5-1:=⟨_,rfl⟩;have sp:0<r.items.length:=by cases hh:r.items with
  |nil=>rw[hh]at he;exact absurd rfl (of_decide_eq_false he)|cons y l=>simp
 have gx:r.items[r.items.length-1]?=some x:=by rw[←Um];exact hx
 have lr:r.items.length≤aJ:=by rw[←a.it];exact lt
 have sq:iI (r.items.map PV.int) (-1)=some (.int x):=by
  unfold iI;rw[aN (by rw[cR];exact aS 71427231136847036948 rfl lr),aN (by decide),aV (by rw[cR];exact aS 67589187918759832 rfl sp),cR,show((-1:Int)+r.items.length).toNat=r.items.length-1 from(bN Tv (DW _ _)).trans (Tw _ 1),fW,gx];rfl
 have XK:iI (r.items.map PV.int) ((r.items.length:Int)-1)=some (.int x):=NI (aS 4325708026742702104 rfl sp) (by rw[show((r.items.length:Int)-1).toNat=r.items.length-1 from Tw _ 1];exact gx) lr;have cv:=sF (by simp) (ja (m:=m+3) (x:=x) (pp ([PO.cell (some (.ref 5)),.cell (some (bH (i+1))),.cell (some (.int d)),.list [],.list [bH (i+1)]])) (tt _) (bS hf) (by rw[a.it];exact he) (by rw[a.it];exact sq) (bG (i:=4) fB rfl));rw[hd,cM]at cv;refine⟨?_,?_⟩;rotate_left
 ·refine start ?_
  apply cP (B:=mZ) rfl rfl hn (dP (kC rfl) (dP (fU rfl (bG hn rfl) (eE eG hn)) (dP (fU rfl (bG hn rfl) (eE eG hn)) (dP (kC rfl) sX))));unfold mZ;dsimp only[wH];walk_at "nrm"
  repeat(first
   |(with_reducible first|exact d0 _|exact d1 _)|((with_reducible change dE _ (PV.ref _) (PV.ref _) _=_);exact qF (rJ (l:=r.items) (k:=[]) (bS jY) (bG (i:=3) fB rfl)))|((with_reducible change aG _ _ (PV.aE (aR 213)) _ _=_);exact cv)|(with_reducible first|exact XK|exact Fc _ _)|((with_reducible apply oQ);(focus walk_at "lk"))|walk_at "m1")
theorem Yd(a:vI A F s H i t r): ∃H',aG P0 (m+8) (.aE (.ref 512)) [.ref 3,.ref 5,bH (i+1),.ref r.a] H= .ok (.bool true) H'∧Rep A F (s.wk (s.k+2)) H':=by
 have r0:=a.h.mB (s.k+2);have h0:=pP (nums:=A.nums) (k:=s.k) (size:=4) (by decide);have h1:=pQ (nums:=A.nums) (k:=s.k) (size:=4) (by decide);have hc:bP A.nums s.k 4=0∨bP A.nums s.k 4=1∨bP A.nums s.k 4=2∨bP A.nums s.k 4=3:=rh h0 h1;rcases hc with e|e|e|e
 ·obtain⟨J,c⟩:=Xv (m:=m) a e
  exact⟨_,c,r0.app⟩
 ·by_cases hx:0≤bP A.nums (s.k+1) 5-1∧bP A.nums (s.k+1) 5-1<r.items.length
  ·obtain⟨J,c⟩:=Xy (m:=m) a e hx.1 hx.2
   exact⟨_,c,r0.app⟩
  ·obtain⟨J,c⟩:=Xz (m:=m) a e hx
   exact⟨_,c,r0.app⟩
 ·by_cases he:r.items=[]
  ·obtain⟨J,c⟩:=Xw (m:=m) a e he
   exact⟨_,c,r0.app⟩
  ·obtain⟨x,hx⟩: ∃x,r.items[0]?=some x:=⟨_,fZ (Uo.mpr he)⟩
   obtain⟨J,c⟩:=Xx (m:=m) a e (iW he) hx;exact⟨_,c,r0.app⟩
 ·by_cases he:r.items=[]
  ·obtain⟨J,c⟩:=Yb (m:=m) a e he
   exact⟨_,c,r0.app⟩
  ·obtain⟨x,hx⟩: ∃x,r.items.getLast?=some x:=⟨_,List.getLast?_eq_some_getLast he⟩
   obtain⟨J,c⟩:=Yc (m:=m) a e (iW he) hx;exact⟨_,c,r0.app⟩
end
section
variable{m n:Nat}{H J K H2:PH}{A:Ad}{F:List (Nat×PO)}{s s' s2 s3:St}{i i' i2 idx:Nat}{v w hv:PV}{q c c' d:Nat}{p:List Int}{j j2 x nm:Int}{r r' r2:RW}{t t' t2:TH}{bX IF:PV→PV}
theorem aA5(h:Rep A ((c',.cell (some (spot A.R (0::p))))::(c,.cell (some (.ref 5)))::F) s H)(a:rT s p j r i t bX)(w:Wl A s):
  ∃H',gW (dG (aG P0 (m+8)) (eT A c c' 5 p x nm) H)= .ok (.bool true) H'∧Rep A F (s.wk (s.k+2)) H':=by
 have k0:=h.tmp (a:=c) (o:= .cell (some (.ref 5))) (by simp);have k1:=h.tmp (a:=c') (o:= .cell (some (spot A.R (0::p)))) (by simp);obtain⟨H1,c1,r1⟩:=Yd (m:=m) (i:=i) (t:=t) (r:=r) ⟨h.app (J:=[]),a.g,a.lv,a.it,a.len,IC a.hr,by have:=w.th;exact aS 1198350107557771542702064913 rfl this,w.k,w.nl⟩;have fu:aG P0 (m+5+3) (.aE (.ref 138)) [spot A.R (0::p)] (H++[])= .ok (bH (i+1)) (H++[]):=zD h.app a.e;have hB:=h.book;have hO:=h.of;have hW:=h.zS;have kp:=uS p;have d1:cZ (eS s.rows) (.int j)=true:=vD _ _;have d2:=rG w.b.tk (p.map PA.int);have g1:bZ (dF s.of) (pk p)=some (.int j):=by rw[sU,a.ho];rfl
 have g2:bZ (eS s.rows) (.int j)=some (.ref r.a):=by rw[zR,a.hr];rfl
 have main: ∃dO,dG (aG P0 (m+8)) (eT A c c' 5 p x nm) H= .ok (.ret (.bool true),dO) H1:=by
  refine⟨?_,?_⟩;rotate_left
  ·refine start ?_
   unfold dG
   repeat(first
    |(with_reducible first|exact c1|exact fu|exact kp)|((with_reducible apply pL);(focus walk_at "lk"))|((with_reducible apply vZ);(focus walk_at "lk"))|walk_at "m1")
 obtain⟨dO,e⟩:=main;exact⟨_,by rw[e];rfl,r1.free.free⟩
theorem YK(h:Rep A ((c',.cell (some (spot A.R (0::p))))::(c,.cell (some (.ref 5)))::F) s H)(a:rT s p j r i t bX)(a2:rT s (iH (bP A.nums s.k 2)) j2 r2 i2 t2 IF)(w:Wl A s)(th:xU s.hands)(lh:s.hands.length<1000)(hn:bZ s.hands (bI nm)=none):
  ∃H' t' rn,gW (dG (aG P0 (m+7)) (eT A c c' 6 p x nm) H)= .ok (.bool true) H'∧
   Rep A F ((((((s.wk (s.k+1)).gE (s.th++[t'])).qK (bT s.hands (bI nm) (bH (s.th.length+1)))).tG (s.next+1)).iA (s.rows++[⟨s.next+1,rn,r.items++r2.items⟩])).kG (oset s.of (bI nm) (s.next+1))) H'∧t'.st=1∧t'.live=true∧t'.items=r.items++r2.items:=by
 have k0:=h.tmp (a:=c) (o:= .cell (some (.ref 5))) (by simp);have k1:=h.tmp (a:=c') (o:= .cell (some (spot A.R (0::p)))) (by simp);refine bQ fun G_ aQ=>?_;obtain⟨n,uM⟩: ∃n,H.length=n:=⟨_,rfl⟩;have fB:(H.set 3 (.list [.ref 2,.int (s.k+1:Nat)])).length=n:=gM uM;have d0: ∀J,aG P0 (m+7) (.aE (.ref 435)) [.ref 3,.int 2] (H++J)= .ok (.int (bP A.nums s.k 2)) (H.set 3 (.list [.ref 2,.int (s.k+1:Nat)])++J):=fun J=>nQ (m:=m+6) h (by decide) (by have:=w.k;exact aS 69428758802307547280 rfl this) w.nl;have iY:=Oa (pP (nums:=A.nums) (k:=s.k) (size:=2) (by decide)) (pQ (by decide));have ha: ∀H,aG P0 (m+7) (.aE (.ref 442)) [spot A.R [0],bL (iH (bP A.nums s.k 2))] H= .ok (spot A.R (0::iH (bP A.nums s.k 2))) H:=fun H=>qU (m:=m+4) _ (Ny _);have r0:=h.mB (s.k+1);have k2:=r0.tmp (a:=c) (o:= .cell (some (.ref 5))) (by simp);have k3:=r0.tmp (a:=c') (o:= .cell (some (spot A.R (0::p)))) (by simp);have fu: ∀J,aG P0 (m+7) (.aE (.ref 138)) [spot A.R (0::p)] (H.set 3 (.list [.ref 2,.int (s.k+1:Nat)])++J)= .ok (bH (i+1)) (H.set 3 (.list [.ref 2,.int (s.k+1:Nat)])++J):=fun J=>zD (m:=m+4) (r0.app (J:=J)) a.e;have U1: ∀J,aG P0 (m+7) (.aE (.ref 138)) [spot A.R (0::iH (bP A.nums s.k 2))] (H.set 3 (.list [.ref 2,.int (s.k+1:Nat)])++J)= .ok (bH (i2+1)) (H.set 3 (.list [.ref 2,.int (s.k+1:Nat)])++J):=fun J=>zD (m:=m+4) (r0.app (J:=J)) a2.e;have je:t.items.length+t2.items.length≤aJ:=by rw[a.it,a2.it];exact sA (Vb a.len a2.len)
 obtain⟨t',H1,c1,r1,q1,q2,q3⟩:=G3 (m:=m+1) (q:=n+1) (r0.app (J:=[.list [bL [1],bL [2,1]],.list [bH (i+1),bH (i2+1)]])) a.g a.lv a2.g a2.lv (by have:=w.th;show s.th.length+1<aJ;exact aS 1198350107557771542701016337 rfl this) je (bG (i:=1) fB rfl);have c1:aG P0 (m+7) (.aE (.ref 213)) [.ref 5,sv "array#concat",.ref (n+1)] (H.set 3 (.list [.ref 2,.int (s.k+1:Nat)])++[.list [bL [1],bL [2,1]],.list [bH (i+1),bH (i2+1)]])= .ok (bH (s.th.length+1)) (H1++[]):=by rw[eL];exact c1
 have hD:=r1.hand;have dk:=AB th [.str (aA "kept"),.int nm];have jk:decide (s.hands.length<aJ)=true:=cC (by simp only[aJ];exact aS 69456906303043600529 rfl lh);have r3:=r1.YC (bT s.hands (bI nm) (bH (s.th.length+1)));have aDW:(!(bZ s.hands (bI nm)).isSome)=true:=by rw[hn];rfl
 have hDh:=h.hand;have kp:=uS p;have gq:=uS (iH (bP A.nums s.k 2));have kn:keyOf (kept nm)=some (bI nm):=rfl;have hB:=r3.book;have hO:=r3.of;have hW:=r3.zS;have e1:cZ (eS s.rows) (.int j)=true:=vD _ _;have e1':cZ (eS s.rows) (.int j2)=true:=vD _ _;have e2:=rG w.b.tk (p.map PA.int);have e2':=rG w.b.tk ((iH (bP A.nums s.k 2)).map PA.int);have g1:bZ (dF s.of) (pk p)=some (.int j):=by rw[sU,a.ho];rfl
 have g2:bZ (eS s.rows) (.int j)=some (.ref r.a):=by rw[zR,a.hr];rfl
 have g1':bZ (dF s.of) (pk (iH (bP A.nums s.k 2)))=some (.int j2):=by rw[sU,a2.ho];rfl
 have g2':bZ (eS s.rows) (.int j2)=some (.ref r2.a):=by rw[zR,a2.hr];rfl
 have hr1:=r3.row (IC a.hr);have hr2:=r3.row (IC a2.hr);have lr:(r.items++r2.items).length≤aJ:=by rw[eO];exact sA (Vb a.len a2.len)
 have lrd:decide ((r.items.map PV.int++r2.items.map PV.int).length≤aJ)=true:=cC (by rw[eO,cR,cR,←eO];exact lr);obtain⟨n1,gV⟩: ∃n,(H1.set A.D (.dict (bT s.hands (bI nm) (bH (s.th.length+1))) false)).length=n:=⟨_,rfl⟩;obtain⟨rn,H4,c4,r4⟩:=VK (m:=m+6) (hv:=kept nm) (l:=[.str (aA "kept"),.int nm]) (q:=n1+0) (items:=r.items++r2.items) (r3.app (J:=[.list ((r.items++r2.items).map .int)])) ⟨w.b.tk,w.b.rl,w.b.lo,w.b.lr⟩ rfl (bG gV rfl) lr;have c4:aG P0 (m+7) (.aE (.ref 498)) [.ref A.B,kept nm,.ref (n1+0)] (H1.set A.D (.dict (bT s.hands (bI nm) (bH (s.th.length+1))) false)++[.list (r.items.map PV.int++r2.items.map PV.int)])= .ok .none H4:=by rw[←kJ];exact c4
 have main: ∃dO,dG (aG P0 (m+7)) (eT A c c' 6 p x nm) H= .ok (.ret (.bool true),dO) H4:=by
  refine⟨?_,?_⟩;rotate_left
  ·refine start ?_
   unfold dG
   repeat(first
    |(with_reducible first|exact d0 _|exact ha _|exact fu _|exact U1 _|exact kp|exact gq|exact kn)|((with_reducible change aG _ _ (PV.aE (aR 213)) _ _=_);exact c1)|((with_reducible change aG _ _ (PV.aE (aR 498)) _ _=_);exact c4)|((with_reducible apply cl);(focus((with_reducible apply Cc);walk_at "ln"));(focus walk_at "st"))|((with_reducible apply Nb);(focus walk_at "lk");(focus walk_at "lk"))|((with_reducible apply MN);(focus walk_at "lk"))|((with_reducible apply pL);(focus walk_at "lk"))|((with_reducible apply vZ);(focus walk_at "lk"))|walk_at "m1")
 obtain⟨dO,e⟩:=main;refine aQ ?_;exact⟨H4,t',rn,by rw[e];rfl,r4.free.free,q1,q2,by rw[q3,a.it,a2.it]⟩
end
section
variable{m n:Nat}{H J K H2:PH}{A:Ad}{F:List (Nat×PO)}{s s' s2 s3:St}{i i' i2 idx:Nat}{v w hv:PV}{q c c' d:Nat}{p:List Int}{j j2 nm x b1 y b2 z:Int}{r r' r2:RW}{t t' t2:TH}{bX IF:PV→PV}
noncomputable def tP(t t':TH):Prop:=(2≤t.st∧t'=(t.iB (t.st-1)))∨(t.st=1∧t'.live=false)
theorem RX(h:Rep A F s H)(g:s.th[i]?=some t)(lv:t.live=true)(one:1≤t.st)(l:s.th.length+1<aJ)(lt:t.items.length≤aJ)
  (hc: ∀{m n:Nat} {H:PH},H.length=n→aG P0 (m+4) (.aE (.ref 88)) [v] H= .ok (.ref n) (H++[.list [.tup [sv "strong",.int (i+1)]],.list []])):
  ∃H' t',aG P0 (m+5) (.aE (.ref 318)) [.ref 5,v] H= .ok .none H'∧Rep A F (s.gE (s.th.set i t')) H'∧tP t t':=by
 have p:=h.hp l;have q:=h.mU g lv;refine bQ fun G_ aQ=>?_;obtain⟨H2,all,d⟩:=J3 (m:=m) p q one (h.fld g) lt (fun e=>hc e);rcases d with⟨a,J,e⟩|⟨a,J,f,e,lf,gf⟩
 ·refine aQ ?_
  refine⟨H2,_,all,?_,.inl ⟨a,rfl⟩⟩;have u:=h.YH g (t.st-1);rw[show uU t.live=sv "live" by rw[lv];rfl]at u;rw[e];exact u.app
 ·refine aQ ?_
  refine⟨H2,(t.gone f),all,?_,.inr ⟨a,rfl⟩⟩;have u:=h.aAR (J:=J) (f:=f) g (by rw[←e];exact gf) lf;rw[e];exact u
abbrev gB(x b1 y b2 z:Int):PV:=agg [.int x,bH b1,agg [.int y,bH b2],vX (.tup [sv "k",.tup []]) (.int z)]
abbrev natE(x y z:Int):cA:=[(pk [0],.int x),(pk [2,0],.int y),(pk [3,-1,0],.int z)]
theorem aA1(h:Rep A ((c',.cell (some (spot A.R (0::p))))::(c,.cell (some (.ref 5)))::F) s H)(hv:s.val=gB x b1 y b2 z)(hN:s.nat=natE x y z)(w:Wl A s){u:Int}:
  ∃H' x' y' z',gW (dG (aG P0 (m+8)) (eT A c c' 0 p u nm) H)= .ok (.bool true) H'∧Rep A F (((s.wk (s.k+1)).qL (gB x' b1 y' b2 z')).DO (natE x' y' z')) H':=by
 obtain⟨n,uM⟩: ∃n,H.length=n:=⟨_,rfl⟩;have d0: ∀J,aG P0 (m+8) (.aE (.ref 435)) [.ref 3,.int 3] (H++J)= .ok (.int (bP A.nums s.k 3)) (H.set 3 (.list [.ref 2,.int (s.k+1:Nat)])++J):=fun J=>nQ (m:=m+7) h (by decide) (by have:=w.k;exact aS 69428758802307547280 rfl this) w.nl;have h0:=pP (nums:=A.nums) (k:=s.k) (size:=3) (by decide);have h1:=pQ (nums:=A.nums) (k:=s.k) (size:=3) (by decide);have r0:=(h.mB (s.k+1)).app (J:=[.list [bL [0],bL [2,0],bL [3,-1,0]]]);have sP:(H.set 3 (.list [.ref 2,.int (s.k+1:Nat)]))[A.N]?=some (.dict s.nat false):=(h.mB (s.k+1)).VI;have hc:bP A.nums s.k 3=0∨bP A.nums s.k 3=1∨bP A.nums s.k 3=2:=or3 h0 h1;rcases hc with hc|hc|hc
 ·rw[hc]at d0
  have ha: ∀H,aG P0 (m+8) (.aE (.ref 442)) [spot A.R [0],bL [0]] H= .ok (spot A.R (0::[0])) H:=fun H=>qU (m:=m+5) _ (by decide);have r1:=r0.NS (natE u y z);have r2:=r1.AD (gB u b1 y b2 z);have wr:=xY (m:=m+2) (p:=[0]) (v:= .int u) (by decide) r1.root (fun J=>by show aG _ _ _ [s.val,_,_] _=_;rw[hv];exact gw (m:=m+2));have IA:=read0 (m:=m+6) r2.root;have gJ: ∀K:PH,K.set A.N (.dict (bT (natE x y z) (pk [0]) (.int u)) false)=K.set A.N (.dict (natE u y z) false):=fun K=>rfl;rw[hN]at sP;have zL:keyOf (bL [0])=some (pk [0]):=rfl;have zX:(H.set 3 (.list [.ref 2,.int (s.k+1:Nat)])++[PO.list [bL [0],bL [2,0],bL [3,-1,0]]]).set A.N (.dict (natE u y z) false)=(H.set 3 (.list [.ref 2,.int (s.k+1:Nat)])++[PO.list [bL [0],bL [2,0],bL [3,-1,0]]]).set A.N (.dict (natE u y z) false):=rfl;refine⟨_,u,y,z,?_,r2.free.free⟩;have main: ∃dO,dG (aG P0 (m+8)) (eT A c c' 0 p u nm) H= .ok (.ret (.bool true),dO) (((H.set 3 (.list [.ref 2,.int (s.k+1:Nat)])++[PO.list [bL [0],bL [2,0],bL [3,-1,0]]]).set A.N (.dict (natE u y z) false)).set A.R (.list [gB u b1 y b2 z])):=by
   refine⟨?_,?_⟩;rotate_left
   ·refine start ?_
    unfold dG
    repeat(first
     |(with_reducible first|exact d0 _|exact ha _|exact zL|exact KO _ _)|((with_reducible change aG _ _ (PV.aE (aR 131)) _ _=_);exact wr)|((with_reducible change aG _ _ (PV.aE (aR 117)) _ _=_);exact IA)|((with_reducible apply cl);(focus((with_reducible apply VR);walk_at "ln"));(focus walk_at "st"))|((with_reducible change qP _ A.N _=_);exact gJ _)|walk_at "m1")
  obtain⟨dO,e⟩:=main;rw[e];rfl
 ·rw[hc]at d0
  have ha: ∀H,aG P0 (m+8) (.aE (.ref 442)) [spot A.R [0],bL [2,0]] H= .ok (spot A.R (0::[2,0])) H:=fun H=>qU (m:=m+5) _ (by decide);have r1:=r0.NS (natE x u z);have r2:=r1.AD (gB x b1 u b2 z);have wr:=xY (m:=m+2) (p:=[2,0]) (v:= .int u) (by decide) r1.root (fun J=>by show aG _ _ _ [s.val,_,_] _=_;rw[hv];exact Ky (m:=m+2));have IA:=NE (m:=m+6) r2.root;have gJ: ∀K:PH,K.set A.N (.dict (bT (natE x y z) (pk [2,0]) (.int u)) false)=K.set A.N (.dict (natE x u z) false):=fun K=>rfl;rw[hN]at sP;have zL:keyOf (bL [2,0])=some (pk [2,0]):=rfl;have zX:(H.set 3 (.list [.ref 2,.int (s.k+1:Nat)])++[PO.list [bL [0],bL [2,0],bL [3,-1,0]]]).set A.N (.dict (natE x u z) false)=(H.set 3 (.list [.ref 2,.int (s.k+1:Nat)])++[PO.list [bL [0],bL [2,0],bL [3,-1,0]]]).set A.N (.dict (natE x u z) false):=rfl;refine⟨_,x,u,z,?_,r2.free.free⟩;have main: ∃dO,dG (aG P0 (m+8)) (eT A c c' 0 p u nm) H= .ok (.ret (.bool true),dO) (((H.set 3 (.list [.ref 2,.int (s.k+1:Nat)])++[PO.list [bL [0],bL [2,0],bL [3,-1,0]]]).set A.N (.dict (natE x u z) false)).set A.R (.list [gB x b1 u b2 z])):=by
   refine⟨?_,?_⟩;rotate_left
   ·refine start ?_
    unfold dG
    repeat(first
     |(with_reducible first|exact d0 _|exact ha _|exact zL|exact KO _ _)|((with_reducible change aG _ _ (PV.aE (aR 131)) _ _=_);exact wr)|((with_reducible change aG _ _ (PV.aE (aR 117)) _ _=_);exact IA)|((with_reducible apply cl);(focus((with_reducible apply VR);walk_at "ln"));(focus walk_at "st"))|((with_reducible change qP _ A.N _=_);exact gJ _)|walk_at "m1")
  obtain⟨dO,e⟩:=main;rw[e];rfl
 ·rw[hc]at d0
  have ha: ∀H,aG P0 (m+8) (.aE (.ref 442)) [spot A.R [0],bL [3,-1,0]] H= .ok (spot A.R (0::[3,-1,0])) H:=fun H=>qU (m:=m+5) _ (by decide);have r1:=r0.NS (natE x y u);have r2:=r1.AD (gB x b1 y b2 u);have wr:=xY (m:=m+2) (p:=[3,-1,0]) (v:= .int u) (by decide) r1.root (fun J=>by show aG _ _ _ [s.val,_,_] _=_;rw[hv];exact ii (m:=m+2));have IA:=Oq (m:=m+6) r2.root;have gJ: ∀K:PH,K.set A.N (.dict (bT (natE x y z) (pk [3,-1,0]) (.int u)) false)=K.set A.N (.dict (natE x y u) false):=fun K=>rfl;rw[hN]at sP;have zL:keyOf (bL [3,-1,0])=some (pk [3,-1,0]):=rfl;have zX:(H.set 3 (.list [.ref 2,.int (s.k+1:Nat)])++[PO.list [bL [0],bL [2,0],bL [3,-1,0]]]).set A.N (.dict (natE x y u) false)=(H.set 3 (.list [.ref 2,.int (s.k+1:Nat)])++[PO.list [bL [0],bL [2,0],bL [3,-1,0]]]).set A.N (.dict (natE x y u) false):=rfl;refine⟨_,x,y,u,?_,r2.free.free⟩;have main: ∃dO,dG (aG P0 (m+8)) (eT A c c' 0 p u nm) H= .ok (.ret (.bool true),dO) (((H.set 3 (.list [.ref 2,.int (s.k+1:Nat)])++[PO.list [bL [0],bL [2,0],bL [3,-1,0]]]).set A.N (.dict (natE x y u) false)).set A.R (.list [gB x b1 y b2 u])):=by
   refine⟨?_,?_⟩;rotate_left
   ·refine start ?_
    unfold dG
    repeat(first
     |(with_reducible first|exact d0 _|exact ha _|exact zL|exact KO _ _)|((with_reducible change aG _ _ (PV.aE (aR 131)) _ _=_);exact wr)|((with_reducible change aG _ _ (PV.aE (aR 117)) _ _=_);exact IA)|((with_reducible apply cl);(focus((with_reducible apply VR);walk_at "ln"));(focus walk_at "st"))|((with_reducible change qP _ A.N _=_);exact gJ _)|walk_at "m1")
  obtain⟨dO,e⟩:=main;rw[e];rfl
end
section
variable{m n:Nat}{H J K H2:PH}{A:Ad}{F:List (Nat×PO)}{s s' s2 s3:St}{i i' i2 idx:Nat}{v w hv:PV}{q c c' d:Nat}{p:List Int}{j j2 nm x b1 y b2 z u:Int}{r r' r2:RW}{t t' t2:TH}{bX IF:PV→PV}
theorem VL{α:Type}{f:PH→Out α}{o:Out α}(h:f H=o):f (H++[])=o:=by rw[eL];exact h
theorem qE{o:Out PV}(h:o= .ok v H):o= .ok v (H++[]):=by rw[eL];exact h
def gX(s:St)(k:PK)(j:Int):List RW:=if(vals (cI s.of k)).contains j then s.rows else s.rows.filter fun r=>r.j≠j
theorem vj(h:Rep A F s H)(hv:s.val=gB x b1 y (i+1) z)(hN:s.nat=natE x y z)(g:s.th[i]?=some t)(lv:t.live=true)(one:1≤t.st)(lt:t.items.length≤aJ)(b:Wb s)(ho:s.of.lookup (pk [2,1])=some j)(hr:eX s.rows j=some r)(l:s.th.length+3<aJ):
  ∃H' t' tn rn,aG P0 (m+12) (.aE (.ref 533)) [.ref 5,spot A.R [0],.ref A.B,.ref A.N,.int u] H= .ok (.bool true) H'∧
   Rep A F ((((((s.gE (s.th.set i t'++[tn])).qL (gB x b1 u (s.th.length+1) z)).DO (natE x u z)).kG (oset (cI s.of (pk [2,1])) (pk [2,1]) (s.next+1))).iA (gX s (pk [2,1]) j++[⟨s.next+1,rn,[u,u+1]⟩])).tG (s.next+1)) H'∧
   tP t t'∧tn.st=1∧tn.live=true∧tn.items=[u,u+1]:=by
 refine bQ fun G_ aQ=>?_;obtain⟨n,hn⟩: ∃n,H.length=n:=⟨_,rfl⟩;let V1:PV:=agg [.int x,bH b1,.none,vX (.tup [sv "k",.tup []]) (.int z)];let V2:PV:=agg [.int x,bH b1,agg [.none,bH (s.th.length+1)],vX (.tup [sv "k",.tup []]) (.int z)];have h0:=h.keep (J:=[.cell (some (spot A.R [0,2]))]) (bG (i:=0) hn rfl) (by rw[hn];exact fQ _);have k5:=h.hp (aS 1198350107557771542701016337 rfl l);have⟨p1,p2,_,_,_⟩:=k5;have rt:=h0.root;rw[hv]at rt;have a2: ∀H,aG P0 (m+11) (.aE (.ref 442)) [spot A.R [0],.tup [.int 2]] H= .ok (spot A.R [0,2]) H:=fun H=>qU (m:=m+8) [2] (by decide);have f1:aG P0 (m+11) (.aE (.ref 138)) [spot A.R [0,2]] (H++[PO.cell (some (spot A.R [0,2]))])= .ok (agg [.int y,bH (i+1)]) (H++[PO.cell (some (spot A.R [0,2]))]):=zC (m:=m+8) (fun J=>Oo (m:=m+8) (bS rt)) (fun _=>rfl);have r1:=h0.AD V1;obtain⟨H1,e1⟩: ∃H1,H1=(H++[PO.cell (some (spot A.R [0,2]))]).set A.R (.list [V1]):=⟨_,rfl⟩;rw[←e1]at r1;have w1:aG P0 (m+11) (.aE (.ref 131)) [spot A.R [0,2],.none] (H++[PO.cell (some (spot A.R [0,2]))])= .ok .none (H1++[]):=by
  rw[e1,eL];exact xY (m:=m+5) (p:=[2]) (by decide) rt (fun J=>gz (m:=m+5))
 obtain⟨H2,t',c2,r2,ls⟩:=RX (m:=m+6) (v:=agg [.int y,bH (i+1)]) (r1.app (J:=[])) g lv one (by show s.th.length+1<aJ;exact aS 1198350107557771542701016337 rfl l) lt (fun e=>G9 e);have c2:aG P0 (m+11) (.aE (.ref 318)) [.ref 5,agg [.int y,bH (i+1)]] (H1++[])= .ok .none (H2++[]):=qE c2;obtain⟨H3,c3,r3⟩:=UV (m:=m+10) (hv:=bL [2,1]) (l:=[.int 2,.int 1]) (r2.app (J:=[])) ⟨b.tk,b.rl,b.lo,b.lr⟩ rfl ho hr;have c3:aG P0 (m+11) (.aE (.ref 505)) [.ref A.B,bL [2,1]] (H2++[])= .ok .none (H3++[]):=qE c3;have NF:=r3.root;have a1: ∀(e:Int) H,aG P0 (m+11) (.aE (.ref 442)) [spot A.R [0,2],.tup [.int e]] H= .ok (spot A.R [0,2,e]) H:=fun e H=>Cg (m:=m+8) e;have f3:aG P0 (m+11) (.aE (.ref 117)) [spot A.R [0,2,1]] (H3++[])= .ok .none (H3++[]):=vf (m:=m+9) (bS NF);obtain⟨n3,fB⟩: ∃n,H3.length=n:=⟨_,rfl⟩;have kc3:=r3.tmp (a:=n+0) (o:= .cell (some (spot A.R [0,2]))) (by simp);have l4:aG P0 (m+10) (.ref (n3+0)) [] (H3++[.lam wY xC [some (.ref (n+0)),none]])= .exc 51 (n3+1+2) (H3++[.lam wY xC [some (.ref (n+0)),none]]++([.list [],.list [.tup [sv "global"]]]++[.ns [(0,sv "an empty place is read")]])):=by
  have fx:=Gy (m:=m+6) (n:=n3+1) (R:=A.R) (path:=[0,2]) (H:=H3++[.lam wY xC [some (.ref (n+0)),none]]) (fun J=>Oo (m:=m+6) (bS (bS NF))) (bS NF) (lW fB);refine wB (bG (i:=0) fB rfl) rfl il ?_
  repeat(first
   |((with_reducible change aG _ _ (PV.aE (aR 138)) _ _=_);exact fx)|walk_at "m1")
 have c4:=Ow (bG (i:=0) fB rfl) l4;obtain⟨H4,e4⟩: ∃H4,H4=H3++[PO.lam wY xC [some (.ref (n+0)),none]]++([PO.list [],.list [.tup [sv "global"]]]++[.ns [(0,sv "an empty place is read")]]):=⟨_,rfl⟩;rw[←e4]at c4;have r4:=(r3.app (J:=[PO.lam wY xC [some (.ref (n+0)),none]])).app (J:=[PO.list [],.list [.tup [sv "global"]]]++[.ns [(0,sv "an empty place is read")]]);rw[←e4]at r4;have c4:aG P0 (m+11) (.aE (.ref 456)) [.ref (n3+0)] (H3++[.lam wY xC [some (.ref (n+0)),none]])= .ok (.bool true) (H4++[]):=qE c4;obtain⟨n4,Z4⟩: ∃n,H4.length=n:=⟨_,rfl⟩;obtain⟨tn,H5,c5,r5,q1,q2,q3⟩:=ku (m:=m+6) (q:=n4+0) (items:=[u,u+1]) (r4.app (J:=[.list [.int u,.int (u+1)]])) (by show(s.th.set i t').length+1<aJ;rw[dS];exact aS 1198350107557771542701016337 rfl l) (by simp[aJ]) (bG Z4 rfl);have jf:((s.th.set i t').length:Int)=s.th.length:=by rw[dS]
 have c5:aG P0 (m+11) (.aE (.ref 213)) [.ref 5,sv "array#make",.ref (n4+0)] (H4++[.list [.int u,.int (u+1)]])= .ok (bH (s.th.length+1)) (H5++[]):=by rw[←jf];exact qE c5
 have r6:=r5.AD V2;have Pd:=r5.root;obtain⟨H6,e6⟩: ∃H6,H6=H5.set A.R (.list [V2]):=⟨_,rfl⟩;rw[←e6]at r6;have kc4:=r4.tmp (a:=n+0) (o:= .cell (some (spot A.R [0,2]))) (by simp);have w6:aG P0 (m+11) (.aE (.ref 131)) [spot A.R [0,2,1],bH (s.th.length+1)] (H5++[])= .ok .none (H6++[]):=by
  refine VL ?_;rw[e6,eL];exact xY (m:=m+5) (p:=[2,1]) (by decide) Pd (fun J=>ig (m:=m+5))
 obtain⟨n6,Z5⟩: ∃n,H6.length=n:=⟨_,rfl⟩;have Lu:(gX s (pk [2,1]) j).length≤s.rows.length:=by unfold gX;split;exact fQ _;exact ED _ _
 have Ln:(cI s.of (pk [2,1])).length≤s.of.length:=ED _ _;have bl:=b.lo;have br:=b.lr;obtain⟨rn,H7,c7,r7⟩:=VK (m:=m+10) (hv:=bL [2,1]) (l:=[.int 2,.int 1]) (q:=n6+0) (items:=[u,u+1]) (r6.app (J:=[.list [.int u,.int (u+1)]]))
  ⟨fun e me=>b.tk e ((EG.mp me).1),fun e me=>b.rl e (by revert me;show e∈(if _ then _ else _)→_;split;exact id;exact fun me=>(EG.mp me).1),by show(cI s.of (pk [2,1])).length+2<aJ;exact aX 2513122305573290610479502542767377 rfl Ln bl,by show(gX s (pk [2,1]) j).length+2<aJ;exact aX 2513122305573290610479502542767377 rfl Lu br⟩ rfl (bG Z5 rfl) (by simp[aJ])
 have c7:aG P0 (m+11) (.aE (.ref 498)) [.ref A.B,bL [2,1],.ref (n6+0)] (H6++[.list [.int u,.int (u+1)]])= .ok .none (H7++[]):=qE c7;have NG:=r7.root;have f7:aG P0 (m+11) (.aE (.ref 117)) [spot A.R [0,2,0]] (H7++[])= .ok .none (H7++[]):=NE (m:=m+9) (bS NG);obtain⟨n7,TU⟩: ∃n,H7.length=n:=⟨_,rfl⟩;have kc6:=r6.tmp (a:=n+0) (o:= .cell (some (spot A.R [0,2]))) (by simp);have kc7:=r7.tmp (a:=n+0) (o:= .cell (some (spot A.R [0,2]))) (by simp);have l8:aG P0 (m+10) (.ref (n7+0)) [] (H7++[.lam wZ xE [some (.ref (n+0)),none,none]])= .exc 51 (n7+1+2) (H7++[.lam wZ xE [some (.ref (n+0)),none,none]]++([.list [],.list [.tup [sv "global"]]]++[.ns [(0,sv "an empty place is read")]])):=by
  have fx:=Gy (m:=m+6) (n:=n7+1) (R:=A.R) (path:=[0,2,0]) (H:=H7++[.lam wZ xE [some (.ref (n+0)),none,none]]) (fun J=>NE (m:=m+6) (bS (bS NG))) (bS NG) (lW TU);have ai: ∀H,aG P0 (m+9) (.aE (.ref 442)) [spot A.R [0,2],.tup [.int 0]] H= .ok (spot A.R [0,2,0]) H:=fun H=>Cg (m:=m+6) 0;refine wB (bG (i:=0) TU rfl) rfl im ?_
  repeat(first
   |((with_reducible change aG _ _ (PV.aE (aR 138)) _ _=_);exact fx)|with_reducible exact ai _|walk_at "m1")
 have c8:=Ow (bG (i:=0) TU rfl) l8;obtain⟨H8,e8⟩: ∃H8,H8=H7++[PO.lam wZ xE [some (.ref (n+0)),none,none]]++([PO.list [],.list [.tup [sv "global"]]]++[.ns [(0,sv "an empty place is read")]]):=⟨_,rfl⟩;rw[←e8]at c8;have r8:=(r7.app (J:=[PO.lam wZ xE [some (.ref (n+0)),none,none]])).app (J:=[PO.list [],.list [.tup [sv "global"]]]++[.ns [(0,sv "an empty place is read")]]);rw[←e8]at r8;have c8:aG P0 (m+11) (.aE (.ref 456)) [.ref (n7+0)] (H7++[.lam wZ xE [some (.ref (n+0)),none,none]])= .ok (.bool true) (H8++[]):=qE c8;have Pe:=r8.root;have r9:=r8.AD (gB x b1 u (s.th.length+1) z);have kc8:=r8.tmp (a:=n+0) (o:= .cell (some (spot A.R [0,2]))) (by simp);obtain⟨H9,e9⟩: ∃H9,H9=H8.set A.R (.list [gB x b1 u (s.th.length+1) z]):=⟨_,rfl⟩;rw[←e9]at r9;have w9:aG P0 (m+11) (.aE (.ref 131)) [spot A.R [0,2,0],.int u] (H8++[])= .ok .none (H9++[]):=by
  refine VL ?_;rw[e9,eL];exact xY (m:=m+5) (p:=[2,0]) (by decide) Pe (fun J=>Ky (m:=m+5))
 have sP:H9[A.N]?=some (.dict (natE x y z) false):=by have:=r9.VI;rw[show _=s.nat from rfl,hN]at this;exact this
 have Oj:=r9.NS (natE x u z);have gJ:(H9++[]).set A.N (.dict (bT (natE x y z) (pk [2,0]) (.int u)) false)=H9.set A.N (.dict (natE x u z) false):=by rw[eL];rfl
 have zL:keyOf (bL [2,0])=some (pk [2,0]):=rfl;refine aQ ?_;refine⟨H9.set A.N (.dict (natE x u z) false),t',tn,rn,?_,Oj.free,ls,q1,q2,q3⟩;have⟨z1,z2,_,_,_⟩:=r1.hp (show s.th.length+1<aJ by exact aS 1198350107557771542701016337 rfl l);clear Oj r9 r8 r7 r6 r5 r4 r3 r2 r1 h0 Pe NG Pd NF e9 e8 e6 e4 e1 l4 l8 k5 bl br Lu Ln q1 q2 q3 ls;refine start ?_;apply cP (B:=QY) rfl rfl hn rfl;unfold QY;dsimp only[Gf];walk_at "nrm"
 repeat(first
  |(with_reducible first|exact a2 _|exact a1 _ _|exact zL)|((with_reducible change aG _ _ (PV.aE (aR 138)) _ _=_);exact f1)|((with_reducible change aG _ _ (PV.aE (aR 131)) _ _=_);first|exact w1|exact w6|exact w9)|((with_reducible change aG _ _ (PV.aE (aR 318)) _ _=_);exact c2)|((with_reducible change aG _ _ (PV.aE (aR 505)) _ _=_);exact c3)|((with_reducible change aG _ _ (PV.aE (aR 117)) _ _=_);first|exact f3|exact f7)|((with_reducible change aG _ _ (PV.aE (aR 456)) _ _=_);first|exact c4|exact c8)|((with_reducible change aG _ _ (PV.aE (aR 213)) _ _=_);exact c5)|((with_reducible change aG _ _ (PV.aE (aR 498)) _ _=_);exact c7)|((with_reducible change qP _ A.N _=_);exact gJ)|walk_at "m1")
end
section
set_option genInjectivity true
variable{m n:Nat}{H J K H2:PH}{A:Ad}{F:List (Nat×PO)}{s s' s2 s3:St}{i i' i1 i2 idx:Nat}{v w hv:PV}{q c c' d:Nat}{p:List Int}{j j1 j2 nm x b1 y b2 z u:Int}{r r' r1 r2:RW}{t t' t1 t2:TH}{bX IF:PV→PV}
theorem Pp(l:List PV):(gN l).Perm l:=by
 unfold gN;refine((XH l.length _).map _).trans ?_;have:(fP l.length).map (fun i=>l.getD i .none)=l:=by
  apply List.ext_getElem
  ·rw[cR,EF]
  ·intro i h1 h2
   rw[List.getElem_map,List.getElem_range];simp only[List.getD_eq_getElem?_getD,fZ h2,Vr]
 rw[this]
abbrev lT(hs:List (Int×Nat)):cA:=hs.map fun e=>(bI e.1,bH (e.2+1))
abbrev pV(hs:List (Int×Nat)):List PV:=hs.map fun e=>kept e.1
theorem Hj(hs:List (Int×Nat)):(lT hs).map (fun e=>e.1.val)=pV hs:=by rw[tR];rfl
theorem GC(hs:List (Int×Nat)):xU (lT hs):=by intro e m;obtain⟨x,_,rfl⟩:=dY.mp m;exact⟨_,rfl⟩
theorem Hn: ∀{hs:List (Int×Nat)},hs≠[]→sortable (pV hs)=true
 | [],h=>absurd rfl h|e::r,_=>by
  have:((pV (e::r)).all (UH (aA "kept")))=true:=by
   rw[jT];intro x m;obtain⟨y,_,rfl⟩:=dY.mp m;exact cC (rfl:aA "kept"=aA "kept")
  exact OA.mpr (.inr this)
theorem WA{ent:cA}{lk:Bool}(g:(K++J)[q]?=some (.dict ent lk))(s1:sortable (ent.map fun e=>e.1.val)=true)(s2:decide (ent.length<64)=true)(s3:decide ((gN (ent.map fun e=>e.1.val)).length≤aJ)=true)(e:K.length=n):
  DI (.ref q) (K++J)= .ok (.ref (n+J.length)) (K++(J++[.list (gN (ent.map fun e=>e.1.val))])):=by
 have so:XI (K++J) (.ref q)=some (ent.map fun e=>e.1.val):=by
  show((K++J)[q]?).bind _=_;rw[g];rfl
 exact cG so (fL (vW s1 (by rw[cR];exact s2)) (uW s3 e))
structure vN(s:St)(nm:Int)(j:Int)(r:RW)(i:Nat)(t:TH):Prop where
 hg:bZ s.hands (bI nm)=some (bH (i+1))
 ho:s.of.lookup (bI nm)=some j
 hr:eX s.rows j=some r
 g:s.th[i]?=some t
 lv:t.live=true
 one:1≤t.st
 len:t.items.length≤aJ
theorem Ho{hs:List (Int×Nat)}{A:Ad}{s:St}(ne:hs≠[])(qA:hs.length<64):
  ∃nm size,nm∈hs.map (·.1)∧iI (gN (pV hs)) (bP A.nums s.k size)=some (kept nm)∧size=((gN (pV hs)).length:Int)∧0<size∧decide ((gN (pV hs)).length≤aJ)=true:=by
 have pm:=Pp (pV hs);have ln:(gN (pV hs)).length=hs.length:=by rw[pm.length_eq,cR]
 have pos:0<hs.length:=Uo.mpr ne;have p0:=pP (nums:=A.nums) (k:=s.k) (size:=((gN (pV hs)).length:Int)) (aX 2223995931539946930201 rfl pos ln);have p1:=pQ (nums:=A.nums) (k:=s.k) (size:=((gN (pV hs)).length:Int)) (aX 2223995931539946930201 rfl pos ln);refine bQ fun G_ aQ=>?_;obtain⟨x,hx⟩: ∃x,(gN (pV hs))[(bP A.nums s.k ((gN (pV hs)).length:Int)).toNat]?=some x:=⟨_,fZ ((yG p0).mpr p1)⟩;obtain⟨e,me,rfl⟩:=dY.mp (pm.subset (fD hx));refine aQ ?_;refine⟨e.1,_,dY.mpr ⟨e,me,rfl⟩,?_,rfl,by exact aX 2223995931539946930201 rfl pos ln,cC (by simp only[aJ];exact aX 145109177698548575805440144 rfl ln qA)⟩;unfold iI;rw[aN (by simp only[aJ];exact aX 145109177698548574781768212 rfl ln qA),aV p0,hx]
theorem Lp{of:List (PK×Int)}{k k':PK}(h:k'≠k):(cI of k).lookup k'=of.lookup k':=by
 induction of with
 |nil=>rfl|cons e r ih=>
  obtain⟨a,b⟩:=e;unfold cI at ih⊢;by_cases ha:a=k
  ·subst ha
   rw[AR (by simp),ih,gG];rw[dC.mpr h]
  ·rw[AU (by simp[ha]),gG,gG,ih]
theorem ma{hs:List (Int×Nat)}(h:Rep A F s H)(a:rT s p j r i t bX)(w:Wl A s)(hh:s.hands=lT hs)(ne:hs≠[])(qA:hs.length<64)
  (all: ∀nm∈hs.map (·.1),∃j1 r1 i1 t1,vN s nm j1 r1 i1 t1) (np: ∀nm,bI nm≠pk p) (hd:bP A.nums (s.k+1) 2=0):
  ∃H' nm j1 r1 i1 t1 ti t',aG P0 (m+8) (.aE (.ref 526)) [.ref 3,.ref 5,spot A.R (0::p),bL p,.ref A.D,.ref A.B] H= .ok (.bool true) H'∧vN s nm j1 r1 i1 t1∧(s.th.set i1 (t1.iB (t1.st+1)))[i]?=some ti∧tP ti t'∧
   Rep A F (((((s.wk (s.k+2)).gE ((s.th.set i1 (t1.iB (t1.st+1))).set i t')).qL (bX (bH (i1+1)))).kG (oset (cI s.of (pk p)) (pk p) j1)).iA (gX s (pk p) j)) H':=by
 refine bQ fun G_ aQ=>?_;obtain⟨n,hn⟩: ∃n,H.length=n:=⟨_,rfl⟩;obtain⟨nm,size,mem,uN,gC,GN,hJ⟩:=Ho (A:=A) (s:=s) ne qA;obtain⟨j1,r1,i1,t1,P⟩:=all nm mem;have hD:=h.hand;have so:=Hn ne;rw[←Hj,←hh]at so uN gC hJ;have Dv:decide (s.hands.length<64)=true:=cC (by rw[hh,cR];exact qA);have d0: ∀J,aG P0 (m+7) (.aE (.ref 435)) [.ref 3,.int ((gN (s.hands.map fun e=>e.1.val)).length:Nat)] (H++J)= .ok (.int (bP A.nums s.k size)) (H.set 3 (.list [.ref 2,.int (s.k+1:Nat)])++J):=fun J=>by rw[←gC];exact nQ (m:=m+6) h GN (by have:=w.k;exact aS 69428758802307547280 rfl this) w.nl
 have d1: ∀J,aG P0 (m+7) (.aE (.ref 435)) [.ref 3,.int 2] (H.set 3 (.list [.ref 2,.int (s.k+1:Nat)])++J)= .ok (.int 0) (H.set 3 (.list [.ref 2,.int (s.k+2:Nat)])++J):=fun J=>by
  have:=qZ (m:=m+6) (J:=J) (size:=2) h 1 (by decide) (by have:=w.k;exact aS 284380196054251714118928 rfl this) w.nl;rw[hd]at this;exact this
 have fB:(H.set 3 (.list [.ref 2,.int (s.k+2:Nat)])).length=n:=gM hn;have q0:=(h.mB (s.k+2)).app (J:=[.list (gN (s.hands.map fun e=>e.1.val))]);obtain⟨H0,e0⟩: ∃H0,H0=H.set 3 (.list [.ref 2,.int (s.k+2:Nat)])++[PO.list (gN (s.hands.map fun e=>e.1.val))]:=⟨_,rfl⟩;rw[←e0]at q0;have d1:aG P0 (m+7) (.aE (.ref 435)) [.ref 3,.int 2] (H.set 3 (.list [.ref 2,.int (s.k+1:Nat)])++[PO.list (gN (s.hands.map fun e=>e.1.val))])= .ok (.int 0) (H0++[]):=by rw[d1,e0,eL]
 have fu:aG P0 (m+7) (.aE (.ref 138)) [spot A.R (0::p)] (H0++[])= .ok (bH (i+1)) (H0++[]):=zD (m:=m+4) (q0.app (J:=[])) a.e;have Hf:H0[A.D]?=some (.dict s.hands false):=q0.hand;have Ee:cZ s.hands (bI nm)=true:=by rw[hh];exact AB (GC hs) _
 have Ia:=P.hg;have kn:keyOf (kept nm)=some (bI nm):=rfl;have kp:=uS p;have⟨z1,z2,_,_,_⟩:=q0.hp (show s.th.length+1<aJ by have:=w.th;exact aS 1198350107557771542701016337 rfl this);obtain⟨H1,c1,q1⟩:=Dp (q0.app (J:=[])) P.g P.lv (by show s.th.length+1<aJ;have:=w.th;exact aS 1198350107557771542701016337 rfl this);have c1:aG P0 (m+7) (.aE (.ref 311)) [.ref 5,bH (i1+1)] (H0++[])= .ok (bH (i1+1)) (H1++[]):=qE (c1 (m+4));obtain⟨H2,c2,q2⟩:=Rm (m:=m+1) (v:=bH (i1+1)) (q1.app (J:=[])) (show mF s.val p (i+1) bX from a.e);have c2:aG P0 (m+7) (.aE (.ref 131)) [spot A.R (0::p),bH (i1+1)] (H1++[])= .ok .none (H2++[]):=qE c2;have hi:i<s.th.length:=(eF.mp a.g).1;obtain⟨ti,nE,tlv,aAD,aAC⟩: ∃ti,(s.th.set i1 (t1.iB (t1.st+1)))[i]?=some ti∧ti.live=true∧1≤ti.st∧ti.items.length≤aJ:=by
  by_cases e:i1=i
  ·subst e
   refine⟨(t1.iB (t1.st+1)),by rw[JH,aV rfl,aV hi],P.lv,?_,P.len⟩;have:=P.one;show 1≤t1.st+1;exact jH 4325743451632698392 rfl this
  ·exact⟨t,by rw[qN e];exact a.g,a.lv,a.one,by rw[a.it];have:=a.len;simp only[aJ];exact aS 70301331233175568528 rfl this⟩
 obtain⟨H3,t',c3,q3,ls⟩:=RX (m:=m+2) (v:=bH (i+1)) (q2.app (J:=[])) nE tlv aAD (by show(s.th.set i1 _).length+1<aJ;rw[dS];have:=w.th;exact aS 1198350107557771542701016337 rfl this) aAC (fun e=>RU e);have c3:aG P0 (m+7) (.aE (.ref 318)) [.ref 5,bH (i+1)] (H2++[])= .ok .none (H3++[]):=qE c3;obtain⟨H4,c4,q4⟩:=UV (m:=m+6) (hv:=bL p) (l:=p.map .int) (q3.app (J:=[])) ⟨w.b.tk,w.b.rl,w.b.lo,w.b.lr⟩ kp a.ho a.hr;have c4:aG P0 (m+7) (.aE (.ref 505)) [.ref A.B,bL p] (H3++[])= .ok .none (H4++[]):=qE c4;have hB:=q4.book;have hO:H4[A.O]?=some (.dict (dF (cI s.of (pk p))) false):=q4.of;have NO:tupK (cI s.of (pk p)):=fun e me=>w.b.tk e (EG.mp me).1;have dk1:=rG NO [.str (aA "kept"),.int nm];have dk2:=rG NO (p.map .int);have g1:bZ (dF (cI s.of (pk p))) (bI nm)=some (.int j1):=by rw[sU,Lp (np nm),P.ho];rfl
 have l2:decide ((dF (cI s.of (pk p))).length<aJ)=true:=cC (by rw[xJ];exact tW (bW (ED _ _) (EJ _ 2)) w.b.lo);have q5:=q4.NT (oset (cI s.of (pk p)) (pk p) j1);have⟨y1,y2,_,_,_⟩:=q2.hp (show(s.th.set i1 (t1.iB (t1.st+1))).length+1<aJ by rw[dS];have:=w.th;exact aS 1198350107557771542701016337 rfl this);refine aQ ?_;refine⟨_,nm,j1,r1,i1,t1,ti,t',?_,P,nE,ls,q5⟩;rw[←HO];clear q5 q4 q3 q2 q1 q0 ls;refine start ?_;apply cP (B:=FJ) rfl rfl hn rfl;unfold FJ;dsimp only[TA];walk_at "nrm"
 repeat(first
  |((with_reducible apply WA);(focus walk_at "lk"))|with_reducible exact d0 _|((with_reducible change aG _ _ (PV.aE (aR 435)) _ _=_);exact d1)|(with_reducible first|exact fu|exact c1|exact c2|exact c3|exact c4|exact kp|exact kn|exact uN)|((with_reducible apply pL);(focus walk_at "lk"))|walk_at "m1")
theorem jj{hs:List (Int×Nat)}(h:Rep A F s H)(w:Wl A s)(hh:s.hands=lT hs)(ne:hs≠[])(qA:hs.length<64)
  (all: ∀nm∈hs.map (·.1),∃j1 r1 i1 t1,vN s nm j1 r1 i1 t1) (hd:bP A.nums (s.k+1) 2=1):
  ∃H' nm j1 r1 i1 t1 t',aG P0 (m+8) (.aE (.ref 526)) [.ref 3,.ref 5,spot A.R (0::p),bL p,.ref A.D,.ref A.B] H= .ok (.bool true) H'∧vN s nm j1 r1 i1 t1∧tP t1 t'∧
   Rep A F (((((s.wk (s.k+2)).qK (iD s.hands (bI nm))).gE (s.th.set i1 t')).kG (cI s.of (bI nm))).iA (gX s (bI nm) j1)) H':=by
 refine bQ fun G_ aQ=>?_;obtain⟨n,hn⟩: ∃n,H.length=n:=⟨_,rfl⟩;obtain⟨nm,size,mem,uN,gC,GN,hJ⟩:=Ho (A:=A) (s:=s) ne qA;obtain⟨j1,r1,i1,t1,P⟩:=all nm mem;have hD:=h.hand;have so:=Hn ne;rw[←Hj,←hh]at so uN gC hJ;have Dv:decide (s.hands.length<64)=true:=cC (by rw[hh,cR];exact qA);have d0: ∀J,aG P0 (m+7) (.aE (.ref 435)) [.ref 3,.int ((gN (s.hands.map fun e=>e.1.val)).length:Nat)] (H++J)= .ok (.int (bP A.nums s.k size)) (H.set 3 (.list [.ref 2,.int (s.k+1:Nat)])++J):=fun J=>by rw[←gC];exact nQ (m:=m+6) h GN (by have:=w.k;exact aS 69428758802307547280 rfl this) w.nl
 have d1: ∀J,aG P0 (m+7) (.aE (.ref 435)) [.ref 3,.int 2] (H.set 3 (.list [.ref 2,.int (s.k+1:Nat)])++J)= .ok (.int 1) (H.set 3 (.list [.ref 2,.int (s.k+2:Nat)])++J):=fun J=>by
  have:=qZ (m:=m+6) (J:=J) (size:=2) h 1 (by decide) (by have:=w.k;exact aS 284380196054251714118928 rfl this) w.nl;rw[hd]at this;exact this
 have q0:=(h.mB (s.k+2)).app (J:=[.list (gN (s.hands.map fun e=>e.1.val))]);obtain⟨H0,e0⟩: ∃H0,H0=H.set 3 (.list [.ref 2,.int (s.k+2:Nat)])++[PO.list (gN (s.hands.map fun e=>e.1.val))]:=⟨_,rfl⟩;rw[←e0]at q0;have d1:aG P0 (m+7) (.aE (.ref 435)) [.ref 3,.int 2] (H.set 3 (.list [.ref 2,.int (s.k+1:Nat)])++[PO.list (gN (s.hands.map fun e=>e.1.val))])= .ok (.int 1) (H0++[]):=by rw[d1,e0,eL]
 have Hf:H0[A.D]?=some (.dict s.hands false):=q0.hand;have Ee:cZ s.hands (bI nm)=true:=by rw[hh];exact AB (GC hs) _
 have Ia:=P.hg;have kn:keyOf (kept nm)=some (bI nm):=rfl;have lh:decide (s.hands.length≤aJ)=true:=cC (by rw[hh,cR];simp only[aJ];exact aS 69193445724842426512 rfl qA);have⟨z1,z2,_,_,_⟩:=q0.hp (show s.th.length+1<aJ by have:=w.th;exact aS 1198350107557771542701016337 rfl this);have q1:=q0.YC (iD s.hands (bI nm));obtain⟨H1,e1⟩: ∃H1,H1=H0.set A.D (.dict (iD s.hands (bI nm)) false):=⟨_,rfl⟩;rw[←e1]at q1;have c1:(H0++[]).set A.D (.dict (iD s.hands (bI nm)) false)=H1++[]:=by rw[eL,eL,e1]
 obtain⟨H3,t',c3,q3,ls⟩:=RX (m:=m+2) (v:=bH (i1+1)) (q1.app (J:=[])) P.g P.lv P.one (by show s.th.length+1<aJ;have:=w.th;exact aS 1198350107557771542701016337 rfl this) P.len (fun e=>RU e);have c3:aG P0 (m+7) (.aE (.ref 318)) [.ref 5,bH (i1+1)] (H1++[])= .ok .none (H3++[]):=qE c3;obtain⟨H4,c4,q4⟩:=UV (m:=m+6) (hv:=kept nm) (l:=[.str (aA "kept"),.int nm]) (q3.app (J:=[])) ⟨w.b.tk,w.b.rl,w.b.lo,w.b.lr⟩ rfl P.ho P.hr;have c4:aG P0 (m+7) (.aE (.ref 505)) [.ref A.B,kept nm] (H3++[])= .ok .none (H4++[]):=qE c4;refine aQ ?_;refine⟨_,nm,j1,r1,i1,t1,t',?_,P,ls,q4⟩;clear q4 q3 q1 q0 ls;refine start ?_;apply cP (B:=FJ) rfl rfl hn rfl;unfold FJ;dsimp only[TA];walk_at "nrm"
 repeat(first
  |((with_reducible apply WA);(focus walk_at "lk"))|with_reducible exact d0 _|((with_reducible change aG _ _ (PV.aE (aR 435)) _ _=_);exact d1)|((with_reducible apply VT);(focus walk_at "lk");(focus exact kn);(focus exact Ee);(focus exact lh);(focus exact Ia);(focus exact rfl);(focus exact c1))|(with_reducible first|exact c3|exact c4|exact kn|exact uN)|walk_at "m1")
end
end
noncomputable section
open PySem PySem.W
local macro_rules | `(tactic|walk_at $s:str)=>match wm s.getString with| .missing=>OT|x=>pure x
section
variable{m n k:Nat}{H H1 J K H2:PH}{v w x y:PV}{q:Nat}{A:Ad}{F:List (Nat×PO)}{s:St}{nums:List Int}
theorem FV(hn:H.length=n):aG P0 (m+1) (.aE (.ref 400)) [] H= .ok (.ref n) (H++[.list (kP.map .int)]):=by subst hn;kernel_rfl!
theorem x9(hn:H.length=n):aG P0 (m+1) (.aE (.ref 414)) [] H= .ok (.ref n) (H++[.list (IM.map sv)]):=by subst hn;kernel_rfl!
theorem No(hn:H.length=n):aG P0 (m+1) (.aE (.ref 421)) [] H= .ok (.ref n) (H++[.list (uZ.map sv)]):=by subst hn;kernel_rfl!
theorem Qu(hn:H.length=n):aG P0 (m+1) (.aE (.ref 407)) [] H= .ok (.ref n) (H++[.list (oX.map sv)]):=by subst hn;kernel_rfl!
theorem rz(hn:H.length=n):aG P0 (m+1) (.aE (.ref 428)) [] H= .ok (.ref n) (H++[.list (HU.map sv)]):=by subst hn;kernel_rfl!
theorem bv{α:Type}(f:α→PV){l:List α}{d:Int}(h0:0≤d)(h1:d<l.length)(hl:l.length≤aJ): ∃e,e∈l∧iI (l.map f) d=some (f e):=by
 obtain⟨k,rfl⟩:=AJ h0;have hk:k<l.length:=JD.mp h1;refine⟨l[k],JI hk,?_⟩;unfold iI;rw[aN (by rw[cR];exact yP.mpr hl),aV h0,ZX,fW,fZ hk];rfl
theorem mJ{α:Type}(f:α→PV)(l:List α)(k:Nat)(z:Int)(hz:0<z)(hl:l.length≤aJ)(e:(l.length:Int)=z): ∃e,e∈l∧iI (l.map f) (bP nums k z)=some (f e):=bv f (pP hz) (by rw[e];exact pQ hz) hl
noncomputable def wl(nums:List Int)(k:Nat):PH:=[.list (nums.map .int),.list [.ref 0,.int k]]
theorem xV(J:PH):PO.list (nums.map .int)::PO.list [.ref 0,.int k]::J=wl nums k++J:=rfl
theorem iP{size:Int}(hs:0<size)(hk:k≤1000)(hl:nums.length≤40)(J:PH):aG P0 (m+1) (.aE (.ref 435)) [.ref 1,.int size] (wl nums k++J)= .ok (.int (bP nums k size)) (wl nums (k+1)++J):=KK (H:=wl nums k++J) (w:=1) (u:=0) rfl rfl (by decide) hs hk hl
theorem NB{C:dI}{F:Fn}{B:DS}{as:List PV}{v:PV}{fl:cO}{fr fr1:aW}{H3:PH}(hb:F.body=B)(l:K.length=n)(p:putAll F.vF as (cF F.names n J.length) (K++(J++cJ F.names))= .ok fr H1)
  (k:B C fr H1= .ok (fl,fr1) H2) (w:KS fl=v) (z:H2=H3):jC F C as (K++J)= .ok v H3:=by
 subst hb;rw[jC,FM F.names (K++J) n J.length (by rw[eO,l]),cM,p,Out.eV,k,Out.eV,←w,z];cases fl<;>rfl
theorem JY{α:Type}{l:List α}{f:α→Option (PO×PO)}{X Y:PO}(h:l.map f=l.map fun _=>some (X,Y)){c:α}(hc:c∈l):f c=some (X,Y):=An.mp h c hc
theorem yj(hk:k≤800)(hl:nums.length≤40)(hf:bP nums k 3=0): ∃J,jC lS (aG P0 (m+6)) [.ref 1] (wl nums k)= .ok (.bool true) (wl nums (k+4)++J):=by
 refine bQ fun G_ aQ=>?_;obtain⟨n,dQ⟩: ∃n,n=2:=⟨2,rfl⟩;obtain⟨e1,g1,i1⟩:=mJ (nums:=nums) .int kP (k+1) 9 (by decide) (by decide) rfl;obtain⟨e2,g2,i2⟩:=mJ (nums:=nums) .int kP (k+2) 9 (by decide) (by decide) rfl;obtain⟨op,g3,i3⟩:=mJ (nums:=nums) sv IM (k+3) 6 (by decide) (by decide) rfl;obtain⟨fr',J',ck⟩:=KR (JY (D6 m (.list (nums.map .int)) (.list [.ref 0,.int (k+4:Nat)])) (HD g3 g1 g2));dsimp only at ck;rw[show pU 0 (.int e1) (.int e2) 2 3=pU 0 (.int e1) (.int e2) (n+0) (n+1) by rw[dQ]]at ck;unfold pU CA at ck;rw[xV,xV]at ck;have l0:(wl nums k).length=n:=by rw[dQ];rfl
 have l1:(wl nums (k+1)).length=n:=by rw[dQ];rfl
 have l2:(wl nums (k+2)).length=n:=by rw[dQ];rfl
 have l3:(wl nums (k+3)).length=n:=by rw[dQ];rfl
 have l4:(wl nums (k+4)).length=n:=by rw[dQ];rfl
 have d0:=fun J=>iP (m:=m+5) (k:=k) (size:=3) (by decide) (bW hk (by decide)) hl J;have d1:=fun J=>iP (m:=m+5) (k:=k+1) (size:=9) (by decide) (bW (jP hk 1) (by decide)) hl J;have d2:=fun J=>iP (m:=m+5) (k:=k+2) (size:=9) (by decide) (bW (jP hk 2) (by decide)) hl J;have d3:=fun J=>iP (m:=m+5) (k:=k+3) (size:=6) (by decide) (bW (jP hk 3) (by decide)) hl J;rw[hf]at d0;refine aQ ?_;refine⟨J',?_⟩;refine start (f:=fun H=>jC lS (aG P0 (m+6)) [.ref 1] H) ?_;apply NB (B:=uA) rfl l0 rfl;unfold uA;dsimp only[lS];walk_at "nrm"
 repeat(first
  |(with_reducible first|exact ck|exact d0 _|exact d1 _|exact d2 _|exact d3 _|exact i1|exact i2|exact i3)|((with_reducible apply cl);(focus((with_reducible apply FV);walk_at "ln"));(focus walk_at "st"))|((with_reducible apply cl);(focus((with_reducible apply x9);walk_at "ln"));(focus walk_at "st"))|walk_at "m1")
theorem yk(hk:k≤800)(hl:nums.length≤40)(hf:bP nums k 3=1)(hp:bP nums (k+4) 2=0): ∃J,jC lS (aG P0 (m+6)) [.ref 1] (wl nums k)= .ok (.bool true) (wl nums (k+5)++J):=by
 refine bQ fun G_ aQ=>?_;obtain⟨n,dQ⟩: ∃n,n=2:=⟨2,rfl⟩;obtain⟨e1,g1,i1⟩:=mJ (nums:=nums) .int kP (k+1) 9 (by decide) (by decide) rfl;obtain⟨e2,g2,i2⟩:=mJ (nums:=nums) .int kP (k+2) 9 (by decide) (by decide) rfl;obtain⟨op,g3,i3⟩:=mJ (nums:=nums) sv uZ (k+3) 6 (by decide) (by decide) rfl;obtain⟨fr',J',ck⟩:=KR (JY (D7 m (.list (nums.map .int)) (.list [.ref 0,.int (k+5:Nat)])) (HD g3 g1 g2));dsimp only at ck;rw[show pU 1 (.int e1) (.int e2) 2 3=pU 1 (.int e1) (.int e2) (n+0) (n+1) by rw[dQ]]at ck;unfold pU CA at ck;rw[xV,xV]at ck;have l0:(wl nums k).length=n:=by rw[dQ];rfl
 have l1:(wl nums (k+1)).length=n:=by rw[dQ];rfl
 have l2:(wl nums (k+2)).length=n:=by rw[dQ];rfl
 have l3:(wl nums (k+3)).length=n:=by rw[dQ];rfl
 have l4:(wl nums (k+4)).length=n:=by rw[dQ];rfl
 have l5:(wl nums (k+5)).length=n:=by rw[dQ];rfl
 have d0:=fun J=>iP (m:=m+5) (k:=k) (size:=3) (by decide) (bW hk (by decide)) hl J;have d1:=fun J=>iP (m:=m+5) (k:=k+1) (size:=9) (by decide) (bW (jP hk 1) (by decide)) hl J;have d2:=fun J=>iP (m:=m+5) (k:=k+2) (size:=9) (by decide) (bW (jP hk 2) (by decide)) hl J;have d3:=fun J=>iP (m:=m+5) (k:=k+3) (size:=6) (by decide) (bW (jP hk 3) (by decide)) hl J;have d4:=fun J=>iP (m:=m+5) (k:=k+4) (size:=2) (by decide) (bW (jP hk 4) (by decide)) hl J;rw[hf]at d0;rw[hp]at d4;refine aQ ?_;refine⟨J',?_⟩;refine start (f:=fun H=>jC lS (aG P0 (m+6)) [.ref 1] H) ?_;apply NB (B:=uA) rfl l0 rfl;unfold uA;dsimp only[lS];walk_at "nrm"
 repeat(first
  |(with_reducible first|exact ck|exact d0 _|exact d1 _|exact d2 _|exact d3 _|exact d4 _|exact i1|exact i2|exact i3)|((with_reducible apply cl);(focus((with_reducible apply FV);walk_at "ln"));(focus walk_at "st"))|((with_reducible apply cl);(focus((with_reducible apply No);walk_at "ln"));(focus walk_at "st"))|walk_at "m1")
theorem yl(hk:k≤800)(hl:nums.length≤40)(hf:bP nums k 3=1)(hp:bP nums (k+4) 2=1): ∃J,jC lS (aG P0 (m+6)) [.ref 1] (wl nums k)= .ok (.bool true) (wl nums (k+7)++J):=by
 refine bQ fun G_ aQ=>?_;obtain⟨n,dQ⟩: ∃n,n=2:=⟨2,rfl⟩;obtain⟨e1,g1,i1⟩:=mJ (nums:=nums) .int kP (k+1) 9 (by decide) (by decide) rfl;obtain⟨e2,g2,i2⟩:=mJ (nums:=nums) .int kP (k+2) 9 (by decide) (by decide) rfl;obtain⟨op,g3,i3⟩:=mJ (nums:=nums) sv uZ (k+3) 6 (by decide) (by decide) rfl;obtain⟨x,g4,i4⟩:=mJ (nums:=nums) sv oX (k+5) 4 (by decide) (by decide) rfl;obtain⟨y,g5,i5⟩:=mJ (nums:=nums) sv oX (k+6) 4 (by decide) (by decide) rfl;obtain⟨fr',J',ck⟩:=KR (JY (D8 m (.list (nums.map .int)) (.list [.ref 0,.int (k+7:Nat)])) (HD g3 g4 g5));dsimp only at ck;rw[show pU 1 (sv x) (sv y) 2 3=pU 1 (sv x) (sv y) (n+0) (n+1) by rw[dQ]]at ck;unfold pU CA at ck;rw[xV,xV]at ck;have l0:(wl nums k).length=n:=by rw[dQ];rfl
 have l1:(wl nums (k+1)).length=n:=by rw[dQ];rfl
 have l2:(wl nums (k+2)).length=n:=by rw[dQ];rfl
 have l3:(wl nums (k+3)).length=n:=by rw[dQ];rfl
 have l4:(wl nums (k+4)).length=n:=by rw[dQ];rfl
 have l5:(wl nums (k+5)).length=n:=by rw[dQ];rfl
 have l6:(wl nums (k+6)).length=n:=by rw[dQ];rfl
 have l7:(wl nums (k+7)).length=n:=by rw[dQ];rfl
 have d0:=fun J=>iP (m:=m+5) (k:=k) (size:=3) (by decide) (bW hk (by decide)) hl J;have d1:=fun J=>iP (m:=m+5) (k:=k+1) (size:=9) (by decide) (bW (jP hk 1) (by decide)) hl J;have d2:=fun J=>iP (m:=m+5) (k:=k+2) (size:=9) (by decide) (bW (jP hk 2) (by decide)) hl J;have d3:=fun J=>iP (m:=m+5) (k:=k+3) (size:=6) (by decide) (bW (jP hk 3) (by decide)) hl J;have d4:=fun J=>iP (m:=m+5) (k:=k+4) (size:=2) (by decide) (bW (jP hk 4) (by decide)) hl J;have d5:=fun J=>iP (m:=m+5) (k:=k+5) (size:=4) (by decide) (bW (jP hk 5) (by decide)) hl J;have d6:=fun J=>iP (m:=m+5) (k:=k+6) (size:=4) (by decide) (bW (jP hk 6) (by decide)) hl J;rw[hf]at d0;rw[hp]at d4;refine aQ ?_;refine⟨J',?_⟩;refine start (f:=fun H=>jC lS (aG P0 (m+6)) [.ref 1] H) ?_;apply NB (B:=uA) rfl l0 rfl;unfold uA;dsimp only[lS];walk_at "nrm"
 repeat(first
  |(with_reducible first|exact ck|exact d0 _|exact d1 _|exact d2 _|exact d3 _|exact d4 _|exact d5 _|exact d6 _|exact i1|exact i2|exact i3|exact i4|exact i5)|((with_reducible apply cl);(focus((with_reducible apply FV);walk_at "ln"));(focus walk_at "st"))|((with_reducible apply cl);(focus((with_reducible apply No);walk_at "ln"));(focus walk_at "st"))|((with_reducible apply cl);(focus((with_reducible apply Qu);walk_at "ln"));(focus walk_at "st"))|walk_at "m1")
theorem Lw(k:Nat):bP nums k 2∈[(0:Int),1]:=by
 have h0:=pP (nums:=nums) (k:=k) (size:=2) (by decide);have h1:=pQ (nums:=nums) (k:=k) (size:=2) (by decide);have h:bP nums k 2=0∨bP nums k 2=1:=HQ h0 h1;exact h.elim (fun e=>e▸ .head _) fun e=>e▸ .tail _ (.head _)
theorem rm(hk:k≤810)(hl:nums.length≤40): ∃J,aG P0 (m+6) (.aE (.ref 477)) [.ref 1] (wl nums k++[.cell none,.cell none,.list (kP.map .int),.list (kP.map .int)])= .ok (.bool true) (wl nums (k+5)++J):=by
 refine bQ fun G_ aQ=>?_;obtain⟨n,dQ⟩: ∃n,n=2:=⟨2,rfl⟩;obtain⟨op,g1,i1⟩:=mJ (nums:=nums) sv HU k 7 (by decide) (by decide) rfl;obtain⟨x,g4,i2⟩:=mJ (nums:=nums) sv oX (k+3) 4 (by decide) (by decide) rfl;obtain⟨y,g5,i3⟩:=mJ (nums:=nums) sv oX (k+4) 4 (by decide) (by decide) rfl;obtain⟨fr',J',ck⟩:=KR (JY (D9 m (.list (nums.map .int)) (.list [.ref 0,.int (k+5:Nat)])) (HD (HD g1 (Lw (nums:=nums) (k+1)) (Lw (nums:=nums) (k+2))) g4 g5));dsimp only at ck;unfold Gu Im at ck;rw[xV,xV]at ck;have l0:(wl nums k).length=n:=by rw[dQ];rfl
 have l1:(wl nums (k+1)).length=n:=by rw[dQ];rfl
 have l2:(wl nums (k+2)).length=n:=by rw[dQ];rfl
 have l3:(wl nums (k+3)).length=n:=by rw[dQ];rfl
 have l4:(wl nums (k+4)).length=n:=by rw[dQ];rfl
 have l5:(wl nums (k+5)).length=n:=by rw[dQ];rfl
 have d0:=fun J=>iP (m:=m+4) (k:=k) (size:=7) (by decide) (bW hk (by decide)) hl J;have d1:=fun J=>iP (m:=m+4) (k:=k+1) (size:=2) (by decide) (bW (jP hk 1) (by decide)) hl J;have d2:=fun J=>iP (m:=m+4) (k:=k+2) (size:=2) (by decide) (bW (jP hk 2) (by decide)) hl J;have d3:=fun J=>iP (m:=m+4) (k:=k+3) (size:=4) (by decide) (bW (jP hk 3) (by decide)) hl J;have d4:=fun J=>iP (m:=m+4) (k:=k+4) (size:=4) (by decide) (bW (jP hk 4) (by decide)) hl J;refine aQ ?_;refine⟨J',?_⟩;apply cP (B:=QW) rfl rfl l0 rfl;unfold QW;dsimp only[Gd];walk_at "nrm"
 repeat(first
  |(with_reducible first|exact ck|exact d0 _|exact d1 _|exact d2 _|exact d3 _|exact d4 _|exact i1|exact i2|exact i3)|((with_reducible apply cl);(focus((with_reducible apply FV);walk_at "ln"));(focus walk_at "st"))|((with_reducible apply cl);(focus((with_reducible apply rz);walk_at "ln"));(focus walk_at "st"))|((with_reducible apply cl);(focus((with_reducible apply Qu);walk_at "ln"));(focus walk_at "st"))|walk_at "m1")
theorem yo(hk:k≤800)(hl:nums.length≤40)(hf:bP nums k 3=2): ∃J,jC lS (aG P0 (m+6)) [.ref 1] (wl nums k)= .ok (.bool true) (wl nums (k+8)++J):=by
 refine bQ fun G_ aQ=>?_;obtain⟨n,dQ⟩: ∃n,n=2:=⟨2,rfl⟩;obtain⟨e1,g1,i1⟩:=mJ (nums:=nums) .int kP (k+1) 9 (by decide) (by decide) rfl;obtain⟨e2,g2,i2⟩:=mJ (nums:=nums) .int kP (k+2) 9 (by decide) (by decide) rfl;obtain⟨J',oc⟩:=rm (m:=m) (k:=k+3) (nums:=nums) (bW (jP hk 3) (by decide)) hl;have l0:(wl nums k).length=n:=by rw[dQ];rfl
 have l1:(wl nums (k+1)).length=n:=by rw[dQ];rfl
 have l2:(wl nums (k+2)).length=n:=by rw[dQ];rfl
 have l3:(wl nums (k+3)).length=n:=by rw[dQ];rfl
 have d0:=fun J=>iP (m:=m+5) (k:=k) (size:=3) (by decide) (bW hk (by decide)) hl J;have d1:=fun J=>iP (m:=m+5) (k:=k+1) (size:=9) (by decide) (bW (jP hk 1) (by decide)) hl J;have d2:=fun J=>iP (m:=m+5) (k:=k+2) (size:=9) (by decide) (bW (jP hk 2) (by decide)) hl J;rw[hf]at d0;refine aQ ?_;refine⟨J',?_⟩;refine start (f:=fun H=>jC lS (aG P0 (m+6)) [.ref 1] H) ?_;apply NB (B:=uA) rfl l0 rfl;unfold uA;dsimp only[lS];walk_at "nrm"
 repeat(first
  |(with_reducible first|exact oc|exact d0 _|exact d1 _|exact d2 _|exact i1|exact i2)|((with_reducible apply cl);(focus((with_reducible apply FV);walk_at "ln"));(focus walk_at "st"))|walk_at "m1")
theorem Zr(hk:k≤800)(hl:nums.length≤40): ∃J j,jC lS (aG P0 (m+6)) [.ref 1] (wl nums k)= .ok (.bool true) (wl nums (k+j)++J)∧j≤8:=by
 have f0:=pP (nums:=nums) (k:=k) (size:=3) (by decide);have f1:=pQ (nums:=nums) (k:=k) (size:=3) (by decide);have p0:=pP (nums:=nums) (k:=k+4) (size:=2) (by decide);have p1:=pQ (nums:=nums) (k:=k+4) (size:=2) (by decide);have hf:bP nums k 3=0∨(bP nums k 3=1∧bP nums (k+4) 2=0)∨(bP nums k 3=1∧bP nums (k+4) 2=1)∨bP nums k 3=2:=(or3 f0 f1).imp id fun h=>h.elim (fun h=>(HQ p0 p1).elim (fun q=> .inl ⟨h,q⟩) fun q=> .inr (.inl ⟨h,q⟩)) fun h=> .inr (.inr h);rcases hf with hf|hf|hf|hf
 ·exact(yj hk hl hf).imp fun J e=>⟨4,e,by decide⟩
 ·exact(yk hk hl hf.1 hf.2).imp fun J e=>⟨5,e,by decide⟩
 ·exact(yl hk hl hf.1 hf.2).imp fun J e=>⟨7,e,by decide⟩
 ·exact(yo hk hl hf).imp fun J e=>⟨8,e,by decide⟩
theorem aBE(J:PH):IT (wl nums k++J)=some (nums.map .int,(k:Int)):=eW (gL rfl) (eW (gL rfl) (eW (a:=(.ref 0,.int k)) rfl (eW (a:=0) rfl (eW (a:=(k:Int)) rfl (uY (vW (jT.mpr fun p hp=>by obtain⟨a,_,rfl⟩:=dY.mp hp;rfl) rfl))))))
theorem KC(h:Rep A F s H)(hk:s.k≤800)(hl:A.nums.length≤40): ∃H' k',aG P0 (m+7) (.aE (.ref 484)) [.ref 3] H= .ok (.bool true) H'∧Rep A F (s.wk k') H'∧k'≤s.k+8:=by
 refine bQ fun G_ aQ=>?_;obtain⟨J,j,e,hj⟩:=Zr (m:=m) (nums:=A.nums) hk hl;have hw:NW H (.ref 3)=some (3,2,A.nums.map .int,(s.k:Int)):=eW (gL h.well) (eW (a:=(.ref 2,.int s.k)) rfl (eW (gL h.nums) (eW (a:=(s.k:Int)) rfl (uY (vW (jT.mpr fun p hp=>by obtain⟨a,_,rfl⟩:=dY.mp hp;rfl) rfl)))));have e2:IG (jC lS (aG P0 (m+6))) H (3,2,A.nums.map .int,(s.k:Int))= .ok (.bool true) ((H.set 2 (.list (A.nums.map .int))).set 3 (.list [.ref 2,.int (s.k+j:Nat)])):=by
  unfold IG;dsimp only;rw[show jC lS (aG P0 (m+6)) [.ref 1] [.list (A.nums.map .int),.list [.ref 0,.int (s.k:Int)]]=_ from e];show ob (IT (wl A.nums (s.k+j)++J)) (fun e=>Out.ok (PV.bool true) ((qP H 2 (PO.list e.1)).set 3 (PO.list [PV.ref 2,PV.int e.2])))=_;rw[aBE];rfl
 rw[set_same h.nums]at e2;refine aQ ?_;refine⟨_,s.k+j,?_,h.mB (s.k+j),vR hj _⟩;show RL lS (aG P0 (m+6)) [.ref 3] H=_;refine cG (a:=PV.ref 3) rfl ?_;exact cG hw e2
end
end
noncomputable section
open PySem
local macro_rules | `(tactic|walk_at $s:str)=>match wm s.getString with| .missing=>OT|x=>pure x
section
variable{m n:Nat}{H H1 J K H2:PH}{v w x y:PV}{q c c' d i:Nat}{op:String}{A:Ad}{F:List (Nat×PO)}{s:St}{a b j u nm:Int}{p:List Int}{r:RW}{t:TH}{bX:PV→PV}
theorem aBB(h:Rep A ((c',.cell (some (spot A.R (0::p))))::(c,.cell (some (.ref 5)))::F) s H)(hk:s.k≤800)(hl:A.nums.length≤40):
  ∃H' k',gW (dG (aG P0 (m+7)) (eT A c c' 9 p u nm) H)= .ok (.bool true) H'∧Rep A F (s.wk k') H'∧k'≤s.k+8:=by
 obtain⟨n,hn⟩: ∃n,H.length=n:=⟨_,rfl⟩;obtain⟨H1,k',c1,r1,l1⟩:=KC (m:=m) (h.app (J:=[])) hk hl;have main: ∃dO,dG (aG P0 (m+7)) (eT A c c' 9 p u nm) H= .ok (.ret (.bool true),dO) H1:=by
  refine⟨?_,?_⟩;rotate_left
  ·refine start ?_
   unfold dG
   repeat(first
    |((with_reducible change aG _ _ (PV.aE (aR 484)) _ _=_);exact c1)|walk_at "m1")
 obtain⟨dO,e⟩:=main;exact⟨H1,k',by rw[e];rfl,r1.free.free,l1⟩
theorem aA8(h:Rep A ((c',.cell (some (spot A.R (0::p))))::(c,.cell (some (.ref 5)))::F) s H)(hk:s.k≤800)(hl:A.nums.length≤40)(th:xU s.hands)(hs:(bZ s.hands (bI nm)).isSome=true):
  ∃H' k',gW (dG (aG P0 (m+7)) (eT A c c' 4 p u nm) H)= .ok (.bool true) H'∧Rep A F (s.wk k') H'∧k'≤s.k+8:=by
 obtain⟨n,hn⟩: ∃n,H.length=n:=⟨_,rfl⟩;have hD:=h.hand;have dk:=AB th [.str (aA "kept"),.int nm];have kn:keyOf (kept nm)=some (bI nm):=rfl;have uM:(!(bZ s.hands (bI nm)).isSome)=false:=by rw[hs];rfl
 obtain⟨H1,k',c1,r1,l1⟩:=KC (m:=m) (h.app (J:=[])) hk hl;have main: ∃dO,dG (aG P0 (m+7)) (eT A c c' 4 p u nm) H= .ok (.ret (.bool true),dO) H1:=by
  refine⟨?_,?_⟩;rotate_left
  ·refine start ?_
   unfold dG
   repeat(first
    |((with_reducible change aG _ _ (PV.aE (aR 484)) _ _=_);exact c1)|with_reducible exact kn|((with_reducible apply MN);(focus walk_at "lk"))|walk_at "m1")
 obtain⟨dO,e⟩:=main;exact⟨H1,k',by rw[e];rfl,r1.free.free,l1⟩
theorem aA9(h:Rep A ((c',.cell (some (spot A.R (0::p))))::(c,.cell (some (.ref 5)))::F) s H)(hk:s.k≤800)(hl:A.nums.length≤40)(th:xU s.hands)(hs:(bZ s.hands (bI nm)).isSome=true):
  ∃H' k',gW (dG (aG P0 (m+7)) (eT A c c' 6 p u nm) H)= .ok (.bool true) H'∧Rep A F (s.wk k') H'∧k'≤s.k+8:=by
 obtain⟨n,hn⟩: ∃n,H.length=n:=⟨_,rfl⟩;have hD:=h.hand;have dk:=AB th [.str (aA "kept"),.int nm];have kn:keyOf (kept nm)=some (bI nm):=rfl;have uM:(!(bZ s.hands (bI nm)).isSome)=false:=by rw[hs];rfl
 obtain⟨H1,k',c1,r1,l1⟩:=KC (m:=m) (h.app (J:=[])) hk hl;have main: ∃dO,dG (aG P0 (m+7)) (eT A c c' 6 p u nm) H= .ok (.ret (.bool true),dO) H1:=by
  refine⟨?_,?_⟩;rotate_left
  ·refine start ?_
   unfold dG
   repeat(first
    |((with_reducible change aG _ _ (PV.aE (aR 484)) _ _=_);exact c1)|with_reducible exact kn|((with_reducible apply MN);(focus walk_at "lk"))|walk_at "m1")
 obtain⟨dO,e⟩:=main;exact⟨H1,k',by rw[e];rfl,r1.free.free,l1⟩
theorem aBA(h:Rep A ((c',.cell (some (spot A.R (0::p))))::(c,.cell (some (.ref 5)))::F) s H)(hk:s.k≤800)(hl:A.nums.length≤40)(hs:s.hands=[]):
  ∃H' k',gW (dG (aG P0 (m+7)) (eT A c c' 7 p u nm) H)= .ok (.bool true) H'∧Rep A F (s.wk k') H'∧k'≤s.k+8:=by
 obtain⟨n,hn⟩: ∃n,H.length=n:=⟨_,rfl⟩;have hD:=h.hand;have uM:(!s.hands.isEmpty)=false:=by rw[hs];rfl
 obtain⟨H1,k',c1,r1,l1⟩:=KC (m:=m) (h.app (J:=[.dict [] false])) hk hl;have main: ∃dO,dG (aG P0 (m+7)) (eT A c c' 7 p u nm) H= .ok (.ret (.bool true),dO) H1:=by
  refine⟨?_,?_⟩;rotate_left
  ·refine start ?_
   unfold dG
   repeat(first
    |((with_reducible change aG _ _ (PV.aE (aR 484)) _ _=_);exact c1)|with_reducible apply HZ|((with_reducible apply Nh);(focus walk_at "lk");(focus walk_at "lk"))|walk_at "m1")
 obtain⟨dO,e⟩:=main;exact⟨H1,k',by rw[e];rfl,r1.free.free,l1⟩
theorem Qr(h:Rep A ((c',.cell (some (spot A.R (0::p))))::(c,.cell (some (.ref 5)))::F) s H)(hs:s.hands.isEmpty=false)
  (c1:aG P0 (m+8) (.aE (.ref 526)) [.ref 3,.ref 5,spot A.R (0::p),bL p,.ref A.D,.ref A.B] (H++[.dict [] false])= .ok (.bool true) H1):
  gW (dG (aG P0 (m+8)) (eT A c c' 7 p u nm) H)= .ok (.bool true) H1:=by
 obtain⟨n,hn⟩: ∃n,H.length=n:=⟨_,rfl⟩;have hD:=h.hand;have uM:(!s.hands.isEmpty)=true:=by rw[hs];rfl
 have k0:=h.tmp (a:=c) (o:= .cell (some (.ref 5))) (by simp);have k1:=h.tmp (a:=c') (o:= .cell (some (spot A.R (0::p)))) (by simp);have main: ∃dO,dG (aG P0 (m+8)) (eT A c c' 7 p u nm) H= .ok (.ret (.bool true),dO) H1:=by
  refine⟨?_,?_⟩;rotate_left
  ·refine start ?_
   unfold dG
   repeat(first
    |((with_reducible change aG _ _ (PV.aE (aR 526)) _ _=_);exact c1)|with_reducible apply HZ|((with_reducible apply Nh);(focus walk_at "lk");(focus walk_at "lk"))|walk_at "m1")
 obtain⟨dO,e⟩:=main;rw[e];rfl
theorem YL(h:Rep A ((c',.cell (some (spot A.R (0::p))))::(c,.cell (some (.ref 5)))::F) s H)
  (c1:aG P0 (m+8) (.aE (.ref 533)) [.ref 5,spot A.R [0],.ref A.B,.ref A.N,.int u] H= .ok (.bool true) H1):
  gW (dG (aG P0 (m+8)) (eT A c c' 8 p u nm) H)= .ok (.bool true) H1:=by
 have k0:=h.tmp (a:=c) (o:= .cell (some (.ref 5))) (by simp);have k1:=h.tmp (a:=c') (o:= .cell (some (spot A.R (0::p)))) (by simp);have c1:=VL (f:=aG P0 (m+8) (.aE (.ref 533)) [.ref 5,spot A.R [0],.ref A.B,.ref A.N,.int u]) c1;have main: ∃dO,dG (aG P0 (m+8)) (eT A c c' 8 p u nm) H= .ok (.ret (.bool true),dO) H1:=by
  refine⟨?_,?_⟩;rotate_left
  ·refine start ?_
   unfold dG
   repeat(first
    |((with_reducible change aG _ _ (PV.aE (aR 533)) _ _=_);exact c1)|walk_at "m1")
 obtain⟨dO,e⟩:=main;rw[e];rfl
end
section
set_option genInjectivity true
variable{m n:Nat}{H J K X:PH}{A:Ad}{F:List (Nat×PO)}{s:St}{q f c:Nat}{es:cA}{last:Int}{L:List PV}{lvf:PV→Bool}
abbrev iC:PV:= .tup [sv "buffer",sv ""]
structure OE(X:PH)(es:cA)(v:PV)(lv:Bool):Prop where
 ex: ∃b ia na fl st,v= .int b∧cZ es (.int b)=true∧bZ es (.int b)=some (.ref ia)∧X[ia]?=some (.inst 230 na)∧X[na]?=some (.ns (eU fl st (uU lv)))
theorem jv{v:PV}(p1:X[5]?=some (.inst 375 4))(p2:X[4]?=some (dA last))(p3:X[6]?=some (.dict es false))(t:OE X es v false):
  CO (aG P0 m) [some (.ref 5),some (.ref f),some v,none] X= .ok (.next,[some (.ref 5),some (.ref f),some v,none]) X:=by
 refine bQ fun G_ aQ=>?_;obtain⟨b,ia,na,fl,st,rfl,d1,d2,t1,t2⟩:=t.ex;refine aQ ?_;unfold CO;have e: ∀H,dE .NotEq (uU false) (sv "gone") H= .ok false H:=fun _=>rfl
 repeat(first
  |with_reducible exact e _|walk_at "m1")
theorem jy{v:PV}{l:List PV}(p1:X[5]?=some (.inst 375 4))(p2:X[4]?=some (dA last))(p3:X[6]?=some (.dict es false))(t:OE X es v true)(hf:X[f]?=some (.list l))(hl:l.length<aJ):
  CO (aG P0 m) [some (.ref 5),some (.ref f),some v,none] X= .ok (.next,[some (.ref 5),some (.ref f),some v,none]) (X.set f (.list (l++[iC]))):=by
 refine bQ fun G_ aQ=>?_;obtain⟨b,ia,na,fl,st,rfl,d1,d2,t1,t2⟩:=t.ex;have hld:decide (l.length<aJ)=true:=cC hl;refine aQ ?_;unfold CO;have e: ∀H,dE .NotEq (uU true) (sv "gone") H= .ok true H:=fun _=>rfl;have gJ:X.set f (.list (l++[.tup [sv "buffer",sv ""]]))=X.set f (.list (l++[iC])):=rfl
 repeat(first
  |(with_reducible first|exact e _|exact gJ)|walk_at "m1")
theorem UW: ∀(k i fu c:Nat) (X:PH) (x:Option PV),X[5]?=some (.inst 375 4)→X[4]?=some (dA last)→X[6]?=some (.dict es false)→X[q]?=some (.list L)→X[f]?=some (.list (cU c iC))→f≠q→
  (∀v∈L,OE X es v (lvf v))→i+k=L.length→k<fu→c+k<aJ→
  ∃x',gI (.live q) (jJ (.loc 2)) (CO (aG P0 m)) fu i [some (.ref 5),some (.ref f),x,none] X= .ok (.next,[some (.ref 5),some (.ref f),x',none]) (X.set f (.list (cU (c+((L.drop i).filter lvf).length) iC)))
 |k,i,0,c,X,x,p1,p2,p3,hq,hf,ne,hL,e,l,b=>by exact jE (aS 4222129516052502 rfl l)
 |0,i,fu+1,c,X,x,p1,p2,p3,hq,hf,ne,hL,e,l,b=>⟨x,by
   rw[OV (by exact aX 270356735034802320 rfl e),List.filter_nil];show _=Out.ok _ (X.set f (.list (cU c iC)));rw[sZ hf];exact zA (o_at hq) (jN (aX 270356735034802320 rfl e))⟩
 |k+1,i,fu+1,c,X,x,p1,p2,p3,hq,hf,ne,hL,e,l,b=>by
  have hi:i<L.length:=by exact dM 278000487534013071505 rfl e
  have ht:=hL _ (JI hi);rw[AQ hi];cases hv:lvf L[i]with
  |false=>
   rw[hv]at ht;obtain⟨x',h⟩:=UW k (i+1) fu c X (some L[i]) p1 p2 p3 hq hf ne hL (fE (dM 1170854186357343937714202896 rfl e) (dM 1161182853659469585528946832 rfl e)) (aX 1107967982703061647505 rfl l) (aX 306777622830833249165048415505 rfl b);rw[AR (by rw[hv];decide)];exact⟨x',sN (o_at hq) (fZ hi) rfl (jv p1 p2 p3 ht) (nU h)⟩
  |true=>
   rw[hv]at ht;have f5:f≠5:=fT hf p1 (by simp);have f4:f≠4:=fT hf p2 (by simp);have f6:f≠6:=fT hf p3 (by simp);have lc:(cU c iC).length<aJ:=by rw[AY];exact aX 299587522295735594887741585 rfl b
   have al:cU c iC++[iC]=cU (c+1) iC:=by rw[List.replicate_succ']
   have b1:=jy (m:=m) p1 p2 p3 ht hf lc;rw[al]at b1;obtain⟨x',h⟩:=UW k (i+1) fu (c+1) (X.set f (.list (cU (c+1) iC))) (some L[i]) (eQ p1 f5) (eQ p2 f4) (eQ p3 f6) (eQ hq ne) (qC hf) ne (fun v mv=>by
    obtain⟨b,ia,na,fl,st,e1,e2,e3,e4,e5⟩:=(hL v mv).ex;exact⟨b,ia,na,fl,st,e1,e2,e3,eQ e4 (fT hf e4 (by simp)),eQ e5 (fT hf e5 (by simp))⟩) (fE (dM 1170854186357343937714202896 rfl e) (dM 1161182853659469585528946832 rfl e)) (aX 1107967982703061647505 rfl l) (aX 1256561143115092988580038312995089 rfl b)
   rw[AU hv,AX];rw[vQ,show c+1+((L.drop (i+1)).filter lvf).length=c+(((L.drop (i+1)).filter lvf).length+1) by exact fE (aX 553983990942694123792 rfl) (aX 556000904832359859472 rfl)]at h;exact⟨x',sN (o_at hq) (fZ hi) rfl b1 (nU h)⟩
noncomputable def MG(s:St)(v:PV):Bool:=match v with
 | .int b=>((s.th[(b-1).toNat]?).map (·.live)).getD false|_=>false
theorem NM: ∀(th:List TH) (k:Int),(eB k th).map (fun e=>e.1.val)=(fP th.length).map fun(i:Nat)=>PV.int (k+i)
 | [],_=>rfl|t::r,k=>by
  rw[eB,dU,NM r (k+1),AX,List.range_succ_eq_map,dU,tR];congr 1
  ·show PV.int k=PV.int (k+(0:Nat));rw[Int.natCast_zero,OQ]
  ·apply Ur;intro i _;show PV.int (k+1+i)=PV.int (k+((i+1:Nat):Int));congr 1;exact tO (jX 553979491736818362648 rfl) (jX 553695097007509873944 rfl)
theorem ju(s:St):(((fP s.th.length).map fun(i:Nat)=>PV.int (1+i)).filter (MG s)).length=((fP s.th.length).filter fun i=>((s.th[i]?).map (·.live)).getD false).length:=by
 rw[OX,cR];congr 1;apply Af;intro i _;show((s.th[(1+(i:Int)-1).toNat]?).map (·.live)).getD false=_;rw[show(1+(i:Int)-1).toNat=i by rw[DW,ZS];rfl]
theorem jx(h:Rep A F s H)(l:s.th.length<60):
  ∃J q,aG P0 (m+1) (.aE (.ref 372)) [.ref 5] H= .ok (.ref q) (H++J)∧(H++J)[q]?=some (.list (cU ((fP s.th.length).filter fun i=>((s.th[i]?).map (·.live)).getD false).length iC)):=by
 obtain⟨n,hn⟩: ∃n,H.length=n:=⟨_,rfl⟩;have p:=h.hp (by simp only[aJ];exact aS 1175981214427708917009 rfl l);have⟨p1,p2,p3,_,_⟩:=p;have pm:=Pp ((eB 1 s.th).map fun e=>e.1.val);have ls:(gN ((eB 1 s.th).map fun e=>e.1.val)).length=s.th.length:=by rw[pm.length_eq,cR,IP]
 have so:sortable ((eB 1 s.th).map fun e=>e.1.val)=true:=by
  unfold sortable;have:((eB 1 s.th).map fun e=>e.1.val).all pZ=true:=by
   rw[NM,ZZ,jT];intro i _;rfl
  rw[this];rfl
 have Dv:decide ((eB 1 s.th).length<64)=true:=cC (by rw[IP];exact aS 287104787638452369 rfl l);have dl:decide ((gN ((eB 1 s.th).map fun e=>e.1.val)).length≤aJ)=true:=cC (by rw[ls];simp only[aJ];exact aS 287104788678639760 rfl l);obtain⟨x',lp⟩:=UW (m:=m) (last:=s.th.length) (es:=eB 1 s.th) (q:=n+1) (f:=n+0) (L:=gN ((eB 1 s.th).map fun e=>e.1.val)) (lvf:=MG s) s.th.length 0 9000 0 (H++[.list [],.list (gN ((eB 1 s.th).map fun e=>e.1.val))]) none (bS p1) (bS p2) (bS p3) (bG hn rfl) (bG hn rfl) (fun fK=>aS 17727343572876603162646 rfl fK) (by
  intro v mv;have mv:=pm.subset mv;rw[NM]at mv;obtain⟨i,mi,rfl⟩:=dY.mp mv;have hi:i<s.th.length:=Ap.mp mi;have hg:s.th[i]?=some s.th[i]:=fZ hi;have own:=h.XT hg;have lv:MG s (.int (1+i))=s.th[i].live:=by
   show((s.th[(1+(i:Int)-1).toNat]?).map (·.live)).getD false=_;rw[show(1+(i:Int)-1).toNat=i by rw[DW,ZS];rfl,hg];rfl
  rw[lv];exact⟨_,_,_,_,_,rfl,XQ _ _ _,XR s.th 1 i _ hg,bS (own.get (fD (i:=2) rfl)),bS (own.get (fD (i:=0) rfl))⟩) (fE (aX 270366774548496656 rfl ls) (aX 271483869771890832 rfl ls)) (aS 287104788809711761 rfl l) (by simp only[aJ];exact aS 1175981214427708391697 rfl l)
 have hc:((gN ((eB 1 s.th).map fun e=>e.1.val)).filter (MG s)).length=((fP s.th.length).filter fun i=>((s.th[i]?).map (·.live)).getD false).length:=by
  rw[(pm.filter _).length_eq,NM,ju]
 rw[OW,hc,Vn,eE eG hn]at lp;refine⟨[.list [],.list (gN ((eB 1 s.th).map fun e=>e.1.val))].set 0 (.list (cU ((fP s.th.length).filter fun i=>((s.th[i]?).map (·.live)).getD false).length iC)),n+0,?_,bG hn rfl⟩;refine start ?_;apply cP (B:=QR) rfl rfl hn rfl;unfold QR;dsimp only[Fy];walk_at "nrm"
 repeat(first
  |((with_reducible apply WA);(focus walk_at "lk"))|((with_reducible change gI _ _ _ _ _ _ _=_);exact lp)|walk_at "m1")
end
section
variable{m n:Nat}{H J K X:PH}{A:Ad}{F:List (Nat×PO)}{s:St}{q f c:Nat}{es:cA}{x b1 y b2 z:Int}
theorem UY{r:Nat}{ks:List PV}(g:H[r]?=some (.dict es false))(e:H.set r (.dict es true)=K):rD (.keys r ks) H=some K:=by simp only[rD,g,e]
theorem TD{r:Nat}{ks:List PV}(g:H[r]?=some (.dict es true))(e:H.set r (.dict es false)=K):nT (.keys r ks) H=K:=by simp only[nT,g,e]
theorem M4{o6 o7 o8 o9:Option PV}(h:Rep A F s H)(hv:s.val=gB x b1 y b2 z)(hN:s.nat=natE x y z):
  kE (jJ (.loc 5)) (lF (aD 4)) KN (aG P0 (m+6)) [some (.ref 5),some (spot A.R [0]),some (.ref A.D),some (.ref A.B),some (.ref A.N),none,o6,o7,o8,o9,none,none,none,none,none] H=
   .ok (.next,[some (.ref 5),some (spot A.R [0]),some (.ref A.D),some (.ref A.B),some (.ref A.N),some (bL [3,-1,0]),o6,o7,o8,o9,none,none,none,none,none]) H:=by
 have sP:=h.VI;rw[hN]at sP;have hR:=h.root;rw[hv]at hR;have nr:A.N≠A.R:=rH h (i:=9) (j:=5) rfl rfl (by decide);obtain⟨X,hX⟩: ∃X,X=H.set A.N (.dict (natE x y z) true):=⟨_,rfl⟩;have xN:X[A.N]?=some (.dict (natE x y z) true):=by rw[hX];exact qC sP
 have xR:X[A.R]?=some (.list [gB x b1 y b2 z]):=by rw[hX];exact eQ hR nr
 have back:X.set A.N (.dict (natE x y z) false)=H:=by rw[hX,vQ,sZ sP]
 have a0:aG P0 (m+6) (.aE (.ref 442)) [spot A.R [0],bL [0]] X= .ok (spot A.R [0,0]) X:=qU (m:=m+3) [0] (by decide);have a2:aG P0 (m+6) (.aE (.ref 442)) [spot A.R [0],bL [2,0]] X= .ok (spot A.R [0,2,0]) X:=qU (m:=m+3) [2,0] (by decide);have a3:aG P0 (m+6) (.aE (.ref 442)) [spot A.R [0],bL [3,-1,0]] X= .ok (spot A.R [0,3,-1,0]) X:=qU (m:=m+3) [3,-1,0] (by decide);have f0:aG P0 (m+6) (.aE (.ref 138)) [spot A.R [0,0]] X= .ok (.int x) X:=zC (m:=m+3) (fun J=>read0 (m:=m+3) (bS xR)) (fun _=>rfl);have f2:aG P0 (m+6) (.aE (.ref 138)) [spot A.R [0,2,0]] X= .ok (.int y) X:=zC (m:=m+3) (fun J=>NE (m:=m+3) (bS xR)) (fun _=>rfl);have f3:aG P0 (m+6) (.aE (.ref 138)) [spot A.R [0,3,-1,0]] X= .ok (.int z) X:=zC (m:=m+3) (fun J=>Oq (m:=m+3) (bS xR)) (fun _=>rfl);have ne: ∀(v:Int) (H:PH),dE .NotEq (.int v) (.int v) H= .ok false H:=by
  intro v H;have:dE .NotEq (.int v) (.int v) H= .ok (!(v==v)) H:=rfl;rw[this,fG];rfl
 have k0:keyOf (bL [0])=some (pk [0]):=rfl;have body: ∀{p:List Int} {v:Int} {sp:PV},aG P0 (m+6) (.aE (.ref 442)) [spot A.R [0],bL p] X= .ok sp X→aG P0 (m+6) (.aE (.ref 138)) [sp] X= .ok (.int v) X→cZ (natE x y z) (pk p)=true→bZ (natE x y z) (pk p)=some (.int v)→
   KN (aG P0 (m+6)) [some (.ref 5),some (spot A.R [0]),some (.ref A.D),some (.ref A.B),some (.ref A.N),some (bL p),o6,o7,o8,o9,none,none,none,none,none] X= .ok (.next,[some (.ref 5),some (spot A.R [0]),some (.ref A.D),some (.ref A.B),some (.ref A.N),some (bL p),o6,o7,o8,o9,none,none,none,none,none]) X:=by
  intro p v sp h1 h2 h3 h4;have kp:=uS p;unfold KN
  repeat(first
   |(with_reducible first|exact h1|exact h2|exact kp|exact ne _ _)|walk_at "m1")
 apply IE
 ·apply ND
  ·exact rK rfl
  ·exact VW sP
 ·exact UY sP rfl
 ·rw[←hX]
  refine sN (v:=bL [0]) (o:=some (bL [0])) rfl rfl rfl (body a0 f0 rfl rfl) (nU ?_);refine sN (v:=bL [2,0]) (o:=some (bL [2,0])) rfl rfl rfl (body a2 f2 rfl rfl) (nU ?_);refine sN (v:=bL [3,-1,0]) (o:=some (bL [3,-1,0])) rfl rfl rfl (body a3 f3 rfl rfl) (nU ?_);exact zA (o:=none) rfl rfl
 ·exact TD xN back
end
section
variable{m n:Nat}{H J K X X':PH}{A:Ad}{F:List (Nat×PO)}{s:St}{q f c bq ra fl:Nat}{es:cA}{last b j:Int}{hv:PV}{items:List Int}{o5 o8 o9:Option PV}
abbrev jW(A:Ad)(bq:Nat)(o5 o7 o8 o9:Option PV):aW:=[some (.ref 5),some (spot A.R [0]),some (.ref A.D),some (.ref A.B),some (.ref A.N),o5,some (.ref bq),o7,o8,o9,none,none,none,none,none]
theorem ne_int(v:Int)(H:PH):dE .NotEq (.int v) (.int v) H= .ok false H:=by
 have:dE .NotEq (.int v) (.int v) H= .ok (!(v==v)) H:=rfl;rw[this,fG];rfl
theorem Et{nx:Int}(p1:X[5]?=some (.inst 375 4))(p2:X[4]?=some (dA last))(pB:X[A.B]?=some (.dict (mI A nx) false))
  (ha:yZ (aG P0 m) (jW A bq o5 (some hv) o8 o9) X= .ok (bH b) X) (ho:nF (.ref A.O) hv X= .ok (.int j) X) (hr:nF (.ref A.W) (.int j) X= .ok (.ref ra) X)
  (he:aG P0 m (.aE (.ref 360)) [.ref 5,.int b] X= .ok (.ref fl) X) (h1:X[fl]?=some (.list (items.map .int))) (h2:X[ra]?=some (.list (items.map .int))) (hb:X[bq]?=some (.dict es false))
  (hs:BM.run .rM (.ref bq) [.int j,.int b] X= .ok (.int b) X'):
  BJ (aG P0 m) (jW A bq o5 (some hv) o8 o9) X= .ok (.next,jW A bq o5 (some hv) (some (bH b)) (some (.int j))) X':=by
 have nb: ∀H,dE .NotEq (sv "buf") (sv "buf") H= .ok false H:=fun _=>rfl;have nl:dE .NotEq (.ref fl) (.ref ra) X= .ok false X:=by
  rw[Ni h1 (rJ h1 h2),cC rfl];rfl
 unfold BJ
 repeat(first
  |(with_reducible first|exact ha|exact ho|exact hr|exact he|exact hs|exact nl|exact nb _|exact ne_int _ _)|((with_reducible apply pL);(focus walk_at "lk"))|((with_reducible apply vZ);(focus walk_at "lk"))|walk_at "m1")
theorem Xq{k:PK}{he:cA}{lk:Bool}(hD:X[A.D]?=some (.dict he lk))(hk:keyOf hv=some k)(hd:cZ he k=true)(hg:bZ he k=some (bH b)):yZ (aG P0 m) (jW A bq o5 (some hv) o8 o9) X= .ok (bH b) X:=by
 have zH:dE .In hv (.ref A.D) X= .ok true X:=by rw[Nf hD hk hd,hg];rfl
 unfold yZ
 repeat(first
  |(with_reducible first|exact zH|exact hk)|walk_at "m1")
theorem Cb{k:PK}{he:cA}{lk:Bool}{sp:PV}(hD:X[A.D]?=some (.dict he lk))(hk:keyOf hv=some k)(hd:cZ he k=true)(hg:bZ he k=none)(h1:aG P0 m (.aE (.ref 442)) [spot A.R [0],hv] X= .ok sp X)(h2:aG P0 m (.aE (.ref 138)) [sp] X= .ok (bH b) X):
  yZ (aG P0 m) (jW A bq o5 (some hv) o8 o9) X= .ok (bH b) X:=by
 have zH:dE .In hv (.ref A.D) X= .ok false X:=by rw[Nf hD hk hd,hg];rfl
 unfold yZ
 repeat(first
  |(with_reducible first|exact zH|exact h1|exact h2)|walk_at "m1")
theorem M3{nx:Int}{o7:Option PV}{of:List (PK×Int)}{ia na:Nat}{st:Int}{sL:PV}(hn:X.length=n)(p1:X[5]?=some (.inst 375 4))(p2:X[4]?=some (dA last))(pB:X[A.B]?=some (.dict (mI A nx) false))(pO:X[A.O]?=some (.dict (dF of) false))
  (hb:X[bq]?=some (.dict es true)) (hk:cZ es (.int j)=true) (hg:bZ es (.int j)=some (.int b)) (ht: ∀J,aG P0 m (.aE (.ref 262)) [.ref 5,.int b] (X++J)= .ok (.ref ia) (X++J)) (h1:X[ia]?=some (.inst 230 na)) (h2:X[na]?=some (.ns (eU fl st sL)))
  (hc:st=((vals of).count j:Nat)) (hl:of.length≤aJ):
  BK (aG P0 m) (jW A bq o5 o7 o8 (some (.int j))) X= .ok (.next,jW A bq o5 o7 o8 (some (.int j))) (X++[.list ((dF of).map (·.2))]):=by
 have v1:intsOf ((dF of).map (·.2))=some (vals of):=by rw[MQ,LT]
 have v2:decide (((dF of).map (·.2)).length≤aJ)=true:=cC (by rw[cR,xJ];exact hl);subst hc;refine start ?_;unfold BK
 repeat(first
  |(with_reducible first|exact ht _|exact ne_int _ _)|((with_reducible apply pL);(focus walk_at "lk"))|((with_reducible apply HL);(focus walk_at "lk"))|((with_reducible apply VS);(focus walk_at "lk"))|walk_at "m1")
end
section
set_option genInjectivity true
section
variable{κ μ:Type} [DecidableEq κ]
structure iM(o:κ→Option Int)(cnt:Int→Nat)(h:κ→Option Nat)(row:Int→Option μ)(th:Nat→Option (μ×Int×Bool)):Prop where
 a: ∀k j,o k=some j→∃i l,h k=some i∧row j=some l∧th i=some (l,(cnt j:Int),true)
 b: ∀k k' j j' i,o k=some j→o k'=some j'→h k=some i→h k'=some i→j=j'
 c: ∀k k' j,o k=some j→o k'=some j→h k=h k'
 d: ∀i l c,th i=some (l,c,true)→∃k j,o k=some j∧h k=some i
 f: ∀j,0<cnt j↔∃k,o k=some j
variable{o o':κ→Option Int}{cnt cnt':Int→Nat}{h h':κ→Option Nat}{row rL:Int→Option μ}{th th':Nat→Option (μ×Int×Bool)}{k0 k1:κ}{j0 jn:Int}{i0 n:Nat}{l l0:μ}
theorem iM.set(I:iM o cnt h row th)(ho:o k0=some j0)(hh:h k0=some i0)
  (e4: ∀j,rL j=if j=j0 then some l else row j) (e5: ∀i,th' i=if i=i0 then some (l,(cnt j0:Int),true)else th i):iM o cnt h rL th':=by
 obtain⟨a,b,c,d,f⟩:=I;refine⟨?_,b,c,?_,f⟩
 ·intro k j hk
  obtain⟨i,l2,x,y,z⟩:=a k j hk;by_cases e:j=j0
  ·subst e
   have:h k=h k0:=c k k0 j hk ho;rw[hh,x]at this;injection this with this;subst this;exact⟨_,_,x,by rw[e4,aV rfl],by rw[e5,aV rfl]⟩
  ·have ne:i≠i0:=by intro e2;subst e2;exact e (b k k0 j j0 i hk ho x hh)
   exact⟨i,l2,x,by rw[e4,aN e];exact y,by rw[e5,aN ne];exact z⟩
 ·intro i l2 c2 hi
  rw[e5]at hi;by_cases e:i=i0
  ·subst e;exact⟨k0,j0,ho,hh⟩
  ·rw[aN e]at hi;exact d i l2 c2 hi
theorem iM.add(I:iM o cnt h row th)(ho:o k0=some j0)(hh:h k0=some i0)(hr:row j0=some l)(hn:o k1=none)
  (e1: ∀k,o' k=if k=k1 then some j0 else o k) (e2: ∀j,cnt' j=if j=j0 then cnt j+1 else cnt j) (e3: ∀k,k≠k1→h' k=h k) (pR:h' k1=some i0)
  (e5: ∀i,th' i=if i=i0 then some (l,(cnt j0:Int)+1,true)else th i):iM o' cnt' h' row th':=by
 obtain⟨a,b,c,d,f⟩:=I;have Kh:k0≠k1:=by rintro rfl;rw[hn]at ho;exact nomatch ho
 have o0: ∀k j,o' k=some j→∃k',o k'=some j∧h k'=h' k:=by
  intro k j hk;rw[e1]at hk;by_cases e:k=k1
  ·subst e;rw[aV rfl]at hk;injection hk with hk;subst hk;exact⟨k0,ho,by rw[hh,pR]⟩
  ·rw[aN e]at hk;exact⟨k,hk,(e3 k e).symm⟩
 refine⟨?_,?_,?_,?_,?_⟩
 ·intro k j hk
  obtain⟨k',eM,Y5⟩:=o0 k j hk;obtain⟨i,l2,x,y,z⟩:=a k' j eM;refine⟨i,l2,by rw[←Y5];exact x,y,?_⟩;rw[e5,e2];by_cases e:j=j0
  ·subst e
   have:h k'=h k0:=c k' k0 j eM ho;rw[hh,x]at this;injection this with this;subst this;rw[aV rfl,aV rfl];rw[hr]at y;injection y with y;subst y;rfl
  ·have ne:i≠i0:=by intro e2;subst e2;exact e (b k' k0 j j0 i eM ho x hh)
   rw[aN ne,aN e];exact z
 ·intro k k' j j' i hk eM hi BW
  obtain⟨u,hu,uO⟩:=o0 k j hk;obtain⟨w,hw,UC⟩:=o0 k' j' eM;exact b u w j j' i hu hw (by rw[uO];exact hi) (by rw[UC];exact BW)
 ·intro k k' j hk eM
  obtain⟨u,hu,uO⟩:=o0 k j hk;obtain⟨w,hw,UC⟩:=o0 k' j eM;rw[←uO,←UC];exact c u w j hu hw
 ·intro i l2 c2 hi
  rw[e5]at hi;by_cases e:i=i0
  ·subst e;exact⟨k0,j0,by rw[e1,aN Kh];exact ho,by rw[e3 k0 Kh];exact hh⟩
  ·rw[aN e]at hi
   obtain⟨k,j,x,y⟩:=d i l2 c2 hi;have:k≠k1:=by rintro rfl;rw[hn]at x;exact nomatch x
   exact⟨k,j,by rw[e1,aN this];exact x,by rw[e3 k this];exact y⟩
 ·intro j
  rw[e2];constructor
  ·intro hj
   by_cases e:j=j0
   ·subst e;exact⟨k1,by rw[e1,aV rfl]⟩
   ·rw[aN e]at hj
    obtain⟨k,hk⟩:=(f j).mp hj;have:k≠k1:=by rintro rfl;rw[hn]at hk;exact nomatch hk
    exact⟨k,by rw[e1,aN this];exact hk⟩
  ·rintro⟨k,hk⟩
   obtain⟨u,hu,_⟩:=o0 k j hk;have:=(f j).mpr ⟨u,hu⟩;split
   ·exact Nat.succ_pos _
   ·exact this
theorem iM.new(I:iM o cnt h row th)(hn:o k1=none)(hj: ∀k,o k≠some jn)(hi:th n=none)
  (e1: ∀k,o' k=if k=k1 then some jn else o k) (e2: ∀j,cnt' j=if j=jn then 1 else cnt j) (e3: ∀k,k≠k1→h' k=h k) (pR:h' k1=some n)
  (e4: ∀j,j≠jn→rL j=row j) (K9:rL jn=some l) (e5: ∀i,th' i=if i=n then some (l,1,true)else th i):iM o' cnt' h' rL th':=by
 obtain⟨a,b,c,d,f⟩:=I;have zH: ∀k j i,o k=some j→h k=some i→i≠n:=by
  rintro k j i hk x rfl;obtain⟨i2,l2,x2,y,z⟩:=a k j hk;rw[x]at x2;injection x2 with x2;subst x2;rw[hi]at z;exact nomatch z
 refine⟨?_,?_,?_,?_,?_⟩
 ·intro k j hk
  rw[e1]at hk;by_cases e:k=k1
  ·subst e;rw[aV rfl]at hk;injection hk with hk;subst hk
   exact⟨n,l,pR,K9,by rw[e5,aV rfl,e2,aV rfl];rfl⟩
  ·rw[aN e]at hk
   obtain⟨i,l2,x,y,z⟩:=a k j hk;have Kf:j≠jn:=by rintro rfl;exact hj k hk
   exact⟨i,l2,by rw[e3 k e];exact x,by rw[e4 j Kf];exact y,by rw[e5,aN (zH k j i hk x),e2,aN Kf];exact z⟩
 ·intro k k' j j' i hk eM x x'
  rw[e1]at hk eM;by_cases e:k=k1<;>by_cases e':k'=k1
  ·subst e;subst e';rw[aV rfl]at hk eM;rw[hk]at eM;injection eM
  ·subst e;rw[pR]at x;injection x with x;subst x
   rw[aN e']at eM;rw[e3 k' e']at x';exact absurd rfl (zH k' j' _ eM x')
  ·subst e';rw[pR]at x';injection x' with x';subst x'
   rw[aN e]at hk;rw[e3 k e]at x;exact absurd rfl (zH k j _ hk x)
  ·rw[aN e]at hk;rw[aN e']at eM;rw[e3 k e]at x;rw[e3 k' e']at x';exact b k k' j j' i hk eM x x'
 ·intro k k' j hk eM
  rw[e1]at hk eM;by_cases e:k=k1<;>by_cases e':k'=k1
  ·subst e;subst e';rfl
  ·subst e;rw[aV rfl]at hk;injection hk with hk;subst hk;rw[aN e']at eM;exact absurd eM (hj k')
  ·subst e';rw[aV rfl]at eM;injection eM with eM;subst eM;rw[aN e]at hk;exact absurd hk (hj k)
  ·rw[aN e]at hk;rw[aN e']at eM;rw[e3 k e,e3 k' e'];exact c k k' j hk eM
 ·intro i l2 c2 x
  rw[e5]at x;by_cases e:i=n
  ·subst e;exact⟨k1,jn,by rw[e1,aV rfl],pR⟩
  ·rw[aN e]at x
   obtain⟨k,j,y,z⟩:=d i l2 c2 x;have:k≠k1:=by rintro rfl;rw[hn]at y;exact nomatch y
   exact⟨k,j,by rw[e1,aN this];exact y,by rw[e3 k this];exact z⟩
 ·intro j
  rw[e2];constructor
  ·intro x
   by_cases e:j=jn
   ·subst e;exact⟨k1,by rw[e1,aV rfl]⟩
   ·rw[aN e]at x
    obtain⟨k,hk⟩:=(f j).mp x;have:k≠k1:=by rintro rfl;rw[hn]at hk;exact nomatch hk
    exact⟨k,by rw[e1,aN this];exact hk⟩
  ·rintro⟨k,hk⟩
   split
   ·exact Nat.one_pos
   ·next e=>
    rw[e1]at hk;by_cases e2:k=k1
    ·rw[aV e2]at hk;injection hk with hk;exact absurd hk.symm e
    ·rw[aN e2]at hk;exact(f j).mpr ⟨k,hk⟩
theorem iM.del(I:iM o cnt h row th)(ho:o k0=some j0)(hh:h k0=some i0)(hr:row j0=some l)
  (e1: ∀k,o' k=if k=k0 then none else o k) (e2: ∀j,cnt' j=if j=j0 then cnt j-1 else cnt j) (e3: ∀k,k≠k0→h' k=h k)
  (e4: ∀j,(j=j0→1<cnt j0)→rL j=row j)
  (e5: ∀i,i≠i0→th' i=th i) (L1:1<cnt j0→th' i0=some (l,(cnt j0:Int)-1,true)) (L3:cnt j0=1→∀l c,th' i0≠some (l,c,true)) (f': ∀j,0<cnt' j↔∃k,o' k=some j):iM o' cnt' h' rL th':=by
 obtain⟨a,b,c,d,f⟩:=I;have pos:0<cnt j0:=(f j0).mpr ⟨k0,ho⟩;have oo: ∀k j,o' k=some j→k≠k0∧o k=some j:=by
  intro k j hk;rw[e1]at hk;by_cases e:k=k0
  ·rw[aV e]at hk;exact nomatch hk
  ·rw[aN e]at hk;exact⟨e,hk⟩
 have many: ∀k,o' k=some j0→1<cnt j0:=by
  intro k hk;have:=(f' j0).mpr ⟨k,hk⟩;rw[e2,aV rfl]at this;exact Nat.sub_pos_iff_lt.mp this
 refine⟨?_,?_,?_,?_,f'⟩
 ·intro k j hk
  obtain⟨ne,TS⟩:=oo k j hk;obtain⟨i,l2,x,y,z⟩:=a k j TS;by_cases e:j=j0
  ·subst e
   have:h k=h k0:=c k k0 j TS ho;rw[hh,x]at this;injection this with this;subst this;rw[hr]at y;injection y with y;subst y;have m:=many k hk;refine⟨i,l,by rw[e3 k ne];exact x,by rw[e4 j (fun _=>m)];exact hr,?_⟩;rw[L1 m,e2,aV rfl];congr 3;exact(Int.ofNat_sub (sA m)).symm
  ·have ni:i≠i0:=by intro e2;subst e2;exact e (b k k0 j j0 i TS ho x hh)
   exact⟨i,l2,by rw[e3 k ne];exact x,by rw[e4 j (fun e3=>absurd e3 e)];exact y,by rw[e5 i ni,e2,aN e];exact z⟩
 ·intro k k' j j' i hk eM x x'
  obtain⟨n1,y⟩:=oo k j hk;obtain⟨n2,y'⟩:=oo k' j' eM;rw[e3 k n1]at x;rw[e3 k' n2]at x';exact b k k' j j' i y y' x x'
 ·intro k k' j hk eM
  obtain⟨n1,y⟩:=oo k j hk;obtain⟨n2,y'⟩:=oo k' j eM;rw[e3 k n1,e3 k' n2];exact c k k' j y y'
 ·intro i l2 c2 x
  by_cases e:i=i0
  ·subst e
   have c1:1<cnt j0:=by
    by_cases c1:cnt j0=1
    ·exact absurd x (L3 c1 l2 c2)
    ·exact Ax pos (gH c1)
   obtain⟨k,hk⟩:=(f' j0).mp (by rw[e2,aV rfl];exact Bf c1);obtain⟨n1,y⟩:=oo k j0 hk;exact⟨k,j0,hk,by rw[e3 k n1,c k k0 j0 y ho];exact hh⟩
  ·rw[e5 i e]at x
   obtain⟨k,j,y,z⟩:=d i l2 c2 x;have nk:k≠k0:=by
    rintro rfl;rw[hh]at z;injection z with z;exact e z.symm
   exact⟨k,j,by rw[e1,aN nk];exact y,by rw[e3 k nk];exact z⟩
end
end
section
variable{of:List (PK×Int)}{k k':PK}{j v:Int}{rows:List RW}{r r':RW}{idx:Nat}{items:List Int}
theorem lY: ∀(of:List (PK×Int)) (k:PK) (v:Int) (k':PK),(oset of k v).lookup k'=if k'=k then some v else of.lookup k'
 | [],k,v,k'=>by
  by_cases h:k'=k
  ·subst h;simp only[oset,gZ,fG,if_true]
  ·simp only[oset,gZ,dC.mpr h,aN h]
 |(a,u)::r,k,v,k'=>by
  unfold oset;split
  ·next e=>
   subst e;by_cases h:k'=a
   ·subst h;simp only[gZ,fG,if_true]
   ·simp only[gZ,dC.mpr h,aN h]
  ·next e=>
   by_cases h:k'=a
   ·subst h;rw[aN e];simp only[gZ,fG]
   ·simp only[gZ,dC.mpr h];exact(lY r k v k')
theorem mL(of:List (PK×Int))(k k':PK):(cI of k).lookup k'=if k'=k then none else of.lookup k':=by
 by_cases h:k'=k
 ·subst h;rw[aV rfl]
  induction of with
  |nil=>rfl|cons e r ih=>
   obtain⟨a,b⟩:=e;unfold cI at ih⊢;by_cases ha:a=k'
   ·rw[AR (by simp[ha])];exact ih
   ·rw[AU (by simp[ha]),gG,dC.mpr (gH ha)];exact ih
 ·rw[aN h];exact Lp h
theorem kb(h:k∉of.map (·.1)):of.lookup k=none:=by
 induction of with
 |nil=>rfl|cons e r ih=>
  obtain⟨a,b⟩:=e;rw[dU,dJ,not_or]at h;rw[gG,dC.mpr h.1];exact ih h.2
theorem qk(h:k∉of.map (·.1)):cI of k=of:=by
 unfold cI;rw[Ui];intro e m;simp only[ne_eq,decide_not,Bool.not_eq_eq_eq_not,Sl,decide_eq_false_iff_not];rintro rfl;exact h (dY.mpr ⟨e,m,rfl⟩)
theorem HB(h:of.lookup k=some j):0<(vals of).count j:=by
 rw[DZ]
 induction of with
 |nil=>exact nomatch h|cons e r ih=>
  obtain⟨a2,b2⟩:=e;rw[gG]at h;split at h
  ·injection h with h;subst h;exact tU ..
  ·exact tT _ (ih h)
theorem HM(nd:(of.map (·.1)).Nodup):(vals (cI of k)).count j=(vals of).count j-if of.lookup k=some j then 1 else 0:=by
 induction of with
 |nil=>rfl|cons e r ih=>
  obtain⟨a,b⟩:=e;have jZ:=hA.mp nd;by_cases ha:a=k
  ·subst ha
   rw[show cI ((a,b)::r) a=r by unfold cI;rw[AR (by simp)];exact qk jZ.1,gG,fG];show tQ j (vals r)=tQ j (b::vals r)-if some b=some j then 1 else 0
   by_cases hb:b=j
   ·subst hb;rw[aV rfl,Ae];rfl
   ·rw[aN (fun q=>hb (gQ q)),Ac hb];rfl
  ·have ih:=ih jZ.2
   rw[show cI ((a,b)::r) k=(a,b)::cI r k by unfold cI;rw[AU (by simp[ha])],gG,dC.mpr (gH ha)];show tQ j (b::vals (cI r k))=tQ j (b::vals r)-if r.lookup k=some j then 1 else 0
   by_cases hb:b=j
   ·subst hb
    rw[Ae,Ae,ih];refine(Nat.sub_add_comm ?_).symm;by_cases q:r.lookup k=some b
    ·rw[aV q];exact HB q
    ·rw[aN q];exact lK _
   ·rw[Ac hb,Ac hb,ih]
theorem mem_lookup{a:PK}{b:Int}: ∀{of:List (PK×Int)},(of.map (·.1)).Nodup→(a,b)∈of→of.lookup a=some b
 |e::r,nd,m=>by
  have jZ:=hA.mp nd;rcases dJ.mp m with rfl|m
  ·rw[gG,fG]
  ·have:a≠e.1:=by rintro rfl;exact jZ.1 (dY.mpr ⟨_,m,rfl⟩)
   rw[gG,dC.mpr this];exact mem_lookup jZ.2 m
theorem HY(nd:(of.map (·.1)).Nodup):0<(vals of).count j↔∃k,of.lookup k=some j:=by
 refine⟨fun h=>?_,fun⟨k,h⟩=>HB h⟩;rw[DZ]at h;obtain⟨⟨a,b⟩,m,rfl⟩:=dY.mp h;exact⟨a,mem_lookup nd m⟩
theorem HN(nd:(of.map (·.1)).Nodup):((cI of k).map (·.1)).Nodup:=yH (EB.map _) nd
theorem WJ: ∀{of:List (PK×Int)},k∉of.map (·.1)→oset of k v=of++[(k,v)]
 | [],_=>rfl|(a,u)::r,h=>by
  rw[dU,dJ,not_or]at h;unfold oset;rw[aN (gH h.1),WJ h.2];rfl
theorem VB(h:of.lookup k=none):k∉of.map (·.1):=by
 induction of with
 |nil=>exact yK|cons e r ih=>
  obtain⟨a,b⟩:=e;rw[gG]at h;split at h
  ·exact nomatch h
  ·next e=>rw[dU,dJ,not_or];exact⟨fun x=>by rw[x]at e;simp at e,ih h⟩
theorem MU(nd:(of.map (·.1)).Nodup)(h:of.lookup k=none):((oset of k v).map (·.1)).Nodup:=by
 rw[WJ (VB h),kJ];exact qO.mpr ⟨nd,by simp,fun a m b m2 e=>by
  have m3:b=k:=eZ.mp m2;subst m3;subst e;exact VB h m⟩
theorem HS(h:of.lookup k=none):(vals (oset of k v)).count j=(vals of).count j+if j=v then 1 else 0:=by
 rw[WJ (VB h)];simp only[vals,kJ,List.count_append,dU,PE,Ab,List.count_nil];by_cases e:j=v
 ·subst e;simp
 ·rw[aN e,dC.mpr (gH e)];simp
theorem Nr: ∀{of:List (PK×Int)} {k:PK} {v:Int},k∈of.map (·.1)→(oset of k v).map (·.1)=of.map (·.1)
 |(a,u)::r,k,v,h=>by
  unfold oset;split
  ·rfl
  ·next e=>rw[dU,dU,Nr];rcases dJ.mp h with rfl|h;exact absurd rfl e;exact h
theorem Np: ∀{of:List (PK×Int)} {k:PK} {v j0 j:Int},of.lookup k=some j0→(vals (oset of k v)).count j+(if j=j0 then 1 else 0)=(vals of).count j+if j=v then 1 else 0
 | [],k,v,j0,j,h=>nomatch h|(a,u)::r,k,v,j0,j,h=>by
  rw[gG]at h;unfold oset;by_cases e:a=k
  ·subst e
   rw[fG]at h;injection h with h;subst h;rw[aV rfl];simp only[vals,dU,Ab,beq_iff_eq,eq_comm (a:=u) (b:=j),eq_comm (a:=v) (b:=j)];exact fE (dM 34752168673133209872 rfl) (dM 34752168673133209872 rfl)
  ·rw[dC.mpr (gH e)]at h
   rw[aN e];have ih:=Np (v:=v) (j:=j) h;simp only[vals,dU,Ab]at ih⊢;exact fE (Gz 77374120332605427980801863067920 rfl ih) (Gz 76732872284629583094365771802896 rfl ih)
end
section
set_option genInjectivity true
section
variable{rows:List RW}{r r':RW}{idx:Nat}{j j0:Int}{l:List Int}
theorem lC(h:eX rows j=some r):r∈rows∧r.j=j:=⟨PJ h,by have:=OZ h;exact beq_iff_eq.mp this⟩
theorem WW(h: ∀x∈rows,x.j≠r.j):eX (rows++[r]) j=if j=r.j then some r else eX rows j:=by
 unfold eX;rw[Ag];by_cases e:j=r.j
 ·rw[aV e]
  have:rows.find? (fun r=>r.j==j)=none:=by rw[OY];intro x m;rw[e];simp only[beq_iff_eq];exact h x m
  rw[this,jU,beq_iff_eq.mpr e.symm];rfl
 ·rw[aN e,jU,dC.mpr (gH e)]
  simp only[List.find?_nil,Vx]
theorem WX: ∀{rows:List RW} {idx:Nat},(rows.map (·.j)).Nodup→rows[idx]?=some r→eX (rows.set idx (r.fY l)) j=if j=r.j then some (r.fY l)else eX rows j
 | [],_,_,h=>nomatch h|x::rs,0,nd,h=>by
  injection h with h;subst h;simp only[qP,eX,jU];by_cases e:j=x.j
  ·subst e;simp only[fG,if_true]
  ·rw[aN e,dC.mpr (gH e)]
 |x::rs,idx+1,nd,h=>by
  have jZ:=hA.mp nd;have ih:=WX jZ.2 h;simp only[qP,eX,jU]at ih⊢;by_cases e:j=x.j
  ·subst e;rw[fG,aN (fun e=>jZ.1 (dY.mpr ⟨r,(fD h),e.symm⟩))]
  ·rw[dC.mpr (gH e)];exact ih
theorem Oz:eX (rows.filter fun r=>r.j≠j0) j=if j=j0 then none else eX rows j:=by
 unfold eX
 induction rows with
 |nil=>simp|cons x rs ih=>
  by_cases e:x.j=j0
  ·rw[AR (by simp[e]),ih,jU]
   by_cases h:j=j0
   ·rw[aV h,aV h]
   ·rw[aN h,aN h,dC.mpr (by rw[e];exact gH h)]
  ·rw[AU (by simp[e]),jU,jU,ih]
   by_cases h:j=x.j
   ·subst h;simp only[fG,aN e]
   ·rw[dC.mpr (gH h)]
theorem wa:(rows.set idx (r.fY l)).map (·.j)=(rows.map (·.j)).set idx r.j:=PF
theorem Pb(h:rows[idx]?=some r):(rows.set idx (r.fY l)).map (·.j)=rows.map (·.j):=by
 rw[wa];exact sZ (by rw[fW,h];rfl)
end
abbrev K1:PK:=pk [1]
abbrev dX:PK:=pk [2,1]
def cV(P Q:Nat)(hs:List (Int×Nat))(k:PK):Option Nat:=if k=K1 then some P else if k=dX then some Q else(hs.find? fun e=>decide (bI e.1=k)).map (·.2)
noncomputable def fo(s:St)(k:PK):Option Int:=s.of.lookup k
def fc(s:St)(j:Int):Nat:=(vals s.of).count j
def fr(s:St)(j:Int):Option (List Int):=(eX s.rows j).map (·.items)
noncomputable def ft(s:St)(i:Nat):Option (List Int×Int×Bool):=s.th[i]?.map fun t=>(t.items,t.st,t.live)
structure cX(s:St)(T:Nat)(x y z:Int)(P Q:Nat)(hs:List (Int×Nat)):Prop where
 v:s.val=gB x (P+1) y (Q+1) z
 n:s.nat=natE x y z
 h:s.hands=lT hs
 hn:(hs.map (·.1)).Nodup
 hl:hs.length≤T
 o1: ∀k,(cV P Q hs k).isSome→(fo s k).isSome
 o2: ∀k,(fo s k).isSome→(cV P Q hs k).isSome
 i0:iM (fo s) (fc s) (cV P Q hs) (fr s) (ft s)
 nd:(s.of.map (·.1)).Nodup
 tk:tupK s.of
 rl: ∀r∈s.rows,r.j≤s.next
 rn:(s.rows.map (·.j)).Nodup
 lo:s.of.length≤T+2
 lr:s.rows.length≤T+2
 lt:s.th.length≤T+2
 li: ∀r∈s.rows,r.items.length≤2^(T+2)
 k:s.k≤23+14*T
variable{s:St}{T:Nat}{A:Ad}{x y z:Int}{P Q:Nat}{hs:List (Int×Nat)}
theorem cX.wl(I:cX s T x y z P Q hs)(hT:T≤9)(hl:A.nums.length≤40):Wl A s:=
 ⟨⟨I.tk,I.rl,by have:=I.lo;simp only[aJ];exact aX 9596599438496948795232833504529 rfl this hT,by have:=I.lr;simp only[aJ];exact aX 9596599438496948795232833504529 rfl this hT⟩,by have:=I.lt;simp only[aJ];exact aX 9596599438496948795232834553105 rfl this hT,bW I.k (bW (vR (Bb 14 hT) 23) (by decide)),hl⟩
theorem GL(P Q:Nat)(hs:List (Int×Nat)):cV P Q hs K1=some P:=aV rfl
theorem rB(P Q:Nat)(hs:List (Int×Nat)):cV P Q hs dX=some Q:=by unfold cV;rw[aN (by decide),aV rfl]
theorem UN(nm:Int):bI nm≠K1:=by intro h;injection h with h;injection h with h;exact nomatch h
theorem UO(nm:Int):bI nm≠dX:=by intro h;injection h with h;injection h with h;exact nomatch h
theorem tw(x P y Q z:Int):mF (gB x P y Q z) [1] P (fun v=>agg [.int x,v,agg [.int y,bH Q],vX (.tup [sv "k",.tup []]) (.int z)]):=⟨by decide,fun h=>read1 h,gy⟩
theorem tz(x P y Q z:Int):mF (gB x P y Q z) [2,1] Q (fun v=>agg [.int x,bH P,agg [.int y,v],vX (.tup [sv "k",.tup []]) (.int z)]):=⟨by decide,fun h=>Op h,ic⟩
theorem holder{k:PK}{i:Nat}(I0:iM (fo s) (fc s) (cV P Q hs) (fr s) (ft s))(hk:cV P Q hs k=some i)(hi:(fo s k).isSome):
  ∃j r t,s.of.lookup k=some j∧eX s.rows j=some r∧s.th[i]?=some t∧t.live=true∧t.items=r.items∧t.st=(fc s j:Int)∧1≤t.st:=by
 obtain⟨j,hj⟩:=vU.mp hi;obtain⟨i2,l,x,y,z⟩:=I0.a k j hj;rw[hk]at x;injection x with x;subst x;obtain⟨r,hr,rfl⟩:=lO.mp y;obtain⟨t,ht,e⟩:=lO.mp z;injection e with e1 e;injection e with e2 e3;have:0<fc s j:=(I0.f j).mpr ⟨k,hj⟩;exact⟨j,r,t,hj,hr,ht,e3,e1,e2,by exact jX 2214762509564245509144 rfl e2 this⟩
end
section
variable{s s':St}{T:Nat}{A:Ad}{P Q i:Nat}{hs:List (Int×Nat)}{nm x y z j:Int}{k:PK}{t t':TH}
theorem LZ{a b:Int}(h:bI a=bI b):a=b:=by injection h with h;injection h with _ h;injection h with h;injection h with h
theorem S5(hs:List (Int×Nat))(nm:Int):(hs.find? fun e=>decide (bI e.1=bI nm))=hs.find? fun e=>e.1==nm:=by
 congr 1;funext e;by_cases h:e.1=nm
 ·rw[h,fG];exact cC rfl
 ·rw[dC.mpr h];exact iW (fun g=>h (LZ g))
theorem LL(P Q:Nat)(hs:List (Int×Nat))(nm:Int):cV P Q hs (bI nm)=(hs.find? fun e=>e.1==nm).map (·.2):=by
 unfold cV;rw[aN (UN nm),aN (UO nm),S5]
theorem FP(P Q:Nat): ∀(hs:List (Int×Nat)) (nm:Int),bZ (lT hs) (bI nm)=(cV P Q hs (bI nm)).map fun(b:Nat)=>bH ((b:Int)+1):=by
 intro hs nm;rw[LL]
 induction hs with
 |nil=>rfl|cons e r ih=>
  simp only[bZ,lT,dU,gZ,jU]at ih⊢;by_cases h:e.1=nm
  ·rw[h,fG,fG];rfl
  ·rw[dC.mpr h,dC.mpr (fun g=>h (LZ g).symm)];exact ih
theorem TY(h:nm∉hs.map (·.1)):cV P Q hs (bI nm)=none:=by
 rw[LL,OY.mpr];rfl;intro e m;simp only[beq_iff_eq];rintro rfl;exact h (dY.mpr ⟨e,m,rfl⟩)
theorem VF(h:nm∈hs.map (·.1)):(cV P Q hs (bI nm)).isSome:=by
 rw[LL];obtain⟨e,m,rfl⟩:=dY.mp h;have:(hs.find? fun e2=>e2.1==e.1).isSome:=Ah.mpr ⟨e,m,fG _⟩;rw[Vu];exact this
theorem wV(h:nm∉hs.map (·.1)):cV P Q (hs++[(nm,i)]) k=if k=bI nm then some i else cV P Q hs k:=by
 by_cases e:k=bI nm
 ·subst e
  rw[aV rfl,LL,Ag,OY.mpr]
  ·simp only[Option.none_or,jU,fG,pE]
  ·intro e m;simp only[beq_iff_eq];rintro rfl;exact h (dY.mpr ⟨e,m,rfl⟩)
 ·rw[aN e]
  unfold cV;by_cases h1:k=K1
  ·rw[aV h1,aV h1]
  by_cases h2:k=dX
  ·rw[aN h1,aV h2,aN h1,aV h2]
  rw[aN h1,aN h2,aN h1,aN h2,Ag];have:([(nm,i)]:List (Int×Nat)).find? (fun e=>decide (bI e.1=k))=none:=by rw[jU,iW (gH e)];rfl
  rw[this,Vx]
theorem TX(ne:k≠bI nm):cV P Q (hs.filter fun e=>e.1≠nm) k=cV P Q hs k:=by
 unfold cV;by_cases h1:k=K1
 ·rw[aV h1,aV h1]
 by_cases h2:k=dX
 ·rw[aN h1,aV h2,aN h1,aV h2]
 rw[aN h1,aN h2,aN h1,aN h2];congr 1
 induction hs with
 |nil=>rfl|cons e r ih=>
  by_cases h:e.1=nm
  ·rw[AR (by simp[h]),ih,jU,iW (by rw[h];exact gH ne)]
  ·rw[AU (by simp[h]),jU,jU,ih]
theorem Hk{v:Nat}(h:nm∉hs.map (·.1)):bT (lT hs) (bI nm) (bH (v+1))=lT (hs++[(nm,v)]):=by
 induction hs with
 |nil=>rfl|cons e r ih=>
  rw[dU,dJ,not_or]at h;have: ¬bI e.1=bI nm:=fun g=>h.1 (LZ g).symm;simp only[lT,dU,DY,bT,aN this]at ih⊢;rw[ih h.2]
theorem W3:iD (lT hs) (bI nm)=lT (hs.filter fun e=>e.1≠nm):=by
 unfold iD lT;rw[OX];congr 1;apply Af;intro e _;by_cases h:e.1=nm
 ·simp[h]
 ·have: ¬bI e.1=bI nm:=fun g=>h (LZ g)
  simp[h]
theorem qI{n T:Nat}(h:n≤2^(T+2)):n≤2^(T+1+2):=bW h (Bd (by decide) (aS 2166235824316744976 rfl))
theorem cX.up{k':Nat}(I:cX s T x y z P Q hs)(hk:k'≤s.k+14):cX (s.wk k') (T+1) x y z P Q hs:=
 ⟨I.v,I.n,I.h,I.hn,by have:=I.hl;exact aX 271483852123439248 rfl this,I.o1,I.o2,I.i0,I.nd,I.tk,I.rl,I.rn,by have:=I.lo;show s.of.length≤_;exact aX 4542959219683919324807312 rfl this,by have:=I.lr;show s.rows.length≤_;exact aX 4542959219683919324807312 rfl this,by have:=I.lt;show s.th.length≤_;exact aX 4542959219683919324807312 rfl this,fun r m=>qI (I.li r m),by have:=I.k;show k'≤_;exact dM 10257521181127072819920761580660555022480 rfl hk this⟩
theorem cX.up0{k':Nat}{x' y' z':Int}(I:cX s T x y z P Q hs)(hk:k'≤s.k+14):cX (((s.wk k').qL (gB x' (P+1) y' (Q+1) z')).DO (natE x' y' z')) (T+1) x' y' z' P Q hs:=
 ⟨rfl,rfl,I.h,I.hn,by have:=I.hl;exact aX 271483852123439248 rfl this,I.o1,I.o2,I.i0,I.nd,I.tk,I.rl,I.rn,by have:=I.lo;show s.of.length≤_;exact aX 4542959219683919324807312 rfl this,by have:=I.lr;show s.rows.length≤_;exact aX 4542959219683919324807312 rfl this,by have:=I.lt;show s.th.length≤_;exact aX 4542959219683919324807312 rfl this,fun r m=>qI (I.li r m),by have:=I.k;show k'≤_;exact dM 10257521181127072819920761580660555022480 rfl hk this⟩
theorem oW{th:List TH}{i i':Nat}(g:th[i]?=some t):(th.set i t')[i']?=if i'=i then some t' else th[i']?:=by
 rw[JH];by_cases e:i=i'
 ·rw[aV e,aV e.symm,aV (eF.mp g).1]
 ·rw[aN e,aN (gH e)]
theorem NN{th:List TH}{i':Nat}:(th++[t'])[i']?=if i'=th.length then some t' else th[i']?:=by
 by_cases e:i'=th.length
 ·subst e;rw[aV rfl,yI (fQ _),yQ];rfl
 ·rw[aN e]
  by_cases h:i'<th.length
  ·rw[AV h]
  ·rw[jN (by rw[eO,pD];exact Ax (yP.mp h) (gH e)),jN (by exact aX 66007515414672 rfl h)]
theorem CZ: ∀(of:List (PK×Int)) (k:PK) (v:Int),(oset of k v).length≤of.length+1
 | [],_,_=>fQ _|(a,u)::r,k,v=>by
  have:=CZ r k v;unfold oset;split
  ·simp
  ·simp only[AX];exact aX 18588618150709247687802225936 rfl this
theorem HT{of:List (PK×Int)}{l:List PA}{v:Int}(h:tupK of):tupK (oset of (.tup l) v):=by
 intro e m
 induction of with
 |nil=>rw[oset,eZ]at m;subst m;exact⟨l,rfl⟩|cons a r ih=>
  obtain⟨a,u⟩:=a;unfold oset at m;split at m
  ·rcases dJ.mp m with rfl|m
   ·exact h (a,u) (tU ..)
   ·exact h e (tT _ m)
  ·rcases dJ.mp m with rfl|m
   ·exact h (a,u) (tU ..)
   ·exact ih (fun e m=>h e (tT _ m)) m
theorem cX.YJ{k0:PK}(I:cX s T x y z P Q hs)(ho:s.of.lookup k0=some j)(hh:cV P Q hs k0=some i)(g:s.th[i]?=some t)(hn:bZ s.hands (bI nm)=none):
  cX (((s.gE (s.th.set i (t.iB (t.st+1)))).qK (bT s.hands (bI nm) (bH (i+1)))).kG (oset s.of (bI nm) j)) (T+1) x y z P Q (hs++[(nm,i)]):=by
 have kS:nm∉hs.map (·.1):=by
  intro m;have:=VF (P:=P) (Q:=Q) m;rw[I.h,FP P Q]at hn;rw[Vv]at hn;rw[hn]at this;exact nomatch this
 have nD:s.of.lookup (bI nm)=none:=by
  have:=mt (I.o2 (bI nm)) (by rw[TY kS];exact fun h=>nomatch h);unfold fo at this;exact Vw.mp this
 refine bQ fun G_ aQ=>?_;obtain⟨j2,r,t2,q1,q2,q3,q4,q5,q6,q7⟩:=holder I.i0 hh (by unfold fo;rw[ho];rfl);rw[ho]at q1;injection q1 with q1;subst q1;rw[g]at q3;injection q3 with q3;subst q3;have inv:iM (fo (((s.gE (s.th.set i (t.iB (t.st+1)))).qK (bT s.hands (bI nm) (bH (i+1)))).kG (oset s.of (bI nm) j))) (fc (((s.gE (s.th.set i (t.iB (t.st+1)))).qK (bT s.hands (bI nm) (bH (i+1)))).kG (oset s.of (bI nm) j))) (cV P Q (hs++[(nm,i)])) (fr s) (ft (((s.gE (s.th.set i (t.iB (t.st+1)))).qK (bT s.hands (bI nm) (bH (i+1)))).kG (oset s.of (bI nm) j))):=by
  refine I.i0.add (k0:=k0) (k1:=bI nm) (j0:=j) (i0:=i) (l:=r.items) ho hh (by unfold fr;rw[q2];rfl) nD ?_ ?_ ?_ ?_ ?_
  ·intro k
   unfold fo;exact lY _ _ _ _
  ·intro j'
   unfold fc;rw[HS nD];split<;>rfl
  ·intro k e
   rw[wV kS,aN e]
  ·rw[wV kS,aV rfl]
  ·intro i'
   unfold ft;rw[oW g];by_cases e:i'=i
   ·rw[aV e,aV e,pE,q5,q4,q6]
   ·rw[aN e,aN e]
 refine aQ ?_;refine⟨I.v,I.n,?_,?_,?_,?_,?_,inv,MU I.nd nD,HT I.tk,I.rl,I.rn,?_,?_,?_,fun r m=>qI (I.li r m),?_⟩
 ·show bT s.hands _ _=_
  rw[I.h];exact Hk kS
 ·rw[kJ];exact qO.mpr ⟨I.hn,by simp,fun a m b m2 e=>by
   have m3:b=nm:=eZ.mp m2;subst m3;subst e;exact kS m⟩
 ·rw[eO,pD]
  have:=I.hl;exact aX 1111997858297607619856 rfl this
 ·intro k hk
  rw[wV kS]at hk;show((oset s.of (bI nm) j).lookup k).isSome;rw[lY];by_cases e:k=bI nm
  ·rw[aV e]
   rfl
  ·rw[aN e]at hk⊢
   exact I.o1 k hk
 ·intro k hk
  have hk:((oset s.of (bI nm) j).lookup k).isSome:=hk;rw[lY]at hk;rw[wV kS];by_cases e:k=bI nm
  ·rw[aV e]
   rfl
  ·rw[aN e]at hk⊢
   exact I.o2 k hk
 ·show(oset s.of (bI nm) j).length≤_
  exact bW (CZ _ _ _) (tX I.lo)
 ·have:=I.lr
  show s.rows.length≤_;exact aX 4542959219683919324807312 rfl this
 ·show(s.th.set i _).length≤_
  rw[dS];have:=I.lt;exact aX 4542959219683919324807312 rfl this
 ·have:=I.k
  show s.k≤_;exact aX 1194132629410611549272066261136 rfl this
end
section
variable{s s':St}{T:Nat}{A:Ad}{P Q i rn:Nat}{hs:List (Int×Nat)}{nm x y z j:Int}{k:PK}{t t':TH}{l:List Int}
theorem cX.YK{k':Nat}(I:cX s T x y z P Q hs)(hn:bZ s.hands (bI nm)=none)(h1:t'.st=1)(h2:t'.live=true)(h3:t'.items=l)(hl:l.length≤2^(T+1+2))(hk:k'≤s.k+14):
  cX ((((((s.wk k').gE (s.th++[t'])).qK (bT s.hands (bI nm) (bH (s.th.length+1)))).tG (s.next+1)).iA (s.rows++[⟨s.next+1,rn,l⟩])).kG (oset s.of (bI nm) (s.next+1))) (T+1) x y z P Q (hs++[(nm,s.th.length)]):=by
 have kS:nm∉hs.map (·.1):=by
  intro m;have:=VF (P:=P) (Q:=Q) m;rw[I.h,FP P Q]at hn;rw[Vv]at hn;rw[hn]at this;exact nomatch this
 have nD:s.of.lookup (bI nm)=none:=by
  have:=mt (I.o2 (bI nm)) (by rw[TY kS];exact fun h=>nomatch h);unfold fo at this;exact Vw.mp this
 have fresh: ∀r∈s.rows,r.j≠s.next+1:=fun r m=>by have:=I.rl r m;exact fun fK=>uG 9109488761017007435939862 rfl fK this
 have rg: ∀j,eX (s.rows++[⟨s.next+1,rn,l⟩]) j=if j=s.next+1 then some ⟨s.next+1,rn,l⟩else eX s.rows j:=fun j=>WW (r:=⟨s.next+1,rn,l⟩) fresh
 have HH: ∀k,fo s k≠some (s.next+1):=by
  intro k hk;obtain⟨i2,l2,x1,x2,x3⟩:=I.i0.a k _ hk;obtain⟨r,hr,_⟩:=lO.mp x2;exact fresh r (lC hr).1 (lC hr).2
 have inv:iM (fo ((((((s.wk k').gE (s.th++[t'])).qK (bT s.hands (bI nm) (bH (s.th.length+1)))).tG (s.next+1)).iA (s.rows++[⟨s.next+1,rn,l⟩])).kG (oset s.of (bI nm) (s.next+1)))) (fun j=>(vals (oset s.of (bI nm) (s.next+1))).count j) (cV P Q (hs++[(nm,s.th.length)])) (fun j=>(eX (s.rows++[⟨s.next+1,rn,l⟩]) j).map (·.items)) (fun i=>(s.th++[t'])[i]?.map fun t=>(t.items,t.st,t.live)):=by
  refine I.i0.new (k1:=bI nm) (jn:=s.next+1) (n:=s.th.length) (l:=l) nD HH ?_ ?_ ?_ ?_ ?_ ?_ ?_ ?_
  ·unfold ft;rw[jN (fQ _)];rfl
  ·intro k;unfold fo;exact lY _ _ _ _
  ·intro j'
   show tQ _ _=_;rw[HS nD];by_cases e:j'=s.next+1
   ·rw[aV e,aV e]
    have:(vals s.of).count j'=0:=by
     apply OG;intro h;obtain⟨k,hk⟩:=(HY I.nd).mp (Bc h);rw[e]at hk;exact HH k hk
    exact fE (aS 4323460659335398672 rfl this) (aS 515933602832 rfl)
   ·rw[aN e,aN e];rfl
  ·intro k e;rw[wV kS,aN e]
  ·rw[wV kS,aV rfl]
  ·intro j' e;show fF _ _=_;rw[rg,aN e];rfl
  ·show fF _ _=_;rw[rg,aV rfl];rfl
  ·intro i';show fF _ _=_;rw[NN]
   by_cases e:i'=s.th.length
   ·rw[aV e,aV e,pE,h1,h2,h3]
   ·rw[aN e,aN e];rfl
 refine⟨I.v,I.n,?_,?_,?_,?_,?_,inv,MU I.nd nD,HT I.tk,?_,?_,?_,?_,?_,?_,?_⟩
 ·show bT s.hands _ _=_;rw[I.h];exact Hk kS
 ·rw[kJ];exact qO.mpr ⟨I.hn,by simp,fun a m b m2 e=>by
   have m3:b=nm:=eZ.mp m2;subst m3;subst e;exact kS m⟩
 ·rw[eO,pD];have:=I.hl;exact aX 1111997858297607619856 rfl this
 ·intro k hk
  rw[wV kS]at hk;show((oset s.of (bI nm) (s.next+1)).lookup k).isSome;rw[lY];by_cases e:k=bI nm
  ·rw[aV e];rfl
  ·rw[aN e]at hk⊢;exact I.o1 k hk
 ·intro k hk
  have hk:((oset s.of (bI nm) (s.next+1)).lookup k).isSome:=hk;rw[lY]at hk;rw[wV kS];by_cases e:k=bI nm
  ·rw[aV e];rfl
  ·rw[aN e]at hk⊢;exact I.o2 k hk
 ·intro r m
  show r.j≤s.next+1;rcases oG.mp m with m|m
  ·have:=I.rl r m;exact uG 271483920842915992 rfl this
  ·rw[eZ.mp m];exact rZ _
 ·show((s.rows++[(⟨s.next+1,rn,l⟩:RW)]).map RW.j).Nodup
  rw[kJ];exact qO.mpr ⟨I.rn,by simp,fun a m b m2 e=>by
   have m3:b=s.next+1:=eZ.mp m2;subst m3;subst e;obtain⟨r,mr,er⟩:=dY.mp m;exact fresh r mr er⟩
 ·show(oset s.of (bI nm) _).length≤_;exact bW (CZ _ _ _) (tX I.lo)
 ·show(s.rows++[_]).length≤_;rw[eO,pD];have:=I.lr;exact aX 18607960963825333554411210000 rfl this
 ·show(s.th++[_]).length≤_;rw[eO,pD];have:=I.lt;exact aX 18607960963825333554411210000 rfl this
 ·intro r m
  rcases oG.mp m with m|m
  ·exact qI (I.li r m)
  ·rw[eZ.mp m];exact hl
 ·have:=I.k;show k'≤_;exact dM 10257521181127072819920761580660555022480 rfl hk this
theorem JE{P' Q':Nat}{hs':List (Int×Nat)}{k0:PK}(I:cX s T x y z P Q hs)(ho:s.of.lookup k0=some j)(hh:cV P Q hs k0=some i)(g:s.th[i]?=some t)(ls:tP t t')
  (e3: ∀k,k≠k0→cV P' Q' hs' k=cV P Q hs k):
  iM (fun k=>(cI s.of k0).lookup k) (fun j=>(vals (cI s.of k0)).count j) (cV P' Q' hs') (fun j'=>(eX (gX s k0 j) j').map (·.items)) (fun i'=>(s.th.set i t')[i']?.map fun t=>(t.items,t.st,t.live)):=by
 refine bQ fun G_ aQ=>?_;obtain⟨j2,r,t2,q1,q2,q3,q4,q5,q6,q7⟩:=holder I.i0 hh (by unfold fo;rw[ho];rfl);rw[ho]at q1;injection q1 with q1;subst q1;rw[g]at q3;injection q3 with q3;subst q3;have cnt: ∀j',(vals (cI s.of k0)).count j'=if j'=j then(vals s.of).count j'-1 else(vals s.of).count j':=by
  intro j';rw[HM I.nd,ho];by_cases e:j'=j
  ·rw[aV e,aV (by rw[e])]
  ·rw[aN e,aN (by intro h;injection h with h;exact e h.symm)]
   rfl
 have DC:t.st=((vals s.of).count j:Nat):=q6;refine aQ ?_;refine I.i0.del (k0:=k0) (j0:=j) (i0:=i) (l:=r.items) ho hh (by unfold fr;rw[q2];rfl) (fun k=>mL _ _ _) cnt e3 ?_ ?_ ?_ ?_ ?_
 ·intro j' h
  show fF _ (eX (gX s k0 j) j')=fF _ (eX s.rows j');unfold gX;by_cases c:(vals (cI s.of k0)).contains j=true
  ·rw[aV c]
  ·rw[aN c,Oz]
   by_cases e:j'=j
   ·exfalso
    have h:=h e;have:0<(vals (cI s.of k0)).count j:=by rw[cnt,aV rfl];exact Bf h
    rw[DZ]at this;exact c (JF.mpr this)
   ·rw[aN e]
 ·intro i' e
  show fF _ _=fF _ _;rw[oW g,aN e]
 ·intro h
  have h:1<(vals s.of).count j:=h;show fF _ _=_;rw[oW g,aV rfl];rcases ls with⟨_,e⟩|⟨e,_⟩
  ·rw[e,pE]
   show some (t.items,t.st-1,t.live)=_;rw[q5,q4,q6]
  ·exact jE (jX 74354468982986302566309036054 rfl h DC e)
 ·intro h l2 c2
  have h:(vals s.of).count j=1:=h;show fF _ _≠_;rw[oW g,aV rfl];rcases ls with⟨e,_⟩|⟨_,e⟩
  ·exact jE (jX 74353859797709748533880422422 rfl e DC h)
  ·rw[pE]
   intro q;injection q with q;injection q with _ q;injection q with _ q;rw[e]at q;exact nomatch q
 ·intro j'
  exact HY (HN I.nd)
end
section
variable{s s':St}{T:Nat}{A:Ad}{P Q i i1 rn:Nat}{hs:List (Int×Nat)}{nm x y z j j1:Int}{k:PK}{t t' t1 ti:TH}{l:List Int}
theorem WC{of:List (PK×Int)}{k:PK}(h:tupK of):tupK (cI of k):=fun e m=>h e (EG.mp m).1
theorem WB(of:List (PK×Int))(k:PK):(cI of k).length≤of.length:=ED _ _
theorem XA(s:St)(k:PK)(j:Int):(gX s k j).Sublist s.rows:=by
 unfold gX;split
 ·exact OU _
 ·exact EB
theorem cX.aA7{k':Nat}(I:cX s T x y z P Q hs)(ho:s.of.lookup (bI nm)=some j)(hh:cV P Q hs (bI nm)=some i)(g:s.th[i]?=some t)(ls:tP t t')(hk:k'≤s.k+14):
  cX (((((s.wk k').qK (iD s.hands (bI nm))).gE (s.th.set i t')).kG (cI s.of (bI nm))).iA (gX s (bI nm) j)) (T+1) x y z P Q (hs.filter fun e=>e.1≠nm):=by
 have sub:=XA s (bI nm) j;have oh:cV P Q (hs.filter fun e=>e.1≠nm) (bI nm)=none:=TY (by
  intro m;obtain⟨e,me,e2⟩:=dY.mp m;have:=(EG.mp me).2;rw[e2]at this;simp at this)
 refine⟨I.v,I.n,?_,?_,?_,?_,?_,JE I ho hh g ls (fun k e=>TX e),HN I.nd,WC I.tk,fun r m=>I.rl r (sub.subset m),yH (sub.map _) I.rn,?_,?_,?_,fun r m=>qI (I.li r (sub.subset m)),?_⟩
 ·show iD s.hands _=_;rw[I.h];exact W3
 ·exact yH (EB.map _) I.hn
 ·exact yO (bW (ED _ _) I.hl)
 ·intro k h
  show((cI s.of (bI nm)).lookup k).isSome;rw[mL];by_cases e:k=bI nm
  ·rw[e,oh]at h;exact nomatch h
  ·rw[aN e];rw[TX e]at h;exact I.o1 k h
 ·intro k h
  have h:((cI s.of (bI nm)).lookup k).isSome:=h;rw[mL]at h;by_cases e:k=bI nm
  ·rw[aV e]at h;exact nomatch h
  ·rw[aN e]at h;rw[TX e];exact I.o2 k h
 ·show(cI s.of _).length≤_;exact bW (WB _ _) (yO I.lo)
 ·show(gX s (bI nm) j).length≤_;exact bW sub.length_le (yO I.lr)
 ·show(s.th.set i t').length≤_;rw[dS];have:=I.lt;exact aX 4542959219683919324807312 rfl this
 ·have:=I.k;show k'≤_;exact dM 10257521181127072819920761580660555022480 rfl hk this
theorem cX.YL{u:Int}(I:cX s T x y z P Q hs)(ho:s.of.lookup dX=some j)(g:s.th[Q]?=some t)(ls:tP t t')(h1:t1.st=1)(h2:t1.live=true)(h3:t1.items=l)(hl:l.length≤2^(T+1+2)):
  cX ((((((s.gE (s.th.set Q t'++[t1])).qL (gB x (P+1) u (s.th.length+1) z)).DO (natE x u z)).kG (oset (cI s.of dX) dX (s.next+1))).iA (gX s dX j++[⟨s.next+1,rn,l⟩])).tG (s.next+1)) (T+1) x u z P s.th.length hs:=by
 have sub:=XA s dX j;have e3: ∀k,k≠dX→cV P s.th.length hs k=cV P Q hs k:=by
  intro k e;unfold cV;by_cases h1:k=K1
  ·rw[aV h1,aV h1]
  ·rw[aN h1,aN h1,aN e,aN e]
 have nD:(cI s.of dX).lookup dX=none:=by rw[mL,aV rfl]
 have fresh: ∀r∈s.rows,r.j≠s.next+1:=fun r m=>by have:=I.rl r m;exact fun fK=>uG 9109488761017007435939862 rfl fK this
 have rg: ∀j',eX (gX s dX j++[⟨s.next+1,rn,l⟩]) j'=if j'=s.next+1 then some ⟨s.next+1,rn,l⟩else eX (gX s dX j) j':=fun j'=>WW (r:=⟨s.next+1,rn,l⟩) (fun r m=>fresh r (sub.subset m))
 have HH: ∀k,(cI s.of dX).lookup k≠some (s.next+1):=by
  intro k hk;rw[mL]at hk;split at hk
  ·exact nomatch hk
  ·obtain⟨i2,l2,x1,x2,x3⟩:=I.i0.a k _ hk
   obtain⟨r,hr,_⟩:=lO.mp x2;exact fresh r (lC hr).1 (lC hr).2
 have xA:(s.th.set Q t').length=s.th.length:=dS;have inv:iM (fun k=>(oset (cI s.of dX) dX (s.next+1)).lookup k) (fun j=>(vals (oset (cI s.of dX) dX (s.next+1))).count j) (cV P s.th.length hs) (fun j'=>(eX (gX s dX j++[⟨s.next+1,rn,l⟩]) j').map (·.items)) (fun i=>(s.th.set Q t'++[t1])[i]?.map fun t=>(t.items,t.st,t.live)):=by
  refine(JE (P':=P) (Q':=Q) (hs':=hs) I ho (rB _ _ _) g ls (fun k e=>rfl)).new (k1:=dX) (jn:=s.next+1) (n:=s.th.length) (l:=l) nD HH ?_ ?_ ?_ ?_ ?_ ?_ ?_ ?_
  ·show fF _ _=none;rw[jN (by rw[xA];exact fQ _)];rfl
  ·intro k;exact lY _ _ _ _
  ·intro j'
   show tQ _ _=_;rw[HS nD];by_cases e:j'=s.next+1
   ·rw[aV e,aV e]
    have:(vals (cI s.of dX)).count j'=0:=by
     apply OG;intro h;obtain⟨k,hk⟩:=(HY (HN I.nd)).mp (Bc h);rw[e]at hk;exact HH k hk
    exact fE (aS 4323460659335398672 rfl this) (aS 515933602832 rfl)
   ·rw[aN e,aN e];rfl
  ·intro k e;exact e3 k e
  ·exact rB _ _ _
  ·intro j' e;show fF _ _=_;rw[rg,aN e]
  ·show fF _ _=_;rw[rg,aV rfl];rfl
  ·intro i';show fF _ _=_;rw[NN,xA]
   by_cases e:i'=s.th.length
   ·rw[aV e,aV e,pE,h1,h2,h3]
   ·rw[aN e,aN e]
 refine⟨rfl,rfl,I.h,I.hn,by have:=I.hl;exact aX 271483852123439248 rfl this,?_,?_,inv,MU (HN I.nd) nD,HT (WC I.tk),?_,?_,?_,?_,?_,?_,?_⟩
 ·intro k h
  show((oset (cI s.of dX) dX (s.next+1)).lookup k).isSome;rw[lY];by_cases e:k=dX
  ·rw[aV e];rfl
  ·rw[aN e,mL,aN e];rw[e3 k e]at h;exact I.o1 k h
 ·intro k h
  have h:((oset (cI s.of dX) dX (s.next+1)).lookup k).isSome:=h;rw[lY]at h;by_cases e:k=dX
  ·rw[e,rB];rfl
  ·rw[aN e,mL,aN e]at h;rw[e3 k e];exact I.o2 k h
 ·intro r m
  show r.j≤s.next+1;rcases oG.mp m with m|m
  ·have:=I.rl r (sub.subset m);exact uG 271483920842915992 rfl this
  ·rw[eZ.mp m];exact rZ _
 ·show((gX s dX j++[(⟨s.next+1,rn,l⟩:RW)]).map RW.j).Nodup
  rw[kJ];exact qO.mpr ⟨yH (sub.map _) I.rn,by simp,fun a m b m2 e=>by
   have m3:b=s.next+1:=eZ.mp m2;subst m3;subst e;obtain⟨r,mr,er⟩:=dY.mp m;exact fresh r (sub.subset mr) er⟩
 ·show(oset (cI s.of dX) dX _).length≤_;exact bW (CZ _ _ _) (tX (bW (WB _ _) I.lo))
 ·show(gX s dX j++[_]).length≤_;rw[eO,pD];exact tX (bW sub.length_le I.lr)
 ·show(s.th.set Q t'++[_]).length≤_;rw[eO,pD,xA];have:=I.lt;exact aX 18607960963825333554411210000 rfl this
 ·intro r m
  rcases oG.mp m with m|m
  ·exact qI (I.li r (sub.subset m))
  ·rw[eZ.mp m];exact hl
 ·have:=I.k;show s.k≤_;exact aX 1194132629410611549272066261136 rfl this
end
section
variable{s s':St}{T:Nat}{A:Ad}{P Q P' Q' i i1 rn:Nat}{hs:List (Int×Nat)}{nm x y z j j1:Int}{k k0:PK}{t t' t1 ti:TH}{l:List Int}{r1:RW}
theorem iM.ext{o o':PK→Option Int}{cnt cnt':Int→Nat}{h h':PK→Option Nat}{row rL:Int→Option (List Int)}{th th':Nat→Option (List Int×Int×Bool)}(I:iM o cnt h row th)
  (e1: ∀k,o' k=o k) (e2: ∀j,cnt' j=cnt j) (e3: ∀k,h' k=h k) (e4: ∀j,rL j=row j) (e5: ∀i,th' i=th i):iM o' cnt' h' rL th':=by
 rw[show o'=o from funext e1,show cnt'=cnt from funext e2,show h'=h from funext e3,show rL=row from funext e4,show th'=th from funext e5];exact I
theorem Tl(I:cX s T x y z P Q hs)(ho:s.of.lookup k0=some j)(hh:cV P Q hs k0=some i)(g:s.th[i]?=some t)(ne:bI nm≠k0)
  (pX:s.of.lookup (bI nm)=some j1) (BU:cV P Q hs (bI nm)=some i1) (g1:s.th[i1]?=some t1) (nE:(s.th.set i1 (t1.iB (t1.st+1)))[i]?=some ti) (ls:tP ti t')
  (e3: ∀k,k≠k0→cV P' Q' hs k=cV P Q hs k) (pR:cV P' Q' hs k0=some i1):
  iM (fun k=>(oset (cI s.of k0) k0 j1).lookup k) (fun j=>(vals (oset (cI s.of k0) k0 j1)).count j) (cV P' Q' hs) (fun j'=>(eX (gX s k0 j) j').map (·.items)) (fun i'=>((s.th.set i1 (t1.iB (t1.st+1))).set i t')[i']?.map fun t=>(t.items,t.st,t.live)):=by
 refine bQ fun G_ aQ=>?_;obtain⟨j2,r,t2,q1,q2,q3,q4,q5,q6,q7⟩:=holder I.i0 hh (by unfold fo;rw[ho];rfl);rw[ho]at q1;injection q1 with q1;subst q1;rw[g]at q3;injection q3 with q3;subst q3;obtain⟨j3,r1,t3,p1,p2,p3,p4,p5,p6,p7⟩:=holder I.i0 BU (by unfold fo;rw[pX];rfl);rw[pX]at p1;injection p1 with p1;subst p1;rw[g1]at p3;injection p3 with p3;subst p3;have nD:(cI s.of k0).lookup k0=none:=by rw[mL,aV rfl]
 have Ik:(cI s.of k0).lookup (bI nm)=some j1:=by rw[mL,aN ne];exact pX
 by_cases e:i=i1
 ·subst e
  have ej:j=j1:=I.i0.b k0 (bI nm) j j1 i ho pX hh BU;subst ej;rw[g]at g1;injection g1 with g1;subst g1;rw[oW g,aV rfl]at nE;injection nE with nE;subst nE;have et:t'=t:=by
   rcases ls with⟨_,e⟩|⟨e,_⟩
   ·rw[e]
    show((t.iB (t.st+1-1)):TH)=t;rw[ZS]
   ·have:t.st+1=1:=e
    exact jE (jH 145222509596721062736822294 rfl q7 this)
  refine aQ ?_;refine I.i0.ext ?_ ?_ ?_ ?_ ?_
  ·intro k
   show(oset (cI s.of k0) k0 j).lookup k=s.of.lookup k;rw[lY,mL];by_cases e:k=k0
   ·rw[aV e,e,ho]
   ·rw[aN e,aN e]
  ·intro j'
   show(vals (oset (cI s.of k0) k0 j)).count j'=(vals s.of).count j';rw[HS nD,HM I.nd,ho];by_cases e:j'=j
   ·rw[aV (by rw[e]),aV e]
    have:0<(vals s.of).count j:=HB ho;rw[e];exact Vm this
   ·rw[aN (by intro h;injection h with h;exact e h.symm),aN e]
    rfl
  ·intro k
   by_cases e:k=k0
   ·rw[e,pR,hh]
   ·exact e3 k e
  ·intro j'
   show fF _ _=fF _ _;unfold gX;rw[aV (JF.mpr (DZ.mp (HB Ik)))]
  ·intro i'
   show fF _ _=fF _ _;rw[et,vQ,sZ g]
 ·have ej:j≠j1:=by
   rintro rfl;have:=I.i0.c k0 (bI nm) j ho pX;rw[hh,BU]at this;injection this with this;exact e this
  have ba:ti=t:=by rw[oW g1,aN e,g]at nE;injection nE with nE;exact nE.symm
  subst ba;have cj:(vals (cI s.of k0)).count j1=(vals s.of).count j1:=by
   rw[HM I.nd,ho,aN (by intro h;injection h with h;exact ej h)];rfl
  refine aQ ?_;refine((JE (P':=P) (Q':=Q) (hs':=hs) I ho hh g ls (fun k e=>rfl)).add (k0:=bI nm) (k1:=k0) (j0:=j1) (i0:=i1) (l:=r1.items) (o':=fun k=>(oset (cI s.of k0) k0 j1).lookup k) (cnt':=fun j=>(vals (oset (cI s.of k0) k0 j1)).count j) (h':=cV P' Q' hs) (th':=fun i'=>((s.th.set i1 (t1.iB (t1.st+1))).set i t')[i']?.map fun t=>(t.items,t.st,t.live)) Ik BU ?_ nD ?_ ?_ ?_ ?_ ?_)
  ·show fF _ _=_
   have:eX (gX s k0 j) j1=eX s.rows j1:=by
    unfold gX;split
    ·rfl
    ·rw[Oz,aN (gH ej)]
   rw[this,p2];rfl
  ·intro k
   exact lY _ _ _ _
  ·intro j'
   show tQ _ _=_;rw[HS nD];split<;>rfl
  ·intro k e
   exact e3 k e
  ·exact pR
  ·intro i'
   show fF _ _=_;rw[oW (by rw[oW g1,aN e];exact g)];by_cases e1:i'=i
   ·rw[aV e1,aN (by rw[e1];exact e)]
    show _=fF _ _;rw[oW g,aV e1]
   ·rw[aN e1,oW g1]
    by_cases e2:i'=i1
    ·rw[aV e2,aV e2,pE]
     show some (t1.items,t1.st+1,t1.live)=_;rw[p5,p4,p6];show _=some (r1.items,((tQ j1 (vals (cI s.of k0)):Nat):Int)+1,true);rw[cj];rfl
    ·rw[aN e2,aN e2]
     show _=fF _ _;rw[oW g,aN e1]
theorem cX.aA6{k':Nat}{v:PV}(I:cX s T x y z P Q hs)(ho:s.of.lookup k0=some j)(hh:cV P Q hs k0=some i)(g:s.th[i]?=some t)(ne:bI nm≠k0)
  (pX:s.of.lookup (bI nm)=some j1) (BU:cV P Q hs (bI nm)=some i1) (g1:s.th[i1]?=some t1) (nE:(s.th.set i1 (t1.iB (t1.st+1)))[i]?=some ti) (ls:tP ti t')
  (e3: ∀k,k≠k0→cV P' Q' hs k=cV P Q hs k) (pR:cV P' Q' hs k0=some i1) (hv:v=gB x (P'+1) y (Q'+1) z) (kt: ∃l,k0= .tup l) (hk:k'≤s.k+14):
  cX (((((s.wk k').gE ((s.th.set i1 (t1.iB (t1.st+1))).set i t')).qL v).kG (oset (cI s.of k0) k0 j1)).iA (gX s k0 j)) (T+1) x y z P' Q' hs:=by
 have sub:=XA s k0 j;obtain⟨lk,rfl⟩:=kt;refine⟨hv,I.n,I.h,I.hn,by have:=I.hl;exact aX 271483852123439248 rfl this,?_,?_,Tl I ho hh g ne pX BU g1 nE ls e3 pR,MU (HN I.nd) (by rw[mL,aV rfl]),HT (WC I.tk),fun r m=>I.rl r (sub.subset m),yH (sub.map _) I.rn,?_,?_,?_,fun r m=>qI (I.li r (sub.subset m)),?_⟩
 ·intro k h
  show((oset (cI s.of (.tup lk)) (.tup lk) j1).lookup k).isSome;rw[lY];by_cases e:k= .tup lk
  ·rw[aV e];rfl
  ·rw[aN e,mL,aN e];rw[e3 k e]at h;exact I.o1 k h
 ·intro k h
  have h:((oset (cI s.of (.tup lk)) (.tup lk) j1).lookup k).isSome:=h;rw[lY]at h;by_cases e:k= .tup lk
  ·rw[e,pR];rfl
  ·rw[aN e,mL,aN e]at h;rw[e3 k e];exact I.o2 k h
 ·show(oset (cI s.of (.tup lk)) (.tup lk) _).length≤_
  have e:(cI s.of (.tup lk)).length+1≤s.of.length+1:=by have:=WB s.of (.tup lk);exact aX 1111997858297607619856 rfl this
  exact bW (CZ _ _ _) (bW e (tX I.lo))
 ·show(gX s (.tup lk) j).length≤_;exact bW sub.length_le (yO I.lr)
 ·show((s.th.set i1 _).set i t').length≤_;rw[dS,dS];have:=I.lt;exact aX 4542959219683919324807312 rfl this
 ·have:=I.k;show k'≤_;exact dM 10257521181127072819920761580660555022480 rfl hk this
end
section
variable{s s':St}{T:Nat}{A:Ad}{P Q i:Nat}{hs:List (Int×Nat)}{x y z j:Int}{t:TH}{r:RW}{p:List Int}{new:List Int}{bX:PV→PV}
theorem cX.mod{k':Nat}(I:cX s T x y z P Q hs)(ho:s.of.lookup (pk p)=some j)(hh:cV P Q hs (pk p)=some i)(hr:eX s.rows j=some r)(g:s.th[i]?=some t)(om:sB s p j r i t bX new s')
  (gJ: ∀i':Nat,∃P' Q':Nat,bX (bH (i'+1))=gB x (P'+1) y (Q'+1) z∧(∀k,k≠pk p→cV P' Q' hs k=cV P Q hs k)∧cV P' Q' hs (pk p)=some i') (hl:new.length≤2^(T+1+2)) (hk:k'≤s.k+14):
  ∃P' Q':Nat,cX (s'.wk k') (T+1) x y z P' Q' hs:=by
 refine bQ fun G_ aQ=>?_;obtain⟨j2,r0,t2,q1,q2,q3,q4,q5,q6,q7⟩:=holder I.i0 hh (by unfold fo;rw[ho];rfl);rw[ho]at q1;injection q1 with q1;subst q1;rw[g]at q3;injection q3 with q3;subst q3;rw[hr]at q2;injection q2 with q2;subst q2;have rj:=(lC hr).2;have DC:t.st=((vals s.of).count j:Nat):=q6;obtain⟨s2,r',idx,s3,i',t',ob,iY,⟨s1,ot,alt⟩,rfl⟩:=om;rcases ob with⟨c1,rfl,rfl⟩|⟨c2,a,rfl,rfl⟩
 ·refine aQ ?_
  have one:t.st=1:=by exact tO (jX 2215917665276471149720 rfl DC c1) (jH 1056089709806616 rfl q7)
  have TZ:s1=(s2.iA (s2.rows.set idx (r'.fY new)))∧i'=i∧t'=t:=by
   refine bQ fun G_ aQ=>?_;rcases ot with⟨_,e1,e2,e3⟩|⟨e,_⟩
   ·refine aQ ?_
    exact⟨e1,e2,e3⟩
   ·refine aQ ?_
    exact⟨jE (jH 35454685459084719685654 rfl e one),⟨jE (jH 35454685459084719685654 rfl e one),jE (jH 35454685459084719685654 rfl e one)⟩⟩
  refine bQ fun G_ aQ=>?_;obtain⟨rfl,rfl,rfl⟩:=TZ;have S:iM (fo s2) (fc s2) (cV P Q hs) (fun j'=>(eX (s2.rows.set idx (r'.fY new)) j').map (·.items)) (fun i2=>(s2.th.set i' (t'.fY new))[i2]?.map fun t=>(t.items,t.st,t.live)):=by
   refine I.i0.set (k0:=pk p) (j0:=j) (i0:=i') (l:=new) ho hh ?_ ?_
   ·intro j'
    show fF _ _=_;rw[(fun j'=>WX (l:=new) (j:=j') I.rn iY),rj];by_cases e:j'=j
    ·rw[aV e,aV e]
     rfl
    ·rw[aN e,aN e]
     rfl
   ·intro i2
    show fF _ _=_;rw[oW g];by_cases e:i2=i'
    ·rw[aV e,aV e,pE]
     show some (new,t'.st,t'.live)=_;rw[q4,q6]
    ·rw[aN e,aN e]
     rfl
  have base: ∀(v:PV) (P' Q':Nat),v=gB x (P'+1) y (Q'+1) z→(∀k,cV P' Q' hs k=cV P Q hs k)→cX ((((s2.wk k').qL v).iA (s2.rows.set idx (r'.fY new))).gE (s2.th.set i' (t'.fY new))) (T+1) x y z P' Q' hs:=by
   intro v P' Q' hv he;refine⟨hv,I.n,I.h,I.hn,by have:=I.hl;exact aX 271483852123439248 rfl this,fun k h=>I.o1 k (by rw[←he];exact h),fun k h=>by rw[he];exact I.o2 k h,S.ext (fun _=>rfl) (fun _=>rfl) he (fun _=>rfl) (fun _=>rfl),I.nd,I.tk,?_,?_,by have:=I.lo;show s2.of.length≤_;exact aX 4542959219683919324807312 rfl this,?_,?_,?_,by have:=I.k;show k'≤_;exact dM 10257521181127072819920761580660555022480 rfl hk this⟩
   ·intro w m
    rcases PN m with m|rfl
    ·exact I.rl w m
    ·exact I.rl r' (fD iY)
   ·show((s2.rows.set idx (r'.fY new)).map RW.j).Nodup
    rw[Pb iY];exact I.rn
   ·show(s2.rows.set idx _).length≤_
    rw[dS];have:=I.lr;exact aX 4542959219683919324807312 rfl this
   ·show(s2.th.set i' _).length≤_
    rw[dS];have:=I.lt;exact aX 4542959219683919324807312 rfl this
   ·intro w m
    rcases PN m with m|rfl
    ·exact qI (I.li w m)
    ·exact hl
  rcases alt with rfl|⟨rfl,_,_⟩
  ·obtain⟨P',Q',h1,h2,h3⟩:=gJ i'
   refine aQ ?_;exact⟨P',Q',base _ P' Q' h1 (fun k=>by
    by_cases e:k=pk p
    ·rw[e,h3,hh]
    ·exact h2 k e)⟩
  ·refine aQ ?_
   exact⟨P,Q,base _ P Q I.v (fun _=>rfl)⟩
 ·refine aQ ?_
  have TZ: ∃t0:TH,i'=s.th.length∧t'=t0∧s1={((((s.tG (s.next+1)).iA (s.rows++[⟨s.next+1,a,r.items⟩])).kG (oset s.of (.tup (p.map .int)) (s.next+1))):St)with rows:=(s.rows++[(⟨s.next+1,a,r.items⟩:RW)]).set idx {(⟨s.next+1,a,r.items⟩:RW)with items:=new},th:=s.th.set i (t.iB (t.st-1))++[t0]}∧t0.st=1∧t0.live=true:=by
   refine bQ fun G_ aQ=>?_;rcases ot with⟨e,_⟩|⟨_,e1,e2,e3,e4,_⟩
   ·exact jE (jX 74354468982986302566309036054 rfl c2 DC e)
   ·refine aQ ?_
    exact⟨t',e1,rfl,e2,e3,e4⟩
  refine bQ fun G_ aQ=>?_;obtain⟨t0,rfl,rfl,rfl,u1,u2⟩:=TZ;have alt:=alt.resolve_right (fun h=>by have:=h.2.2;exact aX 2214844546733108625430 rfl ((eF.mp g).1) h.2.2);subst alt;obtain⟨P',Q',h1,h2,h3⟩:=gJ s.th.length;refine aQ ?_;refine⟨P',Q',?_⟩;have fresh: ∀w∈s.rows,w.j≠s.next+1:=fun w m=>by have:=I.rl w m;exact fun fK=>uG 9109488761017007435939862 rfl fK this
  have Mf:((s.rows++[(⟨s.next+1,a,r.items⟩:RW)]).map RW.j).Nodup:=by
   rw[kJ];exact qO.mpr ⟨I.rn,by simp,fun c m b m2 e=>by
    have m3:b=s.next+1:=eZ.mp m2;refine bQ fun G_ aQ=>?_;subst m3;subst e;obtain⟨w,mr,er⟩:=dY.mp m;refine aQ ?_;exact fresh w mr er⟩
  have rg: ∀j',eX ((s.rows++[(⟨s.next+1,a,r.items⟩:RW)]).set idx {(⟨s.next+1,a,r.items⟩:RW)with items:=new}) j'=if j'=s.next+1 then some ⟨s.next+1,a,new⟩else eX s.rows j':=by
   intro j';rw[WX Mf iY];by_cases e:j'=s.next+1
   ·rw[aV e,aV e]
   ·rw[aN e,aN e,WW (r:=⟨s.next+1,a,r.items⟩) fresh,aN e]
  have Mq: ∀k,s.of.lookup k≠some (s.next+1):=by
   intro k hk;refine bQ fun G_ aQ=>?_;obtain⟨i2,l2,x1,x2,x3⟩:=I.i0.a k _ hk;obtain⟨w,hw,_⟩:=lO.mp x2;refine aQ ?_;exact fresh w (lC hw).1 (lC hw).2
  have vw:gX s (pk p) j=s.rows:=by
   unfold gX;rw[aV];refine JF.mpr (DZ.mp ?_);rw[HM I.nd,ho,aV rfl];exact Bf c2
  have xA:(s.th.set i (t.iB (t.st-1))).length=s.th.length:=dS;have inv:iM (fun k=>(oset s.of (pk p) (s.next+1)).lookup k) (fun j=>(vals (oset s.of (pk p) (s.next+1))).count j) (cV P' Q' hs) (fun j'=>(eX ((s.rows++[(⟨s.next+1,a,r.items⟩:RW)]).set idx {(⟨s.next+1,a,r.items⟩:RW)with items:=new}) j').map (·.items)) (fun i2=>((s.th.set i (t.iB (t.st-1))++[t']).set s.th.length (t'.fY new))[i2]?.map fun t=>(t.items,t.st,t.live)):=by
   refine(JE (P':=P) (Q':=Q) (hs':=hs) (t':=(t.iB (t.st-1))) I ho hh g (.inl ⟨(jX 2214780523962754992152 rfl DC c2),rfl⟩) (fun k e=>rfl)).new (k1:=pk p) (jn:=s.next+1) (n:=s.th.length) (l:=new) (by rw[mL,aV rfl]) ?_ ?_ ?_ ?_ ?_ ?_ ?_ ?_ ?_
   ·intro k hk
    have hk:(cI s.of (pk p)).lookup k=some (s.next+1):=hk;rw[mL]at hk;split at hk
    ·exact nomatch hk
    ·exact Mq k hk
   ·show fF _ _=none
    rw[jN (by rw[xA];exact fQ _)];rfl
   ·intro k
    show(oset s.of (pk p) (s.next+1)).lookup k=if k=pk p then _ else(cI s.of (pk p)).lookup k
    rw[lY,mL];by_cases e:k=pk p
    ·rw[aV e,aV e]
    ·rw[aN e,aN e,aN e]
   ·intro j'
    show tQ j' (vals (oset s.of (pk p) (s.next+1)))=if j'=s.next+1 then 1 else tQ j' (vals (cI s.of (pk p)))
    have co:=Np (v:=s.next+1) (j:=j') ho;have z0:(vals s.of).count (s.next+1)=0:=by
     apply OG;intro h;obtain⟨k,hk⟩:=(HY I.nd).mp (Bc h);exact Mq k hk
    rw[HM I.nd,ho];by_cases e:j'=s.next+1
    ·subst e
     rw[aN (gH (by rw[←rj];exact fresh r (lC hr).1)),aV rfl,z0]at co;rw[aV rfl];exact fE (aS 4327959252791591056 rfl co) (aS 4327959252799915024 rfl co)
    ·rw[aN e]at co⊢
     by_cases e2:j'=j
     ·rw[aV e2]at co
      rw[aV (by rw[e2])]
      omega
     ·rw[aN e2]at co
      rw[aN (by intro h;injection h with h;exact e2 h.symm)]
      omega
   ·intro k e
    exact h2 k e
   ·exact h3
   ·intro j' e
    show fF _ _=fF _ _;rw[rg,aN e,vw]
   ·show fF _ _=_
    rw[rg,aV rfl];rfl
   ·intro i2
    show fF _ _=_;rw[oW (by rw[NN,xA,aV rfl])];by_cases e:i2=s.th.length
    ·rw[aV e,aV e,pE]
     show some (new,t'.st,t'.live)=_;rw[u1,u2]
    ·rw[aN e,aN e,NN,xA,aN e]
  refine⟨h1,I.n,I.h,I.hn,by have:=I.hl;exact aX 271483852123439248 rfl this,?_,?_,inv,?_,HT I.tk,?_,?_,?_,?_,?_,?_,?_⟩
  ·intro k h
   show((oset s.of (pk p) (s.next+1)).lookup k).isSome;rw[lY];by_cases e:k=pk p
   ·rw[aV e]
    rfl
   ·rw[aN e]
    rw[h2 k e]at h;exact I.o1 k h
  ·intro k h
   have h:((oset s.of (pk p) (s.next+1)).lookup k).isSome:=h;rw[lY]at h;by_cases e:k=pk p
   ·rw[e,h3]
    rfl
   ·rw[aN e]at h
    rw[h2 k e];exact I.o2 k h
  ·show((oset s.of (pk p) (s.next+1)).map (·.1)).Nodup
   have mm:pk p∈s.of.map (·.1):=by
    apply OG;intro h;rw[kb h]at ho;exact nomatch ho
   rw[Nr mm];exact I.nd
  ·intro w m
   show w.j≤s.next+1;rcases PN m with m|rfl
   ·rcases oG.mp m with m|m
    ·have:=I.rl w m
     exact uG 271483920842915992 rfl this
    ·rw[eZ.mp m]
     exact rZ _
   ·exact rZ _
  ·show(((s.rows++[(⟨s.next+1,a,r.items⟩:RW)]).set idx {(⟨s.next+1,a,r.items⟩:RW)with items:=new}).map RW.j).Nodup
   rw[Pb iY];exact Mf
  ·show(oset s.of (pk p) _).length≤_
   exact bW (CZ _ _ _) (tX I.lo)
  ·show((s.rows++[_]).set idx _).length≤_
   rw[dS,eO,pD];have:=I.lr;exact aX 18607960963825333554411210000 rfl this
  ·show((s.th.set i _++[t']).set s.th.length _).length≤_
   rw[dS,eO,pD,xA];have:=I.lt;exact aX 18607960963825333554411210000 rfl this
  ·intro w m
   rcases PN m with m|rfl
   ·rcases oG.mp m with m|m
    ·exact qI (I.li w m)
    ·rw[eZ.mp m]
     exact qI (I.li r (lC hr).1)
   ·exact hl
  ·have:=I.k
   show k'≤_;exact dM 10257521181127072819920761580660555022480 rfl hk this
end
section
set_option genInjectivity true
variable{m n:Nat}{H:PH}{F:List (Nat×PO)}{s s':St}{T:Nat}{A:Ad}{P Q i:Nat}{hs:List (Int×Nat)}{x y z j:Int}{t:TH}{r:RW}{p:List Int}{new:List Int}{bX:PV→PV}
structure tH(s:St)(P Q:Nat)(hs:List (Int×Nat))(x y z:Int)(p:List Int)(j:Int)(r:RW)(i:Nat)(t:TH)(bX:PV→PV):Prop where
 a:rT s p j r i t bX
 hh:cV P Q hs (pk p)=some i
 gJ: ∀i':Nat,∃P' Q':Nat,bX (bH (i'+1))=gB x (P'+1) y (Q'+1) z∧(∀k,k≠pk p→cV P' Q' hs k=cV P Q hs k)∧cV P' Q' hs (pk p)=some i'
theorem MV{n T:Nat}(h:n≤2^(T+2))(hT:T≤8):n≤1024:=bW h (Bd (by decide) (show T+2≤10 by exact aS 4359489392467772688 rfl hT))
theorem cX.Ck(I:cX s T x y z P Q hs)(hT:T≤8)(d:Int): ∃j r i t bX,tH s P Q hs x y z (iH d) j r i t bX:=by
 unfold iH;by_cases h:d=0
 ·rw[aV h]
  have hh:=GL P Q hs;refine bQ fun G_ aQ=>?_;obtain⟨j,r,t,q1,q2,q3,q4,q5,q6,q7⟩:=holder I.i0 hh (I.o1 _ (by rw[hh];rfl));refine aQ ?_;refine⟨j,r,P,t,_,⟨q1,q2,q3,q4,q5,q7,by rw[I.v];exact tw x (P+1) y (Q+1) z,?_⟩,hh,fun i'=>⟨i',Q,rfl,fun k e=>?_,GL _ _ _⟩⟩
  ·have:=MV (I.li r (lC q2).1) hT
   exact aS 69463661699812884625 rfl this
  ·unfold cV
   rw[aN e,aN e]
 ·rw[aN h]
  have hh:=rB P Q hs;refine bQ fun G_ aQ=>?_;obtain⟨j,r,t,q1,q2,q3,q4,q5,q6,q7⟩:=holder I.i0 hh (I.o1 _ (by rw[hh];rfl));refine aQ ?_;refine⟨j,r,Q,t,_,⟨q1,q2,q3,q4,q5,q7,by rw[I.v];exact tz x (P+1) y (Q+1) z,?_⟩,hh,fun i'=>⟨P,i',rfl,fun k e=>?_,rB _ _ _⟩⟩
  ·have:=MV (I.li r (lC q2).1) hT
   exact aS 69463661699812884625 rfl this
  ·unfold cV
   by_cases h1:k=K1
   ·rw[aV h1,aV h1]
   ·rw[aN h1,aN h1,aN e,aN e]
theorem sB.k(om:sB s p j r i t bX new s'):s'.k=s.k:=by
 obtain⟨s2,r',idx,s3,i',t',ob,iY,⟨s1,ot,alt⟩,rfl⟩:=om;have e1:s2.k=s.k:=by rcases ob with⟨_,rfl,_⟩|⟨_,_,rfl,rfl⟩<;>rfl
 rcases alt with rfl|⟨rfl,_,_⟩
 ·show s1.k=_;rw[(show s1.k=s2.k by rcases ot with⟨_,rfl,_⟩|⟨_,_,rfl,_⟩<;>rfl),e1]
 ·show s2.k=_;rw[e1]
theorem cX.hand(I:cX s T x y z P Q hs)(hT:T≤8): ∀nm∈hs.map (·.1),∃j1 r1 i1 t1,vN s nm j1 r1 i1 t1∧cV P Q hs (bI nm)=some i1:=by
 intro nm m;refine bQ fun G_ aQ=>?_;obtain⟨i1,hh⟩:=vU.mp (VF (P:=P) (Q:=Q) m);obtain⟨j,r,t,q1,q2,q3,q4,q5,q6,q7⟩:=holder I.i0 hh (I.o1 _ (by rw[hh];rfl));refine aQ ?_;exact⟨j,r,i1,t,⟨by rw[I.h,FP P Q,hh];rfl,q1,q2,q3,q4,q7,by rw[q5];have:=MV (I.li r (lC q2).1) hT;simp only[aJ];exact aS 69463661700337172624 rfl this⟩,hh⟩
theorem vN.hold{nm:Int}{j1:Int}{r1:RW}{i1:Nat}{t1:TH}(I:cX s T x y z P Q hs)(h:vN s nm j1 r1 i1 t1):cV P Q hs (bI nm)=some i1:=by
 have e:=h.hg;rw[I.h,FP P Q]at e;obtain⟨b,hb,e⟩:=lO.mp e;injection e with e;injection e with _ e;injection e with e _;injection e with e;have:b=i1:=by exact fE (aX 1107967982703080521872 rfl e) (aX 1107958975521007747216 rfl e)
 rw[←this];exact hb
theorem tu(T:Nat):2^(T+1+2)=2^(T+2)+2^(T+2):=by rw[show T+1+2=(T+2)+1 from rfl,Nat.pow_succ,Nat.mul_two]
theorem Od{a b T:Nat}(h:a≤2^(T+2))(h2:b≤2^(T+2)):a+b≤2^(T+1+2):=by rw[tu];exact Nat.add_le_add h h2
theorem tv{a T:Nat}(h:a≤2^(T+2)):a+1≤2^(T+1+2):=Od h Nat.one_le_two_pow
theorem K8(nums:List Int)(k:Nat):bP nums k 2=0∨bP nums k 2=1:=by
 have h0:=pP (nums:=nums) (k:=k) (size:=2) (by decide);have h1:=pQ (nums:=nums) (k:=k) (size:=2) (by decide);exact HQ h0 h1
noncomputable def JT(A:Ad)(F:List (Nat×PO))(T:Nat)(k0:Nat)(H':PH):Prop:= ∃s' x' y' z' P' Q' hs',Rep A F s' H'∧cX s' (T+1) x' y' z' P' Q' hs'∧s'.k≤k0+14
def qS(A:Ad)(F:List (Nat×PO))(T k0:Nat)(r:Out PV):Prop:= ∃H',r= .ok (.bool true) H'∧JT A F T k0 H'
section
variable{c c' k0:Nat}{u nm:Int}
abbrev Cells(A:Ad)(c c':Nat)(p:List Int)(F:List (Nat×PO)):List (Nat×PO):=(c',.cell (some (spot A.R (0::p))))::(c,.cell (some (.ref 5)))::F
theorem m7(r1:Rep A (Cells A c c' p F) s H)(I:cX s T x y z P Q hs)(W:Wl A s)(e0:s.k=k0+3):qS A F T k0 (gW (dG (aG P0 (m+13)) (eT A c c' 0 p u nm) H)):=by
 obtain⟨H2,x',y',z',e,r2⟩:=aA1 (m:=m+5) (u:=u) r1 I.v I.n W;exact⟨H2,e,_,x',y',z',P,Q,hs,r2,I.up0 (k':=s.k+1) (aS 535462834865424 rfl),by show s.k+1≤_;exact aX 4547681586243758667597072 rfl e0⟩
theorem XM{s2:St}{k':Nat}(I:cX s T x y z P Q hs)(X:tH s P Q hs x y z p j r i t bX)(r2:Rep A F s2 H)(om:sB s p j r i t bX new (s2.wk k'))(hl:new.length≤2^(T+1+2))(hk:s2.k≤s.k+1)(e0:s.k=k0+3):JT A F T k0 H:=by
 obtain⟨P',Q',I2⟩:=I.mod (k':=s2.k) X.a.ho X.hh X.a.hr X.a.g om X.gJ hl (aX 1107967981740149080208 rfl hk);exact⟨s2,x,y,z,P',Q',hs,r2,I2,by exact dM 9537179685055019455773636984976 rfl hk e0⟩
theorem zX(r1:Rep A (Cells A c c' p F) s H)(I:cX s T x y z P Q hs)(W:Wl A s)(X:tH s P Q hs x y z p j r i t bX)(e0:s.k=k0+3):qS A F T k0 (gW (dG (aG P0 (m+13)) (eT A c c' 1 p u nm) H)):=by
 obtain⟨s2,H2,e,r2,om⟩:=aA2 (m:=m+3) (x:=u) r1 X.a W;exact⟨H2,e,XM (k':=s2.k) I X r2 om (by rw[eO,pD];exact tv (I.li r (lC X.a.hr).1)) (by rw[om.k];exact Aw _) e0⟩
theorem XL(r1:Rep A (Cells A c c' p F) s H)(I:cX s T x y z P Q hs)(W:Wl A s)(X:tH s P Q hs x y z p j r i t bX)(e0:s.k=k0+3):qS A F T k0 (gW (dG (aG P0 (m+13)) (eT A c c' 2 p u nm) H)):=by
 obtain⟨s2,H2,e,r2,om⟩:=aA3 (m:=m+2) (x:=u) r1 X.a W;exact⟨H2,e,XM (k':=s2.k) I X r2 om (by rw[List.length_dropLast];exact bW (Be _ _) (qI (I.li r (lC X.a.hr).1))) (by rw[om.k];exact Aw _) e0⟩
theorem m8(r1:Rep A (Cells A c c' p F) s H)(I:cX s T x y z P Q hs)(W:Wl A s)(X:tH s P Q hs x y z p j r i t bX)(e0:s.k=k0+3):qS A F T k0 (gW (dG (aG P0 (m+13)) (eT A c c' 3 p u nm) H)):=by
 obtain⟨s2,H2,new,e,r2,om,ek,ln⟩:=aA4 (m:=m) (x:=u) r1 X.a W;exact⟨H2,e,XM (k':=s.k) I X r2 om (bW ln (qI (I.li r (lC X.a.hr).1))) (Nat.le_of_eq ek) e0⟩
theorem II{k':Nat}(I:cX s T x y z P Q hs)(r2:Rep A F (s.wk k') H)(lk:k'≤s.k+8)(e0:s.k=k0+3):JT A F T k0 H:=
 ⟨_,x,y,z,P,Q,hs,r2,I.up (k':=k') (aX 1116038432272397009040 rfl lk),by show k'≤_;exact dM 9537179685063089906305884913808 rfl lk e0⟩
theorem m9(r1:Rep A (Cells A c c' p F) s H)(I:cX s T x y z P Q hs)(W:Wl A s)(X:tH s P Q hs x y z p j r i t bX)(hl:A.nums.length≤40)(lh:s.hands.length<1000)(lk:s.k≤800)(e0:s.k=k0+3):
  qS A F T k0 (gW (dG (aG P0 (m+13)) (eT A c c' 4 p u (s.next+100*s.hands.length)) H)):=by
 have GP:xU s.hands:=by rw[I.h];exact GC hs
 cases hg:bZ s.hands (bI (s.next+100*s.hands.length))with
 |none=>
  obtain⟨H2,e,r2⟩:=YJ (m:=m+8) (x:=u) r1 X.a W GP lh hg;exact⟨H2,e,_,x,y,z,P,Q,_,r2,I.YJ X.a.ho X.hh X.a.g hg,by show s.k≤_;exact aX 1110273824766542643344 rfl e0⟩
 |some b=>
  obtain⟨H2,k',e,r2,lk⟩:=aA8 (m:=m+6) (u:=u) r1 lk hl GP (by rw[hg];rfl);exact⟨H2,e,II I r2 lk e0⟩
theorem n0(r1:Rep A (Cells A c c' p F) s H)(I:cX s T x y z P Q hs)(W:Wl A s)(X:tH s P Q hs x y z p j r i t bX)(e0:s.k=k0+3):qS A F T k0 (gW (dG (aG P0 (m+13)) (eT A c c' 5 p u nm) H)):=by
 obtain⟨H2,e,r2⟩:=aA5 (m:=m+5) (x:=u) r1 X.a W;exact⟨H2,e,II I r2 (aS 532164301030672 rfl) e0⟩
theorem o4(r1:Rep A (Cells A c c' p F) s H)(I:cX s T x y z P Q hs)(W:Wl A s)(hT:T≤8)(X:tH s P Q hs x y z p j r i t bX)(hl:A.nums.length≤40)(lh:s.hands.length<1000)(lk:s.k≤800)(e0:s.k=k0+3):
  qS A F T k0 (gW (dG (aG P0 (m+13)) (eT A c c' 6 p u (s.next+100*s.hands.length)) H)):=by
 have GP:xU s.hands:=by rw[I.h];exact GC hs
 refine bQ fun G_ aQ=>?_;cases hg:bZ s.hands (bI (s.next+100*s.hands.length))with
 |none=>
  obtain⟨j2,WR,i2,t2,IF,X2⟩:=I.Ck hT (bP A.nums s.k 2);obtain⟨H2,t',rn,e,r2,g1,g2,g3⟩:=YK (m:=m+6) (x:=u) r1 X.a X2.a W GP lh hg;refine aQ ?_;exact⟨H2,e,_,x,y,z,P,Q,_,r2,I.YK (k':=s.k+1) hg g1 g2 g3 (by rw[eO];exact Od (I.li r (lC X.a.hr).1) (I.li WR (lC X2.a.hr).1)) (aS 535462834865424 rfl),by show s.k+1≤_;exact aX 4547681586243758667597072 rfl e0⟩
 |some b=>
  obtain⟨H2,k',e,r2,lk⟩:=aA9 (m:=m+6) (u:=u) r1 lk hl GP (by rw[hg];rfl);refine aQ ?_;exact⟨H2,e,II I r2 lk e0⟩
theorem Ku(nm dp:Int):bI nm≠pk (iH dp):=by
 unfold iH;split
 ·exact UN nm
 ·exact UO nm
theorem p8{dp:Int}(r1:Rep A (Cells A c c' (iH dp) F) s H)(I:cX s T x y z P Q hs)(W:Wl A s)(hT:T≤8)(X:tH s P Q hs x y z (iH dp) j r i t bX)(hl:A.nums.length≤40)(lk:s.k≤800)(e0:s.k=k0+3):
  qS A F T k0 (gW (dG (aG P0 (m+13)) (eT A c c' 7 (iH dp) u nm) H)):=by
 by_cases he:hs=[]
 ·obtain⟨H2,k',e,r2,lk⟩:=aBA (m:=m+6) (u:=u) r1 lk hl (by rw[I.h,he];rfl)
  exact⟨H2,e,II I r2 lk e0⟩
 ·have eP:s.hands.isEmpty=false:=by rw[I.h];cases hs with|nil=>exact absurd rfl he|cons a b=>rfl
  have all: ∀nm∈hs.map (·.1),∃j1 r1 i1 t1,vN s nm j1 r1 i1 t1:=fun nm mm=>by obtain⟨j1,r1,i1,t1,hp,_⟩:=I.hand hT nm mm;exact⟨j1,r1,i1,t1,hp⟩
  have qA:hs.length<64:=by have:=I.hl;exact aX 571411604948560434495633 rfl this hT
  have hd:=K8 A.nums (s.k+1);rcases hd with hd|hd
  ·obtain⟨H2,nm,j1,ue,i1,t1,ti,t',e,hp,nE,ls,r2⟩:=ma (m:=m+5) (r1.app (J:=[.dict [] false])) X.a W I.h he qA all (fun nm=>Ku nm dp) hd
   obtain⟨P',Q',v1,v2,v3⟩:=X.gJ i1;exact⟨H2,Qr (m:=m+5) (u:=u) r1 eP e,_,x,y,z,P',Q',hs,r2.free.free,I.aA6 (k':=s.k+2) X.a.ho X.hh X.a.g (Ku nm dp) hp.ho (hp.hold I) hp.g nE ls v2 v3 v1 ⟨_,rfl⟩ (aS 535462835914000 rfl),by show s.k+2≤_;exact aX 4547681586243758668645648 rfl e0⟩
  ·obtain⟨H2,nm,j1,ue,i1,t1,t',e,hp,ls,r2⟩:=jj (m:=m+5) (p:=iH dp) (r1.app (J:=[.dict [] false])) W I.h he qA all hd
   exact⟨H2,Qr (m:=m+5) (u:=u) r1 eP e,_,x,y,z,P,Q,_,r2.free.free,I.aA7 (k':=s.k+2) hp.ho (hp.hold I) hp.g ls (aS 535462835914000 rfl),by show s.k+2≤_;exact aX 4547681586243758668645648 rfl e0⟩
theorem s8(r1:Rep A (Cells A c c' p F) s H)(I:cX s T x y z P Q hs)(W:Wl A s)(hT:T≤8)(e0:s.k=k0+3):qS A F T k0 (gW (dG (aG P0 (m+13)) (eT A c c' 8 p u nm) H)):=by
 have hh:=rB P Q hs;refine bQ fun G_ aQ=>?_;obtain⟨j2,WR,t2,q1,q2,q3,q4,q5,q6,q7⟩:=holder I.i0 hh (I.o1 _ (by rw[hh];rfl));have lq:=MV (I.li WR (lC q2).1) hT;obtain⟨H2,t',tn,rn,e,r2,ls,g1,g2,g3⟩:=vj (m:=m+1) (u:=u) r1 I.v I.n q3 q4 q7 (by rw[q5];simp only[aJ];exact aS 69463661700337172624 rfl lq) W.b q1 q2 W.th;refine aQ ?_;exact⟨H2,YL (m:=m+5) (u:=u) r1 e,_,x,u,z,P,_,hs,r2.free.free,I.YL q1 q3 ls g1 g2 g3 (show 2^1≤2^(T+1+2)from Bd (by decide) (aS 2115464672183312 rfl)),by show s.k≤_;exact aX 1110273824766542643344 rfl e0⟩
theorem s9(r1:Rep A (Cells A c c' p F) s H)(I:cX s T x y z P Q hs)(hl:A.nums.length≤40)(lk:s.k≤800)(e0:s.k=k0+3):qS A F T k0 (gW (dG (aG P0 (m+13)) (eT A c c' 9 p u nm) H)):=by
 obtain⟨H2,k',e,r2,lk⟩:=aBB (m:=m+6) (u:=u) r1 lk hl;exact⟨H2,e,II I r2 lk e0⟩
theorem kl: ∀w:Nat,w<10→((w:Int)=0∨(w:Int)=1∨(w:Int)=2∨(w:Int)=3∨(w:Int)=4∨(w:Int)=5∨(w:Int)=6∨(w:Int)=7∨(w:Int)=8∨(w:Int)=9):=by decide
theorem aAA{way:Int}(h0:0≤way)(h1:way<10):way=0∨way=1∨way=2∨way=3∨way=4∨way=5∨way=6∨way=7∨way=8∨way=9:=by
 obtain⟨w,rfl⟩:=AJ h0;exact kl w (JD.mp h1)
theorem t6{dp way:Int}(h0:0≤way)(h1:way<10)(r1:Rep A (Cells A c c' (iH dp) F) s H)(I:cX s T x y z P Q hs)(W:Wl A s)(hT:T≤8)(hl:A.nums.length≤40)(lk:s.k≤800)(e0:s.k=k0+3):
  qS A F T k0 (gW (dG (aG P0 (m+13)) (eT A c c' way (iH dp) u (s.next+100*s.hands.length)) H)):=by
 obtain⟨j,r,i,t,bX,X⟩:=I.Ck hT dp;have lh:s.hands.length<1000:=by rw[I.h,cR];have:=I.hl;exact aX 571411604948560557179025 rfl this hT
 have hw:=aAA h0 h1;clear h0 h1;rcases hw with rfl|rfl|rfl|rfl|rfl|rfl|rfl|rfl|rfl|rfl
 ·exact m7 r1 I W e0
 ·exact zX r1 I W X e0
 ·exact XL r1 I W X e0
 ·exact m8 r1 I W X e0
 ·exact m9 r1 I W X hl lh lk e0
 ·exact n0 r1 I W X e0
 ·exact o4 r1 I W hT X hl lh lk e0
 ·exact p8 r1 I W hT X hl lk e0
 ·exact s8 r1 I W hT e0
 ·exact s9 r1 I hl lk e0
end
theorem u5(h:Rep A F s H)(I:cX s T x y z P Q hs)(hT:T≤8)(hk:s.k≤20+14*T)(hl:A.nums.length≤40):
  ∃H',aG P0 (m+14) (.aE (.ref 540)) [.ref 3,.ref 5,spot A.R [0],.ref A.D,.ref A.B,.ref A.N] H= .ok (.bool true) H'∧JT A F T s.k H':=by
 refine bQ fun G_ aQ=>?_;obtain⟨H1,c,c',r1,fin⟩:=u6 (m:=m+10) h (bW (jP (bW hk (vR (Bb 14 hT) 20)) 3) (by decide)) hl (by rw[I.h,cR];have:=I.hl;exact aX 571411604948560557179024 rfl this hT);have I1:cX (s.wk (s.k+3)) T x y z P Q hs:=⟨I.v,I.n,I.h,I.hn,I.hl,I.o1,I.o2,I.i0,I.nd,I.tk,I.rl,I.rn,I.lo,I.lr,I.lt,I.li,by show s.k+3≤_;exact aX 1194132572742214769158260786448 rfl hk⟩;obtain⟨H2,e,q⟩:=t6 (s:=s.wk (s.k+3)) (m:=m) (u:=bP A.nums (s.k+2) 90-40) (way:=bP A.nums s.k 10) (pP (by decide)) (pQ (by decide)) r1 I1 (I1.wl (A:=A) (aS 1064328464826512 rfl hT) hl) hT hl (bW (jP (bW hk (vR (Bb 14 hT) 20)) 3) (by decide)) rfl;refine aQ ?_;exact⟨H2,fin _ _ e,q⟩
end
section
set_option genInjectivity true
variable{m n:Nat}{H:PH}{F:List (Nat×PO)}{s:St}{T:Nat}{A:Ad}{P Q:Nat}{hs:List (Int×Nat)}{x y z:Int}{Bs:List (Int×Nat)}{j:Int}{b:Nat}
noncomputable abbrev fA(Bs:List (Int×Nat)):cA:=Bs.map fun e=>(PK.int e.1,PV.int (e.2+1))
theorem RC(Bs:List (Int×Nat))(j:Int):cZ (fA Bs) (.int j)=true:=by
 unfold cZ;rw[ZZ,jT];intro e _;rfl
theorem RD: ∀{Bs:List (Int×Nat)},(Bs.map (·.1)).Nodup→(j,b)∈Bs→bZ (fA Bs) (.int j)=some (.int (b+1))
 |e::r,nd,m=>by
  have jZ:=hA.mp nd;rcases dJ.mp m with rfl|m
  ·simp only[bZ,fA,dU,gZ,fG]
  ·have:j≠e.1:=by rintro rfl;exact jZ.1 (dY.mpr ⟨_,m,rfl⟩)
   have ih:=RD jZ.2 m;simp only[bZ,fA,dU,gZ]at ih⊢;rw[dC.mpr (by intro h;injection h with h;exact this h)];exact ih
theorem Cl: ∀{Bs:List (Int×Nat)},j∉Bs.map (·.1)→bZ (fA Bs) (.int j)=none∧bT (fA Bs) (.int j) (.int (b+1))=fA (Bs++[(j,b)])
 | [],_=>⟨rfl,rfl⟩|e::r,h=>by
  rw[dU,dJ,not_or]at h;have ih:=Cl h.2;have ne: ¬PK.int e.1=PK.int j:=by intro g;injection g with g;exact h.1 g.symm
  simp only[bZ,fA,dU,gZ,bT,DY]at ih⊢;rw[dC.mpr (gH ne),aN ne,ih.2];exact⟨ih.1,rfl⟩
theorem Hl{k:PK}(h: ∀nm,bI nm≠k):bZ (lT hs) k=none:=by
 unfold bZ
 induction hs with
 |nil=>rfl|cons e r ih=>
  show gZ k ((bI e.1,bH (e.2+1))::lT r)=none;rw[gG,dC.mpr (gH (h e.1))];exact ih
theorem Z8{k:PK}(h:cV P Q hs k=some b)(h1:k≠K1)(h2:k≠dX): ∃nm,k=bI nm:=by
 unfold cV at h;rw[aN h1,aN h2]at h;obtain⟨e,he,_⟩:=lO.mp h;have:=OZ he;exact⟨e.1,(cK this).symm⟩
structure Met(s:St)(P Q:Nat)(hs:List (Int×Nat))(Bs:List (Int×Nat))(i:Nat):Prop where
 nd:(Bs.map (·.1)).Nodup
 of: ∀e∈Bs,∃k,s.of.lookup k=some e.1∧cV P Q hs k=some e.2
 len:Bs.length≤i
abbrev kQ(A:Ad)(s:St)(H:PH)(Bs:List (Int×Nat)):PH:=H.set A.O (.dict (dF s.of) true)++[.dict (fA Bs) false]
theorem M6(h:Rep A F s H)(I:cX s T x y z P Q hs)(hT:T≤9)(hn:H.length=n)(M:Met s P Q hs Bs i)(hi:i≤100){e:PK×Int}(me:e∈s.of){o8 o9:Option PV}:
  ∃tI v8 v9,BJ (aG P0 (m+8)) (jW A n (some (bL [3,-1,0])) (some e.1.val) o8 o9) (kQ A s H Bs)= .ok (.next,jW A n (some (bL [3,-1,0])) (some e.1.val) v8 v9) (kQ A s H tI)∧Met s P Q hs tI (i+1)∧e.2∈tI.map (·.1)∧(∀w∈Bs.map (·.1),w∈tI.map (·.1)):=by
 refine bQ fun G_ aQ=>?_;obtain⟨k,j⟩:=e;have BX:s.of.lookup k=some j:=mem_lookup I.nd me;obtain⟨b,hb⟩:=vU.mp (I.o2 k (by unfold fo;rw[BX];rfl));obtain⟨j2,r,t,q1,q2,q3,q4,q5,q6,q7⟩:=holder I.i0 hb (by unfold fo;rw[BX];rfl);rw[BX]at q1;injection q1 with q1;subst q1;obtain⟨l,hl⟩:=I.tk _ me;have hl:k= .tup l:=hl;refine aQ ?_;have oD:A.O≠A.D:=rH h (i:=7) (j:=10) rfl rfl (by decide);have oR:A.O≠A.R:=rH h (i:=7) (j:=5) rfl rfl (by decide);have hp:=h.hp (by have:=I.lt;simp only[aJ];exact aX 9596599438496948795232832455953 rfl this hT);have ht:=h.mU q3 q4;have hO:=h.of;have Lm:(H.set A.O (.dict (dF s.of) true)).length=n:=gM hn;have xp:Hp (kQ A s H Bs) s.th.length (eB 1 s.th):=Hp.app ⟨eQ hp.i (rH h (i:=7) (j:=4) rfl rfl (by decide)),eQ hp.n (rH h (i:=7) (j:=0) rfl rfl (by decide)),eQ hp.d (rH h (i:=7) (j:=1) rfl rfl (by decide)),hp.k,hp.s⟩;have hf:=h.fld q3;have Iq:=h.row (lC q2).1;have xf:(kQ A s H Bs)[t.fl]?=some (.list (r.items.map .int)):=by rw[←q5];exact bS (eQ hf (fT hO hf (by simp)))
 have xr:(kQ A s H Bs)[r.a]?=some (.list (r.items.map .int)):=bS (eQ Iq (fT hO Iq (by simp)));have xB:(kQ A s H Bs)[A.B]?=some (.dict (mI A s.next) false):=bS (eQ h.book h.bo.symm);have xD:(kQ A s H Bs)[A.D]?=some (.dict (lT hs) false):=by have:=h.hand;rw[I.h]at this;exact bS (eQ this oD)
 have xR:(kQ A s H Bs)[A.R]?=some (.list [gB x (P+1) y (Q+1) z]):=by have:=h.root;rw[I.v]at this;exact bS (eQ this oR)
 have xb:(kQ A s H Bs)[n]?=some (.dict (fA Bs) false):=bG (i:=0) Lm rfl;have kv:keyOf k.val=some k:=by
  rw[hl];exact bN (fF PK.tup) (parts_of l)
 have ho:nF (.ref A.O) k.val (kQ A s H Bs)= .ok (.int j) (kQ A s H Bs):=CX (bS (qC hO)) kv (by rw[hl];exact rG I.tk l) (by rw[sU,BX];rfl);have hr:nF (.ref A.W) (.int j) (kQ A s H Bs)= .ok (.ref r.a) (kQ A s H Bs):=CX (bS (eQ h.zS h.ow)) rfl (vD _ _) (by rw[zR,q2];rfl);have he:aG P0 (m+8) (.aE (.ref 360)) [.ref 5,.int (b+1)] (kQ A s H Bs)= .ok (.ref t.fl) (kQ A s H Bs):=pS (m:=m+6) xp (Th.app ⟨ht.g,eQ ht.i (fT hO ht.i (by simp)),eQ ht.n (fT hO ht.n (by simp))⟩);have ha:yZ (aG P0 (m+8)) (jW A n (some (bL [3,-1,0])) (some k.val) o8 o9) (kQ A s H Bs)= .ok (bH (b+1)) (kQ A s H Bs):=by
  have dD:cZ (lT hs) k=true:=by rw[hl];exact AB (GC hs) l
  refine bQ fun G_ aQ=>?_;by_cases h1:k=K1
  ·subst h1
   rw[GL]at hb;injection hb with hb;subst hb;refine aQ ?_;exact Cb xD kv dD (Hl UN) (qU (m:=m+5) [1] (by decide)) (zC (m:=m+5) (fun J=>read1 (m:=m+5) (bS xR)) (fun _=>rfl))
  by_cases h2:k=dX
  ·subst h2
   rw[rB]at hb;injection hb with hb;subst hb;refine aQ ?_;exact Cb xD kv dD (Hl UO) (qU (m:=m+5) [2,1] (by decide)) (zC (m:=m+5) (fun J=>Op (m:=m+5) (bS xR)) (fun _=>rfl))
  obtain⟨nm,rfl⟩:=Z8 hb h1 h2;refine aQ ?_;exact Xq xD kv dD (by rw[FP P Q,hb];rfl)
 refine bQ fun G_ aQ=>?_;by_cases hj:j∈Bs.map (·.1)
 ·obtain⟨⟨j',b'⟩,mb,rfl⟩:=dY.mp hj
  obtain⟨k',g1,g2⟩:=M.of _ mb;have:b'=b:=by
   have:=I.i0.c k' k j' g1 BX;rw[g2,hb]at this;injection this
  subst this;refine aQ ?_;exact⟨Bs,_,_,Et xp.i xp.n xB ha ho hr he xf xr xb (qd xb (RC _ _) (cC (by rw[cR];have:=M.len;simp only[aJ];exact aX 145130428343217885286563985 rfl this hi)) (RD M.nd mb)),⟨M.nd,M.of,by have:=M.len;exact aX 271483852123439248 rfl this⟩,hj,fun w hw=>hw⟩
 ·obtain⟨e1,e2⟩:=Cl (b:=b) hj
  refine aQ ?_;refine⟨Bs++[(j,b)],_,_,Et xp.i xp.n xB ha ho hr he xf xr xb (qe xb (RC _ _) (cC (by rw[cR];have:=M.len;simp only[aJ];exact aX 145130428343217885286563985 rfl this hi)) e1 (by rw[e2];exact eE (i:=0) eG Lm)),⟨?_,?_,?_⟩,?_,?_⟩
  ·rw[kJ];exact qO.mpr ⟨M.nd,by simp,fun a m1 c m2 e=>by
    have m3:c=j:=eZ.mp m2;subst m3;subst e;exact hj m1⟩
  ·intro w hw
   rcases oG.mp hw with hw|hw
   ·exact M.of w hw
   ·rw[eZ.mp hw]
    exact⟨k,BX,hb⟩
  ·rw[eO,pD]
   have:=M.len;exact aX 1111997858297607619856 rfl this
  ·rw[kJ]
   exact tS _ (eZ.mpr rfl)
  ·intro w hw
   rw[kJ];exact JN _ hw
theorem Eu(h:Rep A F s H)(I:cX s T x y z P Q hs)(hT:T≤9)(hn:H.length=n): ∀(k i fu:Nat) (Bs:List (Int×Nat)) (o7 o8 o9:Option PV),Met s P Q hs Bs i→i+k=s.of.length→k<fu→
  ∃tI v7 v8 v9,gI (.keys A.O ((dF s.of).map fun e=>e.1.val)) (jJ (.loc 7)) (BJ (aG P0 (m+8))) fu i (jW A n (some (bL [3,-1,0])) o7 o8 o9) (kQ A s H Bs)= .ok (.next,jW A n (some (bL [3,-1,0])) v7 v8 v9) (kQ A s H tI)∧Met s P Q hs tI s.of.length∧(∀e∈s.of.drop i,e.2∈tI.map (·.1))∧(∀w∈Bs.map (·.1),w∈tI.map (·.1))
 |k,i,0,Bs,o7,o8,o9,M,e,l=>by exact jE (aS 4222129516052502 rfl l)
 |0,i,fu+1,Bs,o7,o8,o9,M,e,l=>by
  have ei:i=s.of.length:=by exact fE (aX 271482617759678608 rfl e) (aX 270356735034802320 rfl e)
  refine⟨Bs,o7,o8,o9,zA (o:=none) ?_ rfl,ei▸M,fun e me=>?_,fun w hw=>hw⟩
  ·show some (((dF s.of).map fun e=>e.1.val)[i]?)=_
   rw[jN (by rw[cR,xJ];exact aX 270356735034802320 rfl e)]
  ·rw[OV (by exact aX 66007513317520 rfl ei)]at me
   exact nomatch me
 |k+1,i,fu+1,Bs,o7,o8,o9,M,e,l=>by
  have hi:i<s.of.length:=by exact dM 278000487534013071505 rfl e
  refine bQ fun G_ aQ=>?_;obtain⟨B1,v8,v9,c,M1,m1,x5⟩:=M6 (m:=m) h I hT hn M (U2 20608872677616778224794526957355437457552 rfl e I.lo hT) (JI hi) (o8:=o8) (o9:=o9);obtain⟨B2,w7,w8,w9,c2,M2,m2,Qb⟩:=Eu h I hT hn k (i+1) fu B1 (some s.of[i].1.val) v8 v9 M1 (fE (dM 1170854186357343937714202896 rfl e) (dM 1161182853659469585528946832 rfl e)) (aX 1107967982703061647505 rfl l);refine aQ ?_;refine⟨B2,w7,w8,w9,sN (v:=s.of[i].1.val) (o:=some s.of[i].1.val) ?_ rfl rfl c (nU c2),M2,?_,fun w hw=>Qb w (x5 w hw)⟩
  ·show some (((dF s.of).map fun e=>e.1.val)[i]?)=_
   rw[fW,dF,fW,fZ hi];rfl
  ·intro e me
   rw[AQ hi]at me;rcases dJ.mp me with rfl|me
   ·exact Qb _ m1
   ·exact m2 e me
end
section
variable{m n:Nat}{H Z:PH}{F:List (Nat×PO)}{s:St}{T:Nat}{A:Ad}{P Q:Nat}{hs:List (Int×Nat)}{x y z:Int}{Bs:List (Int×Nat)}{j:Int}{b:Nat}{o7 o8:Option PV}
theorem M7(h:Rep A F s H)(I:cX s T x y z P Q hs)(hT:T≤9)(hZ: ∃J,Z=H++J)(hb:Z[n]?=some (.dict (fA Bs) true))(M:Met s P Q hs Bs i){e:Int×Nat}(me:e∈Bs):
  ∃J,BK (aG P0 (m+1)) (jW A n (some (bL [3,-1,0])) o7 o8 (some (.int e.1))) Z= .ok (.next,jW A n (some (bL [3,-1,0])) o7 o8 (some (.int e.1))) (Z++J):=by
 refine bQ fun G_ aQ=>?_;obtain⟨j,b⟩:=e;obtain⟨k,hk,hh⟩:=M.of _ me;obtain⟨j2,r,t,q1,q2,q3,q4,q5,q6,q7⟩:=holder I.i0 hh (by unfold fo;rw[hk];rfl);rw[hk]at q1;injection q1 with q1;subst q1;obtain⟨J,rfl⟩:=hZ;have hp:=(h.app (J:=J)).hp (by have:=I.lt;simp only[aJ];exact aX 9596599438496948795232832455953 rfl this hT);have ht:=(h.app (J:=J)).mU q3 q4;obtain⟨nz,Z6⟩: ∃nz,(H++J).length=nz:=⟨_,rfl⟩;refine aQ ?_;exact⟨_,M3 Z6 hp.i hp.n (h.app (J:=J)).book (h.app (J:=J)).of hb (RC _ _) (RD M.nd me) (fun J2=>xT (m:=m) hp.app ht.app) ht.i ht.n q6 (by have:=I.lo;simp only[aJ];exact aX 2342919784789294139461140624 rfl this hT)⟩
theorem Ew(h:Rep A F s H)(I:cX s T x y z P Q hs)(hT:T≤9){i0:Nat}(M:Met s P Q hs Bs i0): ∀(k i fu:Nat) (Z:PH) (o9:Option PV),(∃J,Z=H++J)→Z[n]?=some (.dict (fA Bs) true)→i+k=Bs.length→k<fu→
  ∃J v9,gI (.keys n ((fA Bs).map fun e=>e.1.val)) (jJ (.loc 9)) (BK (aG P0 (m+1))) fu i (jW A n (some (bL [3,-1,0])) o7 o8 o9) Z= .ok (.next,jW A n (some (bL [3,-1,0])) o7 o8 v9) (Z++J)
 |k,i,0,Z,o9,hZ,hb,e,l=>by exact jE (aS 4222129516052502 rfl l)
 |0,i,fu+1,Z,o9,hZ,hb,e,l=>by
  refine⟨[],o9,?_⟩;rw[eL];refine zA (o:=none) ?_ rfl;show some (((fA Bs).map fun e=>e.1.val)[i]?)=_;rw[jN (by rw[cR,cR];exact aX 270356735034802320 rfl e)]
 |k+1,i,fu+1,Z,o9,hZ,hb,e,l=>by
  have hi:i<Bs.length:=by exact dM 278000487534013071505 rfl e
  obtain⟨J1,c⟩:=M7 (m:=m) (o7:=o7) (o8:=o8) h I hT hZ hb M (JI hi);obtain⟨J2,v9,c2⟩:=Ew h I hT M k (i+1) fu (Z++J1) (some (.int Bs[i].1)) (by obtain⟨J,rfl⟩:=hZ;exact⟨J++J1,by rw[cM]⟩) (bS hb) (fE (dM 1170854186357343937714202896 rfl e) (dM 1161182853659469585528946832 rfl e)) (aX 1107967982703061647505 rfl l);refine⟨J1++J2,v9,sN (v:= .int Bs[i].1) (o:=some (.int Bs[i].1)) ?_ rfl rfl c (nU (by rw[c2,cM]))⟩;show some (((fA Bs).map fun e=>e.1.val)[i]?)=_;rw[fW,fW,fZ hi];rfl
theorem Ly(I:cX s T x y z P Q hs){i:Nat}(M:Met s P Q hs Bs i):(Bs.map (·.2)).Nodup:=by
 have key: ∀(l:List (Int×Nat)),(l.map (·.1)).Nodup→(∀e∈l,∃k,s.of.lookup k=some e.1∧cV P Q hs k=some e.2)→(l.map (·.2)).Nodup:=by
  intro l
  induction l with
  |nil=>intro _ _;exact mD|cons e r ih=>
   intro nd hm;have jZ:=hA.mp nd;refine hA.mpr ⟨fun m=>?_,ih jZ.2 (fun w hw=>hm w (tT _ hw))⟩;obtain⟨w,hw,ew⟩:=dY.mp m;obtain⟨k,a1,a2⟩:=hm e (tU ..);obtain⟨k',b1,b2⟩:=hm w (tT _ hw);rw[ew]at b2;have:=I.i0.b k k' e.1 w.1 e.2 a1 b1 a2 b2;exact jZ.1 (dY.mpr ⟨w,hw,this.symm⟩)
 exact key Bs M.nd M.of
theorem lg(I:cX s T x y z P Q hs){i:Nat}(M:Met s P Q hs Bs i)(all: ∀e∈s.of,e.2∈Bs.map (·.1)):((fP s.th.length).filter fun i=>((s.th[i]?).map (·.live)).getD false).length=Bs.length:=by
 rw[←cR (f:=fun e:Int×Nat=>e.2) (as:=Bs)];refine aCR ((List.perm_ext_iff_of_nodup (yH EB List.nodup_range) (Ly I M)).mpr fun b=>?_);rw[EG,Ap];constructor
 ·rintro⟨hb,hl⟩
  have hg:s.th[b]?=some s.th[b]:=fZ hb;rw[hg]at hl;refine bQ fun G_ aQ=>?_;obtain⟨k,j,a1,a2⟩:=I.i0.d b s.th[b].items s.th[b].st (by unfold ft;rw[hg,pE,(show s.th[b].live=true from hl)]);have mem: ∃e∈s.of,e.2=j:=by
   have:=HB a1;rw[DZ]at this;obtain⟨e,me,ee⟩:=dY.mp this;exact⟨e,me,ee⟩
  obtain⟨e,me,rfl⟩:=mem;obtain⟨w,hw,ew⟩:=dY.mp (all e me);obtain⟨k',b1,b2⟩:=M.of w hw;have:=I.i0.c k k' e.2 a1 (by rw[←ew];exact b1);rw[a2,b2]at this;injection this with this;refine aQ ?_;exact dY.mpr ⟨w,hw,this.symm⟩
 ·intro hm
  refine bQ fun G_ aQ=>?_;obtain⟨w,hw,rfl⟩:=dY.mp hm;obtain⟨k,b1,b2⟩:=M.of w hw;obtain⟨j2,r,t,q1,q2,q3,q4,q5,q6,q7⟩:=holder I.i0 b2 (by unfold fo;rw[b1];rfl);refine aQ ?_;exact⟨(eF.mp q3).1,by rw[q3];exact q4⟩
end
section
variable{m n:Nat}{H K J Z:PH}{F:List (Nat×PO)}{s:St}{T:Nat}{A:Ad}{P Q q:Nat}{hs:List (Int×Nat)}{x y z:Int}{Bs:List (Int×Nat)}
theorem Dy: ∀(ns acc:List Int),(acc++ns).Nodup→ns.foldl PY acc=acc++ns
 | [],acc,_=>by rw[eL];rfl
 |k::r,acc,h=>by
  have nk:acc.any (· ==k)=false:=by
   rw[AP];intro a m e;have e:a=k:=beq_iff_eq.mp e;subst e;exact(qO.mp h).2.2 a m a (tU ..) rfl
  rw[List.foldl_cons];rw[(show PY acc k=acc++[k] by unfold PY;rw[nk];rfl),Dy r (acc++[k]) (by rw[cM];exact h),cM];rfl
theorem qf{es:cA}{lk:Bool}{ns:List Int}(g:H[q]?=some (.dict es lk))(s:intsOf (es.map (·.2))=some ns)(l:ns.length≤100)(nd:ns.Nodup):zT (.ref q) H= .ok (.int ns.length) H:=by
 have:distinct ns=ns.length:=by unfold distinct;rw[Dy ns [] (by simpa using nd)];rfl
 show ob (dictAt H (.ref q)) _=_;exact cG (sK g) (cG s (fL (cC l) (by rw[this])))
theorem pt{v:PV}{k:Nat}(g:(K++J)[q]?=some (.list [v]))(hk:k≤1000)(l:K.length=n):binOp .Mult (.ref q) (.int k) (K++J)= .ok (.ref (n+J.length)) (K++(J++[.list (cU k v)])):=by
 have e:IQ [v] k=true:=by
  unfold IQ;rw[(cC (by exact aS 125894680 rfl)),(cC (by simp only[aJ];exact aS 69456906300896116888 rfl hk))];rfl
 show ob (listAt (K++J) (.ref q)) _=_;refine cG (gL g) (fL e ?_);exact uW (cC (by rw[AY];exact bW hk (by decide))) l
theorem td{a b c:Nat}(h1:H[a]?=some (.list (cU c iC)))(h2:H[b]?=some (.list (cU c iC))):xP H (.ref a) (.ref b)=some true:=by
 have e1: ∀c,rP (toPy H 5) (cU c iC)=some (cU c (.tuple [.str (aA "buffer"),.str (aA "")])):=by
  intro c;induction c with
  |zero=>rfl|succ c ih=>simp only[AZ,rP,(show toPy H 5 iC=some (.tuple [.str (aA "buffer"),.str (aA "")]) by kernel_rfl!),ih]
 have e3: ∀c,PU (cU c (.tuple [.str (aA "buffer"),.str (aA "")])) (cU c (.tuple [.str (aA "buffer"),.str (aA "")]))=true:=by
  intro c;induction c with
  |zero=>rfl|succ c ih=>simp only[AZ,PU,(show Bk (.tuple [.str (aA "buffer"),.str (aA "")]) (.tuple [.str (aA "buffer"),.str (aA "")])=true by decide+kernel),ih,Bool.and_self]
 have t1:toPy H 6 (.ref a)=some (.list (cU c (.tuple [.str (aA "buffer"),.str (aA "")]))):=orr rfl (orr rfl (eW (gL h1) (by rw[e1];rfl)));exact orr rfl (orr rfl (eW t1 (by rw[(show toPy H 6 (.ref b)=some (.list (cU c (.tuple [.str (aA "buffer"),.str (aA "")])))from orr rfl (orr rfl (eW (gL h2) (by rw[e1];rfl))))];exact bN some (e3 c))))
theorem M9(h:Rep A F s H)(I:cX s T x y z P Q hs)(hT:T≤9)(hn:H.length=n): ∃Bs v7 v8 v9,kE (jJ (.loc 7)) (lF (bC (aD 3) (aB (sv "of")))) BJ (aG P0 (m+8)) (jW A n (some (bL [3,-1,0])) none none none) (H++[.dict [] false])= .ok (.next,jW A n (some (bL [3,-1,0])) v7 v8 v9) (H++[.dict (fA Bs) false])∧Met s P Q hs Bs s.of.length∧(∀e∈s.of,e.2∈Bs.map (·.1)):=by
 refine bQ fun G_ aQ=>?_;obtain⟨Bs,v7,v8,v9,c,M,m1,_⟩:=Eu (m:=m) h I hT hn s.of.length 0 9000 [] none none none ⟨mD,fun e me=>(nomatch me),fQ _⟩ (fE (aS 128916652304 rfl) (aS 128916160656 rfl)) (aX 2342919784789294139592212625 rfl I.lo hT);refine aQ ?_;refine⟨Bs,v7,v8,v9,?_,M,fun e me=>m1 e (by rw[OW];exact me)⟩;have hO:=h.of;have xO:(H++[PO.dict [] false])[A.O]?=some (.dict (dF s.of) false):=bS hO;apply IE
 ·apply ND
  ·refine Om (rK rfl) oB (pL (bS h.book))
  ·exact VW xO
 ·exact UY xO (Py eG hO)
 ·exact c
 ·refine TD (bS (qC hO)) ?_
  rw[lI _ _ (by rw[dS];exact hU hO),vQ,sZ hO]
theorem M8{o7 o8 o9:Option PV}(h:Rep A F s H)(I:cX s T x y z P Q hs)(hT:T≤9)(hn:H.length=n){i:Nat}(M:Met s P Q hs Bs i)(hi:i≤1000): ∃J v9,kE (jJ (.loc 9)) (lF (aD 6)) BK (aG P0 (m+1)) (jW A n (some (bL [3,-1,0])) o7 o8 o9) (H++[.dict (fA Bs) false])= .ok (.next,jW A n (some (bL [3,-1,0])) o7 o8 v9) (H++([.dict (fA Bs) false]++J)):=by
 have x1:(H++[PO.dict (fA Bs) false])[n]?=some (.dict (fA Bs) false):=bG (i:=0) hn rfl;have x2:(H++[PO.dict (fA Bs) true])[n]?=some (.dict (fA Bs) true):=bG (i:=0) hn rfl;obtain⟨J,v9,c⟩:=Ew (m:=m) (n:=n) (o7:=o7) (o8:=o8) h I hT M Bs.length 0 9000 (H++[.dict (fA Bs) true]) o9 ⟨_,rfl⟩ x2 (fE (aS 128916652304 rfl) (aS 128916160656 rfl)) (aX 145661694572540720504176785 rfl M.len hi);refine⟨J,v9,?_⟩;apply IE
 ·apply ND
  ·exact rK rfl
  ·exact VW x1
 ·exact UY x1 (eE (i:=0) eG hn)
 ·exact c
 ·refine TD (bS x2) ?_
  rw[cM];exact eE (i:=0) eG hn
theorem M5(h:Rep A F s H)(I:cX s T x y z P Q hs)(hT:T≤9): ∃H',aG P0 (m+9) (.aE (.ref 547)) [.ref 5,spot A.R [0],.ref A.D,.ref A.B,.ref A.N] H= .ok (.bool true) H':=by
 refine bQ fun G_ aQ=>?_;obtain⟨n,hn⟩: ∃n,H.length=n:=⟨_,rfl⟩;have lo:=I.lo;have lt:=I.lt;have n1:=M4 (m:=m+2) (o6:=none) (o7:=none) (o8:=none) (o9:=none) (h.app (J:=[])) I.v I.n;obtain⟨Bs,v7,v8,v9,n2,M,all⟩:=M9 (m:=m) h I hT hn;obtain⟨J,w9,n3⟩:=M8 (m:=m+7) (o7:=v7) (o8:=v8) (o9:=v9) h I hT hn M (aX 2342919784789294138543636624 rfl lo hT);have ml:=M.len;have cnt:=lg I M all;obtain⟨J2,ql,n4,n5⟩:=jx (m:=m+7) (h.app (J:=[.dict (fA Bs) false]++J)) (aX 9152030409333180236038289 rfl lt hT);rw[cnt]at n5;rw[cM]at n4 n5;have x1: ∀J,(H++([PO.dict (fA Bs) false]++J))[n]?=some (.dict (fA Bs) false):=fun J=>bG (i:=0) hn rfl;have iv:intsOf ((fA Bs).map (·.2))=some (Bs.map fun e=>((e.2:Nat):Int)+1):=by
  rw[show(fA Bs).map (·.2)=(Bs.map fun e=>((e.2:Nat):Int)+1).map PV.int by rw[tR,tR];rfl];exact LT _
 have nd:(Bs.map fun e=>((e.2:Nat):Int)+1).Nodup:=by
  have:=Ly I M;rw[show(Bs.map fun e=>((e.2:Nat):Int)+1)=(Bs.map (·.2)).map fun b=>((b:Nat):Int)+1 by rw[tR];rfl];exact aCN _ (fun a b W1 e=>W1 (fE (aX 1107967982703080521872 rfl e) (aX 1107958975521007747216 rfl e))) this
 have x0:(H++[PO.dict (fA Bs) false])[n]?=some (.dict (fA Bs) false):=bG (i:=0) hn rfl;have dl:decide ((fA Bs).length≤aJ)=true:=cC (by rw[cR];simp only[aJ];exact dM 4913498526596421891614703465070736 rfl ml lo hT);have sl:zT (.ref n) (H++[.dict (fA Bs) false])= .ok (.int (Bs.length:Nat)) (H++[.dict (fA Bs) false]):=by
  rw[qf x0 iv (by rw[cR];exact dM 4913498526596421891614702429601936 rfl ml lo hT) nd,cR]
 have lA:fX (.ref n) (H++[.dict (fA Bs) false])= .ok (.int (Bs.length:Nat)) (H++[.dict (fA Bs) false]):=by
  rw[VX x0 dl,cR]
 have lf:decide (((Bs.length:Nat):Int)<(Bs.length:Nat))=false:=iW (aS 31473820 rfl);have hp:=h.hp (by simp only[aJ];exact aX 9596599438496948795232832455953 rfl lt hT);have⟨p1,p2,_,_,_⟩:=hp;have xL: ∀J',(H++([PO.dict (fA Bs) false]++J++J2++J'))[n]?=some (.dict (fA Bs) false):=fun J'=>by rw[cM,cM];exact x1 _
 obtain⟨L,hL⟩: ∃L,L=[PO.dict (fA Bs) false]++J++J2:=⟨_,rfl⟩;rw[←hL]at n4 n5;have lB:fX (.ref n) (H++(L++[.list [iC]]))= .ok (.int (Bs.length:Nat)) (H++(L++[.list [iC]])):=by
  rw[VX (by rw[hL];exact xL _) dl,cR]
 have cq:dE .Eq (.ref ql) (.ref (n+(L++[PO.list [iC]]).length)) (H++(L++[.list [iC]]++[.list (cU Bs.length iC)]))= .ok true (H++(L++[.list [iC]]++[.list (cU Bs.length iC)])):=by
  refine qF (td (c:=Bs.length) ?_ (bG hn (by rw[yI (fQ _),yQ];rfl)));rw[cM,←cM];exact bS n5
 clear I h M all x1 xL iv nd cnt x0 hp;refine aQ ?_;refine⟨H++(L++[.list [iC]]++[.list (cU Bs.length iC)]),?_⟩;refine start ?_;apply cP (B:=RA) rfl rfl hn rfl;unfold RA;dsimp only[Gh];walk_at "nrm"
 repeat(first
  |((with_reducible change kE (jJ (Tg.loc 5)) _ _ _ _ _=_);exact n1)|((with_reducible change kE (jJ (Tg.loc 7)) _ _ _ _ _=_);exact n2)|((with_reducible change kE (jJ (Tg.loc 9)) _ _ _ _ _=_);exact n3)|((with_reducible change aG _ _ (PV.aE (aR 372)) _ _=_);exact n4)|((with_reducible change zT _ _=_);exact sl)|((with_reducible change fX _ _=_);first|exact lA|exact lB)|((with_reducible change binOp vT _ _ _=_);exact(pt (k:=Bs.length) (bG hn (by rw[yI (fQ _),yQ];rfl)) (dM 4913498526596421891614702547566736 rfl ml lo hT) hn))|((with_reducible change dE bO (PV.ref _) _ _=_);exact cq)|with_reducible apply HZ|walk_at "m1")
end
section
variable{m n:Nat}{H K J Z:PH}{F:List (Nat×PO)}{s:St}{T:Nat}{A:Ad}{P Q q:Nat}{hs:List (Int×Nat)}{x y z:Int}
abbrev CM(A:Ad)(v0 v1 v4 v5 v6 v7:Option PV):aW:=[v0,v1,some (.ref 0),some (.ref 5),v4,v5,v6,v7,some (spot A.R [0]),some (.ref A.B),some (.ref A.N),some (.ref A.D),none,none,none,none,none,none,none,none,none,none]
theorem aAN{v0 v1 v4 v5 v6 v7:Option PV}(h:Rep A ((0,.cell (some (.ref 3)))::F) s H)(I:cX s T x y z P Q hs)(hT:T≤8)(hk:s.k≤20+14*T)(hl:A.nums.length≤40):
  ∃H' s' x' y' z' P' Q' hs',HA (aG P0 (m+14)) (CM A v0 v1 v4 v5 v6 v7) H= .ok (.next,CM A v0 v1 v4 v5 v6 v7) H'∧Rep A ((0,.cell (some (.ref 3)))::F) s' H'∧cX s' (T+1) x' y' z' P' Q' hs'∧s'.k≤20+14*(T+1):=by
 refine bQ fun G_ aQ=>?_;obtain⟨H',c,s',x',y',z',P',Q',hs',r,I',k'⟩:=u5 (m:=m) h I hT hk hl;refine aQ ?_;refine⟨H',s',x',y',z',P',Q',hs',?_,r,I',by exact dM 10257520694349242332280671405926521012368 rfl k' hk⟩;have k0:=h.tmp (a:=0) (o:= .cell (some (.ref 3))) (by simp);unfold HA
 repeat(first
  |((with_reducible change aG _ _ (PV.aE (aR 540)) _ _=_);exact c)|walk_at "m1")
theorem Qi{v0 v1 v5 v6 v7:Option PV}(hl:A.nums.length≤40)(N:Nat)(hN:N≤8): ∀(k i fu:Nat) (s:St) (H:PH) (x y z:Int) (P Q:Nat) (hs:List (Int×Nat)) (v4:Option PV),Rep A ((0,.cell (some (.ref 3)))::F) s H→cX s i x y z P Q hs→s.k≤20+14*i→i+k=N→k<fu→
  ∃H' s' x' y' z' P' Q' hs' IS,gI (.seq ((fP N).map fun(i:Nat)=>PV.int (i:Int))) (jJ (.loc 4)) (HA (aG P0 (m+14))) fu i (CM A v0 v1 v4 v5 v6 v7) H= .ok (.next,CM A v0 v1 IS v5 v6 v7) H'∧Rep A ((0,.cell (some (.ref 3)))::F) s' H'∧cX s' N x' y' z' P' Q' hs'
 |k,i,0,s,H,x,y,z,P,Q,hs,v4,h,I,hk,e,l=>by exact jE (aS 4222129516052502 rfl l)
 |0,i,fu+1,s,H,x,y,z,P,Q,hs,v4,h,I,hk,e,l=>by
  have ei:i=N:=by exact fE (aX 271482617759678608 rfl e) (aX 270356735034802320 rfl e)
  refine⟨H,s,x,y,z,P,Q,hs,v4,zA (o:=none) ?_ rfl,h,ei▸I⟩;show some (((fP N).map fun(i:Nat)=>PV.int (i:Int))[i]?)=_;rw[jN (by rw[cR,EF];exact aX 270356735034802320 rfl e)]
 |k+1,i,fu+1,s,H,x,y,z,P,Q,hs,v4,h,I,hk,e,l=>by
  obtain⟨H1,s1,x1,y1,z1,P1,Q1,ax,c,r1,I1,k1⟩:=aAN (m:=m) (v0:=v0) (v1:=v1) (v4:=some (.int (i:Int))) (v5:=v5) (v6:=v6) (v7:=v7) h I (dM 9362083297956647977436053648 rfl e hN) hk hl;obtain⟨H2,s2,x2,y2,z2,P2,Q2,ay,IS,c2,r2,I2⟩:=Qi hl N hN k (i+1) fu s1 H1 x1 y1 z1 P1 Q1 ax (some (.int (i:Int))) r1 I1 k1 (fE (dM 1170854186357343937714202896 rfl e) (dM 1161182853659469585528946832 rfl e)) (aX 1107967982703061647505 rfl l);refine⟨H2,s2,x2,y2,z2,P2,Q2,ay,IS,sN (v:= .int (i:Int)) (o:=some (.int (i:Int))) ?_ rfl rfl c (nU c2),r2,I2⟩;show some (((fP N).map fun(i:Nat)=>PV.int (i:Int))[i]?)=_;rw[fW,PD (by exact dM 278000487534013071505 rfl e)];rfl
end
section
variable{m n k:Nat}{H K J Z:PH}{nums:List Int}{u w:Nat}
noncomputable def numsOf(ns:List Int):List Int:=(ns.take 40).map fun x=>tN x.natAbs 2147483647
theorem Do{r:Nat}{l:List Int}{C:dI}(h:H[r]?=some (.list (l.map .int))): ∀(k i f:Nat) (acc:List PV),i+k=l.length→k<f→acc.length+k≤aJ→
  gA (.live r) (fun v H=>bV yR (p1 pI (aD 1)) (aB (.int 2147483647)) C [none,some v,none] H) f i acc H= .ok (acc++((l.drop i).map fun x=>PV.int (tN x.natAbs 2147483647))) H
 |k,i,0,acc,e,q,g=>by exact jE (aS 4222129516052502 rfl q)
 |0,i,f+1,acc,e,q,g=>by
  have z:gR (.live r) i H=some none:=by rw[o_at h,fW,jN (by exact aX 270356735034802320 rfl e)];rfl
  rw[OV (by exact aX 270356735034802320 rfl e),PE,eL,gA,z]
 |k+1,i,f+1,acc,e,q,g=>by
  have hi:i<l.length:=by exact dM 278000487534013071505 rfl e
  have z:gR (.live r) i H=some (some (.int l[i])):=by rw[o_at h,fW,fZ hi];rfl
  have y:=Do (C:=C) h k (i+1) f (acc++[.int (tN l[i].natAbs 2147483647)]) (fE (dM 1170854186357343937714202896 rfl e) (dM 1161182853659469585528946832 rfl e)) (aX 1107967982703061647505 rfl q) (by rw[eO];simp only[AX,EE];exact aX 5146874442199420844330348782567827728 rfl g);have el:bV yR (p1 pI (aD 1)) (aB (.int 2147483647)) C [none,some (.int l[i]),none] H= .ok (.int (tN l[i].natAbs 2147483647)) H:=MZ (WT (rK rfl) rfl) oB (VY (by decide));rw[gA,z];simp only[aV (show acc.length<aJ by exact aX 299587522295735592740257937 rfl g)];rw[el,Out.eV,y,AQ hi,dU,cM];rfl
theorem Dn{d:Nat}(hl:nums.length≤40): ∀(j i f k:Nat) (acc:List Int) (H:PH),H[3]?=some (.list [.ref 2,.int k])→H[2]?=some (.list (nums.map .int))→H[0]?=some (.cell (some (.ref 3)))→i+j=d→j<f→k+j≤900→acc.length+j≤100→
  ∃l:List Int,l.length=acc.length+j∧gA (.seq ((fP d).map fun(i:Nat)=>PV.int (i:Int))) (fun v H=>aZ (aB (.aE (.ref 435))) (aC (cL 3) (aC (aB (.int 9)) aH)) (aG P0 (m+1)) [none,some v,none,some (.ref 0)] H) f i (acc.map .int) H= .ok (l.map .int) (H.set 3 (.list [.ref 2,.int (k+j:Nat)]))
 |j,i,0,k,acc,H,h1,h2,h3,e,q,g,ga=>by exact jE (aS 4222129516052502 rfl q)
 |0,i,f+1,k,acc,H,h1,h2,h3,e,q,g,ga=>by
  have z:gR (.seq ((fP d).map fun(i:Nat)=>PV.int (i:Int))) i H=some none:=by
   show some (((fP d).map fun(i:Nat)=>PV.int (i:Int))[i]?)=_;rw[jN (by rw[cR,EF];exact aX 270356735034802320 rfl e)]
  refine⟨acc,rfl,?_⟩;rw[gA,z,show k+0=k from rfl,sZ h1]
 |j+1,i,f+1,k,acc,H,h1,h2,h3,e,q,g,ga=>by
  have z:gR (.seq ((fP d).map fun(i:Nat)=>PV.int (i:Int))) i H=some (some (.int (i:Int))):=by
   show some (((fP d).map fun(i:Nat)=>PV.int (i:Int))[i]?)=_;rw[fW,PD (show i<d by exact dM 278000487534013071505 rfl e)];rfl
  have dr:=KK (m:=m) (size:=9) h1 h2 (by decide) (by decide) (aX 291205321788641971568443536 rfl g) hl;have el:aZ (aB (.aE (.ref 435))) (aC (cL 3) (aC (aB (.int 9)) aH)) (aG P0 (m+1)) [none,some (.int (i:Int)),none,some (.ref 0)] H= .ok (.int (bP nums k 9)) (H.set 3 (.list [.ref 2,.int (k+1:Nat)])):=
   NA oB (sY (WS rfl h3) (sY oB NC)) dr
  obtain⟨l,ll,y⟩:=Dn (d:=d) hl j (i+1) f (k+1) (acc++[bP nums k 9]) (H.set 3 (.list [.ref 2,.int (k+1:Nat)])) (qC h1) (eQ h2 (by decide)) (eQ h3 (by decide)) (fE (dM 1170854186357343937714202896 rfl e) (dM 1161182853659469585528946832 rfl e)) (aX 1107967982703061647505 rfl q) (aX 1221403645999388175862437651687696 rfl g) (by rw[eO,pD];exact aX 1217442237873674958542955803060496 rfl ga);refine⟨l,by rw[ll,eO,pD];exact fE (aX 553983990942694123792 rfl) (aX 556000904832359859472 rfl),?_⟩;rw[gA,z];simp only[aV (show(acc.map PV.int).length<aJ by rw[cR];simp only[aJ];exact aX 290260848492068043443208337 rfl ga)];rw[el,Out.eV];rw[kJ]at y;rw[show acc.map PV.int++[PV.int (bP nums k 9)]=acc.map PV.int++[bP nums k 9].map PV.int from rfl,y,vQ,show k+1+j=k+(j+1) by exact fE (aX 553983990942694123792 rfl) (aX 556000904832359859472 rfl)]
theorem X7(hn:H.length=n):aG P0 (m+2) (.aE (.ref 375)) [] H= .ok (.ref (n+1)) (H++[.ns [(8,.ref (n+2)),(9,.int 0),(10,.ref (n+3))],.inst 375 n,.dict [] false,.list []]):=by
 have main:aG P0 (m+1) (.aE (.ref 248)) [.ref (n+1)] (H++[.ns [],.inst 375 (n+0)])= .ok .none (H++[.ns [(8,.ref (n+2)),(9,.int 0),(10,.ref (n+3))],.inst 375 (n+0),.dict [] false,.list []]):=by
  apply cP (B:=QI) rfl rfl hn rfl;unfold QI;dsimp only[Fo];walk_at "nrm"
  repeat(first
   |with_reducible apply HZ|walk_at "m1")
 have main:aG P0 (m+1) (.aE (.ref 248)) [.ref (n+1)] (H++[.ns [],.inst 375 n])= .ok .none (H++[.ns [(8,.ref (n+2)),(9,.int 0),(10,.ref (n+3))],.inst 375 n,.dict [] false,.list []]):=main;refine(show aG P0 (m+2) (.aE (.ref 375)) [] H=KD P0 (aG P0 (m+1)) 375 [] H from rfl).trans (cG (a:=some 248) rfl (cG (a:=248) rfl ?_));rw[hn,main];rfl
end
section
variable{m n k:Nat}{H K J Z:PH}{nums:List Int}{ns:List Int}{u w:Nat}
def UU:DS:=(jQ [Tg.fS 2,Tg.loc 3] (bM (aC (dN (aC (nI (lF (qH (aD 0) (aB PV.none) (aB (PV.int 40)))) 3 1 [] (bV yR (p1 pI (aD 1)) (aB (PV.int 2147483647)))) (aC (aB (PV.int 0)) aH))) (aC (aZ (aB (PV.aE (aR 375))) aH) aH))))
abbrev zY(ns:List Int)(k:Nat):PH:=[.cell (some (.ref 3)),.list ((ns.take 40).map .int),.list ((numsOf ns).map .int),.list [.ref 2,.int k],.ns [(8,.ref 6),(9,.int 0),(10,.ref 7)],.inst 375 4,.dict [] false,.list []]
theorem u0(hn:H.length=0)(hl:ns.length≤63):UU (aG P0 (m+2)) [some (.fl (ns.map .int)),none,some (.ref (0+0)),none,none,none,none,none,none,none,none,none,none,none,none,none,none,none,none,none,none,none] (H++[.cell none])=
  .ok (.next,[some (.fl (ns.map .int)),none,some (.ref (0+0)),some (.ref 5),none,none,none,none,none,none,none,none,none,none,none,none,none,none,none,none,none,none]) (H++zY ns 0):=by
 have lt:(ns.take 40).length≤40:=by rw[Uq];exact Az _ _
 have W7:yY (.fl (ns.map .int)) .none (.int 40) (H++[.cell none])= .ok (.ref (0+1)) (H++[.cell none,.list ((ns.take 40).map .int)]):=by
  have e:cut (ns.map PV.int) .none (.int 40)=some ((ns.take 40).map .int):=by
   show some ((ns.map PV.int).take 40)=_;rw[List.map_take]
  have V7:decide ((ns.map PV.int).length≤63)=true:=cC (by rw[cR];exact hl);have h8:decide (((ns.take 40).map PV.int).length≤aJ)=true:=cC (by rw[cR];simp only[aJ];exact aS 281475286996942992 rfl lt);show ob (cut (ns.map PV.int) .none (.int 40)) (fun l=>cB (decide ((ns.map PV.int).length≤63)) (iG l (H++[.cell none])))=_;rw[e];exact fL V7 (uW h8 hn)
 have W6:gA (.live (0+1)) (fun v H=>bV yR (p1 pI (aD 1)) (aB (.int 2147483647)) (aG P0 (m+2)) [none,some v,none] H) 9000 0 [] (H++[.cell none,.list ((ns.take 40).map .int)])= .ok ((numsOf ns).map .int) (H++[.cell none,.list ((ns.take 40).map .int)]):=by
  have:=Do (C:=aG P0 (m+2)) (H:=H++[.cell none,.list ((ns.take 40).map .int)]) (r:=0+1) (bG hn rfl) (ns.take 40).length 0 9000 [] (fE (aS 128916652304 rfl) (aS 128916160656 rfl)) (aS 281475287128014993 rfl lt) (by simp only[EE,aJ];exact aS 1152922775539478429968 rfl lt);rw[this];show Out.ok ([]++_) _=_;rw[OW,Uu,numsOf,tR];rfl
 have hh:=X7 (m:=m) (H:=H++[.cell none,.list ((ns.take 40).map .int),.list ((numsOf ns).map .int),.list [.ref 2,.int (0:Nat)]]) (n:=4) (by rw[lW hn];rfl);rw[cM]at hh;unfold UU
 repeat(first
  |((with_reducible change yY _ _ _ _=_);exact W7)|((with_reducible change gA _ _ _ _ _ _=_);exact W6)|((with_reducible change aG _ _ (PV.aE (aR 375)) _ _=_);exact hh)|walk_at "m1")
end
section
variable{m n k nz:Nat}{H K J Z:PH}{nums:List Int}{ns:List Int}{u w:Nat}
def KL:D:=(nI (rN (aZ (aB (PV.aE (aR 435))) (aC (cL 2) (aC (aB (PV.int 3)) aH)))) 4 1 [(3,2)] (aZ (aB (PV.aE (aR 435))) (aC (cL 3) (aC (aB (PV.int 9)) aH))))
theorem Eh{fr:aW}(h3:Z[3]?=some (.list [.ref 2,.int k]))(h2:Z[2]?=some (.list (nums.map .int)))(h0:Z[0]?=some (.cell (some (.ref 3))))(hf:fr[2]?=some (some (.ref 0)))(hk:k≤100)(hl:nums.length≤40)(hz:Z.length=nz):
  ∃(l:List Int) (k':Nat),l.length≤2∧k'≤k+3∧KL (aG P0 (m+1)) fr Z= .ok (.ref nz) (Z.set 3 (.list [.ref 2,.int (k':Nat)])++[.list (l.map .int)]):=by
 have d0:=pP (nums:=nums) (k:=k) (size:=3) (by decide);have d1:=pQ (nums:=nums) (k:=k) (size:=3) (by decide);have dr:=KK (m:=m) (size:=3) h3 h2 (by decide) (by decide) (aS 69203578820939022480 rfl hk) hl;obtain⟨d,hd⟩: ∃d:Nat,bP nums k 3=(d:Int):=⟨(bP nums k 3).toNat,(Int.toNat_of_nonneg d0).symm⟩;rw[hd]at dr;have hd2:d≤2:=by exact jX 2220547524023090938000 rfl hd d1
 obtain⟨l,ll,c⟩:=Dn (m:=m) (d:=d) hl d 0 9000 (k+1) [] (Z.set 3 (.list [.ref 2,.int (k+1:Nat)])) (qC h3) (eQ h2 (by decide)) (eQ h0 (by decide)) (fE (aS 128916652304 rfl) (aS 128916160656 rfl)) (aS 270779238013010065 rfl hd2) (aX 2438982347363481082083526345500944 rfl hk hd2) (by simp only[EE];exact aS 1109111754123138040080 rfl hd2);rw[vQ]at c;refine⟨l,k+1+d,by rw[ll,EE];exact aS 4332467790407008528 rfl hd2,by exact aX 4542958639845058740758800 rfl hd2,?_⟩;have src:rN (aZ (aB (.aE (.ref 435))) (aC (cL 2) (aC (aB (.int 3)) aH))) (aG P0 (m+1)) fr Z= .ok (DE d) (Z.set 3 (.list [.ref 2,.int (k+1:Nat)])):=by
  have e:aZ (aB (.aE (.ref 435))) (aC (cL 2) (aC (aB (.int 3)) aH)) (aG P0 (m+1)) fr Z= .ok (.int d) (Z.set 3 (.list [.ref 2,.int (k+1:Nat)])):=NA oB (sY (WS hf h0) (sY oB NC)) dr;unfold rN;rw[e,Out.eV];exact cG (a:=(d:Int)) rfl (fL (cC ⟨by exact aS 125894680 rfl,by simp only[aJ];exact aS 270779237881938072 rfl hd2⟩) rfl)
 have lL:(fr[2]?).getD none=some (.ref 0):=by rw[hf];rfl
 have key: ∀v,qY fr 4 1 [(3,2)] v=[none,some v,none,some (.ref 0)]:=by
  intro v;show(nS fr [] ((cU 4 none).set 3 ((fr[2]?).getD none))).set 1 (some v)=_;rw[lL];rfl
 have lz:(Z.set 3 (.list [.ref 2,.int (k+1+d:Nat)])).length=nz:=gM hz;have rr:DE d= .seq ((fP d).map fun(i:Nat)=>PV.int (i:Int)):=by unfold DE;rw[ZX]
 rw[rr]at src;unfold KL;have:=Ol (e:=aZ (aB (.aE (.ref 435))) (aC (cL 3) (aC (aB (.int 9)) aH))) (K:=Z.set 3 (.list [.ref 2,.int (k+1+d:Nat)])) (J:=[]) src rfl (size:=4) (iv:=1) (links:=[(3,2)]) (by
  rw[eL];have ce:(fun(v:PV) (H:PH)=>aZ (aB (.aE (.ref 435))) (aC (cL 3) (aC (aB (.int 9)) aH)) (aG P0 (m+1)) (qY fr 4 1 [(3,2)] v) H)=fun v H=>aZ (aB (.aE (.ref 435))) (aC (cL 3) (aC (aB (.int 9)) aH)) (aG P0 (m+1)) [none,some v,none,some (.ref 0)] H:=by
   funext v H;rw[key]
  rw[ce];exact c) lz
 rw[this];rfl
end
section
variable{m n k nz:Nat}{H K J Z:PH}{nums:List Int}{ns l1 l2:List Int}{u w:Nat}
abbrev NL(ns:List Int)(k:Nat)(l1 l2:List Int):PH:=zY ns k++[.list (l1.map .int),.list (l2.map .int)]
abbrev startB(ns:List Int)(k:Nat)(l1 l2:List Int):PH:=[.cell (some (.ref 3)),.list ((ns.take 40).map .int),.list ((numsOf ns).map .int),.list [.ref 2,.int k],dA (0+1),.inst 375 4,.dict [(.int (0+1),.ref 13)] false,.list [],.list (l1.map .int),.list (l2.map .int),.cell (some (.ref 5)),.list (l1.map .int),.ns (eU 11 1 (sv "live")),.inst 230 12]
abbrev IK(ns:List Int)(k:Nat)(l1 l2:List Int):PH:=[.cell (some (.ref 3)),.list ((ns.take 40).map .int),.list ((numsOf ns).map .int),.list [.ref 2,.int k],dA (0+1+1),.inst 375 4,.dict [(.int (0+1),.ref 13),(.int (0+1+1),.ref 17)] false,.list [],.list (l1.map .int),.list (l2.map .int),.cell (some (.ref 5)),.list (l1.map .int),.ns (eU 11 1 (sv "live")),.inst 230 12,.cell (some (.ref 5)),.list (l2.map .int),.ns (eU 15 1 (sv "live")),.inst 230 16]
theorem km(hn:H.length=0)(h1:l1.length≤2):aG P0 (m+5) (.aE (.ref 213)) [.ref 5,sv "array#make",.ref 8] (H++NL ns k l1 l2)= .ok (bH (0+1)) (H++startB ns k l1 l2):=by
 have p:Hp (H++NL ns k l1 l2) 0 []:=⟨bG (n:=0) (i:=5) hn rfl,bG (n:=0) (i:=4) hn rfl,bG (n:=0) (i:=6) hn rfl,fun _=>rfl,rfl⟩;have mv:=VD (m:=m) (q:=8) (n:=10) p (bG (n:=0) (i:=8) hn rfl) (iF (l:=l1) (by simp only[aJ];exact aS 270779237881938064 rfl h1)) (by rw[lW hn];rfl);refine(sF (by simp) mv).trans ?_;congr 1;exact(IH (eE (n:=0) (i:=6) (eE (n:=0) (i:=4) eG hn) hn)).trans rfl
theorem kq(hn:H.length=0)(h2:l2.length≤2):aG P0 (m+5) (.aE (.ref 213)) [.ref 5,sv "array#make",.ref 9] (H++startB ns k l1 l2)= .ok (bH (0+1+1)) (H++IK ns k l1 l2):=by
 have p:Hp (H++startB ns k l1 l2) (0+1) [(.int (0+1),.ref 13)]:=⟨bG (n:=0) (i:=5) hn rfl,bG (n:=0) (i:=4) hn rfl,bG (n:=0) (i:=6) hn rfl,fun _=>rfl,rfl⟩;have mv:=VD (m:=m) (q:=9) (n:=14) p (bG (n:=0) (i:=9) hn rfl) (iF (l:=l2) (by simp only[aJ];exact aS 270779237881938064 rfl h2)) (by rw[lW hn];rfl);refine(sF (by simp) mv).trans ?_;congr 1;exact(IH (eE (n:=0) (i:=6) (eE (n:=0) (i:=4) eG hn) hn)).trans rfl
end
section
variable{m n k nz:Nat}{H K J Z:PH}{nums:List Int}{ns l1 l2:List Int}{u w:Nat}
def MD(ns:List Int):Ad:=⟨18,19,20,21,22,23,numsOf ns⟩
abbrev IL(ns:List Int)(k:Nat)(l1 l2:List Int):PH:=IK ns k l1 l2++[.list [gB 5 (0+1) 6 (0+1+1) 7],.dict [(vB "of",.ref 20),(vB "rows",.ref 21),(vB "next",.int 1)] false,.dict [(pk [1],.int 0),(pk [2,1],.int 1)] false,.dict [(.int 0,.ref 8),(.int 1,.ref 9)] false,.dict (natE 5 6 7) false,.dict [] false]
theorem jb{rest:DS}{rs:Out (cO×aW)}(hn:H.length=0)(h1:l1.length≤2)(h2:l2.length≤2)
  (hr:rest (aG P0 (m+6)) [some (.fl (ns.map .int)),some (bH (0+1)),some (.ref 0),some (.ref 5),none,some (.ref 8),some (.ref 9),some (bH (0+1+1)),some (spot 18 [0]),some (.ref 19),some (.ref 22),some (.ref 23),none,none,none,none,none,none,none,none,none,none] (H++IL ns k l1 l2)=rs):
  UT rest (aG P0 (m+6)) [some (.fl (ns.map .int)),none,some (.ref 0),some (.ref 5),none,some (.ref 8),some (.ref 9),none,none,none,none,none,none,none,none,none,none,none,none,none,none,none] (H++NL ns k l1 l2)=rs:=by
 have k1:=km (m:=m+1) (k:=k) (ns:=ns) (l2:=l2) hn h1;have k2:=kq (m:=m+1) (k:=k) (ns:=ns) (l1:=l1) hn h2;have w1:aG P0 (m+6) (.aE (.ref 131)) [spot 18 [0],gB 5 (0+1) 6 (0+1+1) 7] (H++(IK ns k l1 l2++[.list [.none]]))= .ok .none (H++(IK ns k l1 l2++[.list [gB 5 (0+1) 6 (0+1+1) 7]])):=by
  have:=xY (m:=m) (p:=[]) (r:=18) (V:= .none) (v:=gB 5 (0+1) 6 (0+1+1) 7) (by decide) (bG (n:=0) (i:=18) hn rfl:(H++(IK ns k l1 l2++[.list [.none]]))[18]?=_) (fun J=>Kz);rw[this];congr 1;exact(eE (n:=0) (i:=18) eG hn).trans rfl
 unfold UT
 repeat(first
  |((with_reducible change rest _ _ _=_);exact hr)|((with_reducible change aG _ _ (PV.aE (aR 213)) _ _=_);first|exact k1|exact k2)|with_reducible exact place_in _|((with_reducible change aG _ _ (PV.aE (aR 131)) _ _=_);exact w1)|with_reducible apply HZ|walk_at "m1")
end
section
variable{n k:Nat}{H:PH}{ns l1 l2:List Int}
def s0(k:Nat)(l1 l2:List Int):St:=⟨k,[⟨13,12,11,1,true,l1⟩,⟨17,16,15,1,true,l2⟩],gB 5 (0+1) 6 (0+1+1) 7,[(K1,0),(dX,1)],[⟨0,8,l1⟩,⟨1,9,l2⟩],1,natE 5 6 7,[]⟩
theorem rep0(hn:H.length=0):Rep (MD ns) [(0,.cell (some (.ref 3)))] (s0 k l1 l2) (H++IL ns k l1 l2):=by
 obtain rfl:=JM.mp hn;refine⟨?_,?_⟩
 ·show∀p∈[((4:Nat),dA (0+1+1)),(6,PO.dict [(.int (0+1),.ref 13),(.int (0+1+1),.ref 17)] false),(3,.list [.ref 2,.int k]),(2,.list ((numsOf ns).map .int)),(5,.inst 375 4),(18,.list [gB 5 (0+1) 6 (0+1+1) 7]),(19,.dict [(vB "of",.ref 20),(vB "rows",.ref 21),(vB "next",.int 1)] false),(20,.dict [(pk [1],.int 0),(pk [2,1],.int 1)] false),
   (21,.dict [(.int 0,.ref 8),(.int 1,.ref 9)] false),(22,.dict (natE 5 6 7) false),(23,.dict [] false),(12,.ns (eU 11 1 (sv "live"))),(11,.list (l1.map .int)),(13,.inst 230 12),(16,.ns (eU 15 1 (sv "live"))),(15,.list (l2.map .int)),(17,.inst 230 16),(8,.list (l1.map .int)),(9,.list (l2.map .int)),(0,.cell (some (.ref 3)))],([]++IL ns k l1 l2)[p.1]?=some p.2
  repeat(first
   |(refine Uk.mpr ⟨rfl,?_⟩)|exact fun _ h=>nomatch h)
 ·show[4,6,3,2,5,18,19,20,21,22,23,12,11,13,16,15,17,8,9,0].Nodup
  decide
theorem KU(q:PK):fo (s0 k l1 l2) q=if q=K1 then some 0 else if q=dX then some 1 else none:=by
 show gZ q [(K1,(0:Int)),(dX,1)]=_;by_cases h1:q=K1
 ·rw[aV h1,h1];rfl
 ·rw[aN h1,gG,dC.mpr h1]
  by_cases h2:q=dX
  ·rw[aV h2,h2];rfl
  ·rw[aN h2];show gZ q [(dX,(1:Int))]=none;rw[gG,dC.mpr h2];rfl
theorem Il(q:PK):cV 0 1 [] q=if q=K1 then some 0 else if q=dX then some 1 else none:=rfl
theorem du(h1:l1.length≤2)(h2:l2.length≤2)(hk:k≤20):cX (s0 k l1 l2) 0 5 6 7 0 1 []:=by
 have ne:dX≠K1:=by decide
 have fc0:fc (s0 k l1 l2) 0=1:=rfl;have fc1:fc (s0 k l1 l2) 1=1:=rfl;have FL: ∀{q:PK} {j:Int},fo (s0 k l1 l2) q=some j→(q=K1∧j=0)∨(q=dX∧j=1):=by
  intro q j h;rw[KU]at h;by_cases e1:q=K1
  ·rw[aV e1]at h;injection h with h;exact .inl ⟨e1,h.symm⟩
  ·rw[aN e1]at h
   by_cases e2:q=dX
   ·rw[aV e2]at h;injection h with h;exact .inr ⟨e2,h.symm⟩
   ·rw[aN e2]at h;exact nomatch h
 have nd:((s0 k l1 l2).of.map (·.1)).Nodup:=by show[K1,dX].Nodup;decide
 refine⟨rfl,rfl,rfl,mD,lK _,?_,?_,⟨?_,?_,?_,?_,?_⟩,nd,?_,?_,?_,fQ _,fQ _,fQ _,?_,by show k≤_;exact aS 1077522606194832 rfl hk⟩
 ·intro q h
  rw[Il]at h;rw[KU];by_cases e1:q=K1
  ·rw[aV e1];rfl
  ·rw[aN e1]at h⊢
   by_cases e2:q=dX
   ·rw[aV e2];rfl
   ·rw[aN e2]at h;exact nomatch h
 ·intro q h
  rw[KU]at h;rw[Il];by_cases e1:q=K1
  ·rw[aV e1];rfl
  ·rw[aN e1]at h⊢
   by_cases e2:q=dX
   ·rw[aV e2];rfl
   ·rw[aN e2]at h;exact nomatch h
 ·intro q j h
  rcases FL h with⟨rfl,rfl⟩|⟨rfl,rfl⟩
  ·exact⟨0,l1,rfl,rfl,rfl⟩
  ·exact⟨1,l2,rB _ _ _,rfl,rfl⟩
 ·intro q q' j j' i h h' g g'
  rcases FL h with⟨rfl,rfl⟩|⟨rfl,rfl⟩<;>rcases FL h' with⟨rfl,rfl⟩|⟨rfl,rfl⟩
  ·rfl
  ·rw[GL]at g;rw[rB]at g';injection g with g;injection g' with g';exact jE (aS 35436200715854593130518 rfl g' g)
  ·rw[rB]at g;rw[GL]at g';injection g with g;injection g' with g';exact jE (aS 35436200715854593130518 rfl g g')
  ·rfl
 ·intro q q' j h h'
  rcases FL h with⟨rfl,e⟩|⟨rfl,e⟩<;>rcases FL h' with⟨rfl,e'⟩|⟨rfl,e'⟩
  ·rfl
  ·exact jE (jH 35417791973071999991830 rfl e' e)
  ·exact jE (jH 35417791973071999991830 rfl e e')
  ·rfl
 ·intro i l c h
  match i,h with
  |0,h=>exact⟨K1,0,rfl,rfl⟩|1,h=>exact⟨dX,1,by rw[KU,aN ne,aV rfl],rB _ _ _⟩|i+2,h=>exact nomatch h
 ·intro j;exact HY nd
 ·intro e m
  rcases dJ.mp m with rfl|m
  ·exact⟨_,rfl⟩
  ·rw[eZ.mp m];exact⟨_,rfl⟩
 ·intro r m
  rcases dJ.mp m with rfl|m
  ·show(0:Int)≤1;decide
  ·rw[eZ.mp m];exact rZ _
 ·show[(0:Int),1].Nodup;decide
 ·intro r m
  rcases dJ.mp m with rfl|m
  ·show l1.length≤4;exact aS 1057731394404496 rfl h1
  ·rw[eZ.mp m];show l2.length≤4;exact aS 1057731394404496 rfl h2
end
section
variable{n k:Nat}{H:PH}{ns l1 l2:List Int}
theorem m0{C:dI}{fr:aW}(hf:fr[0]?=some (some (.fl (ns.map .int))))(hl:ns.length≤63): ∃N:Nat,N≤8∧rN (bV gP (aB (PV.int 2)) (bV BA (p2 xG (p1 fX (aD 0)) (aB (PV.int 40))) (aB (PV.int 6)))) C fr H= .ok (.seq ((fP N).map fun(i:Nat)=>PV.int (i:Int))) H:=by
 obtain⟨M,hM⟩: ∃M:Int,M=if(40:Int)<(ns.map PV.int).length then 40 else((ns.map PV.int).length:Int):=⟨_,rfl⟩
 have hM0:0≤M∧M≤40:=by rw[hM];split<;>omega
 have e1:p1 fX (aD 0) C fr H= .ok (.int (ns.map PV.int).length) H:=WT (rK hf) (cG rfl (fL (cC (by rw[cR];simp only[aJ];exact aS 287949211461288080 rfl hl)) rfl));have e2:p2 xG (p1 fX (aD 0)) (aB (PV.int 40)) C fr H= .ok (.int M) H:=On e1 oB (by rw[hM];rfl);have e3:bV BA (p2 xG (p1 fX (aD 0)) (aB (PV.int 40))) (aB (PV.int 6)) C fr H= .ok (.int (tM M 6)) H:=MZ e2 oB (VU (by decide) (NK (by omega)) (NK (by decide)));have e4:bV gP (aB (PV.int 2)) (bV BA (p2 xG (p1 fX (aD 0)) (aB (PV.int 40))) (aB (PV.int 6))) C fr H= .ok (.int (2+tM M 6)) H:=MZ oB e3 rfl;have hq:0≤tM M 6∧tM M 6≤6:=by
  rw[Int.fdiv_eq_ediv_of_nonneg _ (by decide)];omega
 refine⟨(2+tM M 6).toNat,by omega,?_⟩;unfold rN;rw[e4,Out.eV];exact cG (a:=2+tM M 6) rfl (fL (cC ⟨by exact jH 4325708267000037400 rfl hq.1,by simp only[aJ];exact jH 1113723514751589826840 rfl hq.2⟩) rfl)
theorem ua(ns:List Int)(hl:ns.length≤63): ∃H,aG P0 40 (.aE (.ref 552)) [.fl (ns.map PV.int)] []= .ok (.bool true) H:=by
 obtain⟨H,hH⟩: ∃H:PH,H=[]:=⟨_,rfl⟩;rw[←hH];have hn:H.length=0:=by rw[hH];rfl
 have nl:(numsOf ns).length≤40:=by unfold numsOf;rw[cR,Uq];exact Az _ _
 refine bQ fun G_ aQ=>?_;obtain⟨l1,k1,a1,a2,d1⟩:=Eh (m:=38) (Z:=H++zY ns 0) (nums:=numsOf ns) (k:=0) (nz:=8) (fr:=[some (.fl (ns.map .int)),none,some (.ref 0),some (.ref 5),none,none,none,none,none,none,none,none,none,none,none,none,none,none,none,none,none,none]) (bG (n:=0) (i:=3) hn rfl) (bG (n:=0) (i:=2) hn rfl) (bG (n:=0) (i:=0) hn rfl) rfl (lK _) nl (by rw[lW hn];rfl);have z1:(H++zY ns 0).set 3 (PO.list [.ref 2,.int (k1:Nat)])++[PO.list (l1.map .int)]=H++(zY ns k1++[PO.list (l1.map .int)]):=(IH (eE (n:=0) (i:=3) eG hn)).trans rfl;rw[z1]at d1;obtain⟨l2,k2,b1,b2,d2⟩:=Eh (m:=38) (Z:=H++(zY ns k1++[PO.list (l1.map .int)])) (nums:=numsOf ns) (k:=k1) (nz:=9) (fr:=[some (.fl (ns.map .int)),none,some (.ref 0),some (.ref 5),none,some (.ref 8),none,none,none,none,none,none,none,none,none,none,none,none,none,none,none,none]) (bG (n:=0) (i:=3) hn rfl) (bG (n:=0) (i:=2) hn rfl) (bG (n:=0) (i:=0) hn rfl) rfl (aS 271060711823179920 rfl a2) nl (by rw[lW hn];rfl);have z2:(H++(zY ns k1++[PO.list (l1.map .int)])).set 3 (PO.list [.ref 2,.int (k2:Nat)])++[PO.list (l2.map .int)]=H++NL ns k2 l1 l2:=(IH (eE (n:=0) (i:=3) eG hn)).trans rfl;rw[z2]at d2;obtain⟨N,hN,hs⟩:=m0 (ns:=ns) (H:=H++IL ns k2 l1 l2) (C:=aG P0 39) (fr:=CM (MD ns) (some (.fl (ns.map .int))) (some (bH (0+1))) none (some (.ref 8)) (some (.ref 9)) (some (bH (0+1+1)))) rfl hl;obtain⟨H2,s',x',y',z',P',Q',hs',IS,c,r,I⟩:=Qi (m:=25) (F:=[]) (A:=MD ns) (v0:=some (.fl (ns.map .int))) (v1:=some (bH (0+1))) (v5:=some (.ref 8)) (v6:=some (.ref 9)) (v7:=some (bH (0+1+1))) nl N hN N 0 9000 (s0 k2 l1 l2) (H++IL ns k2 l1 l2) 5 6 7 0 1 [] none (rep0 hn) (du a1 b1 (aX 9095362012664644395073680 rfl b2 a2)) (by show k2≤_;exact aX 9095362012664644395073680 rfl b2 a2) (fE (aS 128916652304 rfl) (aS 128916160656 rfl)) (aS 272468087873274001 rfl hN);obtain⟨H3,fin⟩:=M5 (m:=30) r I (aS 1064328464826512 rfl hN);refine aQ ?_;refine⟨H3,?_⟩;refine start ?_;refine cP (m:=39) (B:=RB) (H1:=H++[.cell none]) (fr:=[some (.fl (ns.map .int)),none,some (.ref (0+0)),none,none,none,none,none,none,none,none,none,none,none,none,none,none,none,none,none,none,none]) (fl:= .ret (.bool true)) (fr1:=CM (MD ns) (some (.fl (ns.map .int))) (some (bH (0+1))) IS (some (.ref 8)) (some (.ref 9)) (some (bH (0+1+1)))) (H2:=H3) rfl rfl hn rfl ?_ rfl rfl;unfold RB;refine mO (A:=UU) (u0 (m:=37) hn hl) (nU ?_);refine mO (A:=cW (.loc 5) KL) (XB d1 rfl) (nU ?_);refine mO (A:=cW (.loc 6) KL) (XB d2 rfl) (nU ?_);refine jb (m:=33) hn a1 b1 ?_;refine mO (A:=kE (jJ (.loc 4)) _ HA) (IE hs rfl c rfl) (nU ?_);refine mO (A:=bJ _) (Pf (NA oB (sY (rK rfl) (sY (rK rfl) (sY (rK rfl) (sY (rK rfl) (sY (rK rfl) NC))))) fin)) (Gx rfl)
end
end
end Mine
theorem PySem.Challenge.cw_pq0252_01_holds : PySem.Challenge.rw_pq0252_01.Holds :=
 Mine.holds_of Mine.ua
