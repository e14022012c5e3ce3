import PyProof.Rows.All
import Open.Pieces
import OpenK.Lit
import PyProof.Walks
import PyProof.EqAt
import PyProof.P3Eq
import PyProof.EqLayable
import PyProof.Cells
import PyProof.PlainList
import PyProof.WalksMore
import PyProof.DictList
import PyProof.DictKinds
import PyProof.TupleKey
import PyProof.InstLoad
import PyProof.StationsW
import PyProof.ListMulAny
import PyProof.Rows.ListMul
import PyProof.CallStr
import KE.KIsAll
import OpenK.KLine
import Open.Line
import PyProof.IsiTupleOf
import PyProof.SliceList
import PyProof.SliceSyntax
import PyProof.Rows.TupMore
import KE.KTryMore
import OpenK.KOwn
import PyProof.RulesAs
import PyProof.DictRoadsH
import PyProof.DictTruth
import PyProof.DictRoads
import PyProof.InstStoreFacts
import PyProof.ObjNew
import PyProof.Rows.AttrNodeAny
import PyProof.AssignAttr
import PyProof.ExcInit
import PyProof.ExcClass2
import PyProof.ExcAttrAll.ValueError
import OpenK.KCls
import PyProof.DictTable
import Lean
import PySem.Challenge.RW_uf030012_09
set_option genInjectivity false
set_option genSizeOf false
set_option bootstrap.genMatcherCode false
set_option tactic.hygienic false
set_option linter.unusedVariables false
set_option Elab.async false
set_option maxRecDepth 100000
set_option maxHeartbeats 8000000
open PySem.Challenge
noncomputable section
open Nat renaming le_trans→al,le_add_right→aQ,lt_of_lt_of_le→aZ,add_le_add_right→ba,le_of_ble_eq_true→bb,le_refl→bB,lt_of_le_of_lt→bP,add_right_comm→bQ,ne_of_lt→bV,le_of_eq→bW,add_le_add_left→cj,lt_succ_self→cp,succ_le_succ→cx,eq_of_beq_eq_true→cA,le_of_lt→cC,le_succ→cJ,not_lt_zero→cO,lt_add_of_pos_right→cR,zero_lt_succ→cU,ne_of_gt→cZ,le_of_succ_le_succ→c8,lt_irrefl→dj,beq→dD,mod_eq_of_lt→eh,zero_add→ey,lt_succ_of_lt→eN,lt_succ_of_le→eQ,succ_ne_self→eZ,add_assoc→fc,le_add_left→fv,le_succ_of_le→fD,succ_pos→fE,le_of_not_le→fZ,not_lt→f0,ble→gA,pow_le_pow_right→gG,min_eq_left→gI,mul_le_mul_left→gL,add_le_add→gT,succ_pred_eq_of_pos→iR,lt_add_right→iS,min_eq_right→iZ,lt_trans→jk,le_succ_of_pred_le→jl,sub_self→jo,lt_of_succ_lt_succ→jy,zero_le→jN,not_succ_le_zero→j2,sub_le_of_le_add→j6,add_left_cancel→j9,add_lt_add_left→kb,sub_add_cancel→kt,sub_pos_of_lt→kM,succ_add→kP,add_comm→kQ,le_of_lt_succ→kR,not_lt_of_le→lu,min_le_right→lC,le_of_not_lt→lG,le_antisymm→lN,min_le_left→l1,rec→mE,beq_refl→mK,log2_lt→mO
open PySem.Challenge renaming pw_uf030012_09→ap
open PySem.Str renaming ofString→aA
open PySem renaming wpAny_bind→aB,Value→aC,Shared→aE,Addr→aF,wpAny_pure→aH,Str→aW,Heap→aX,wpAny_loadPart_at→bA,typeLookup→bE,builtinLookup_eq_fast→bG,wpAny_mono→bJ,wpAny_holding→bN,Around→bY,typeLookup_type→cb,mainGlobals→cy,keywordEach→cz,Program→cB,wpAny_items_cons→cG,wpAny_truthy_bool→cN,wpAny_standAt→cW,foldedSetIterable→c9,Pos→dc,wpAny_items_nil→dv,subscripted→dG,wpAny_specialOf→dQ,swapsWith→dR,wpAny_newObj_type→dW,codeAny_call_builtin→d2,Scope→ec,wpAny_field→ek,wpAny_execs_nil→eD,NameKind→eE,wpAny_loadPart'→eH,Stmt→eJ,World→eL,OsState→eM,wpAny_assign_Name→eO,wpAny_assignInOrder_more→fh,Obj→fj,Builtin→fs,assignEach→fA,wpAny_callSpecial?_slot→fC,wpAny_setField→fF,wpAny_pyIter_list→fI,Keyword→fJ,wpAny_Assign_Subscript→fK,plainObj_wpAny_Assign_Attribute→fR,wpAny_isTrue_Compare1→fT,isSubtype_tuple_tuple→fU,Arguments→fY,Env→f3,call_meets→f4,wpAny_call_entry→f5,checkBuiltinCall→f6,isInstance→f7,wpAny_forIn_list→f8,behindInMarks→gB,attributeBase→gC,importedModules→gH,wpAny_isSubtype_exc→gO,PyData→gV,builtinsNs→gW,recursionLimit→gX,letTemporaryGo→gY,wpAny_tupleItemsOf→hE,codeAny_call_builtin_code→h5,wpAny_check_type_call_sub→h6,wpAny_comprehension_free→iF,wpAny_assignInOrder_none→iG,swapsWithSole→iH,swappedStores→iI,methodCallPos→iJ,FuncData→iQ,noFill_tuple_add→iU,wpAny_execs_cons→iW,wpAny_isInstance→i6,codeAny_call_builtin_at→i7,concat_meets→jp,wpAny_allTrue_And_cons→jq,wpAny_pyNext_list_item→jr,wpAny_typeOf→jt,OwnTail→ju,sysModules→jv,codeAny_builtin→jA,wpAny_allTrue_Or_cons→jD,getitemInPython_of_ne→jE,wpAny_storeName_local→jF,wpAny_pyNext_list_end→jH,GenState→jM,wpAny_letTemporaryGo→jS,wpAny_seqItems→jU,eqIsQuiet→j8,seq_tuple_add→kj,Params→kq,reduceHash→ku,wpAny_Constant_str→kv,cameBackBy→ky,wpAny_setSeqItemAt→kD,wpAny_call→kE,Result→kF,wpAny_assign_Tuple→kG,CmpOp→kW,slot_list_getitem→kX,wpAny_Assign_Name→k6,wpAny_Call_method→k7,wpAny_sequenceKey→k8,slot_list_setitem→k9,tupleKeyHash→lb,eqIsQuiet_byValue→lc,slot_dict_getitem→lg,DictEntry→lp,treeTable→lq,wpAny_Dict_empty→lw,seqIndex?→lz,slicePick→lB,onTheHeap→lD,wpAny_madeBy_exc→lF,wpAny_Tuple→lI,excClassObj→lK,wpAny_operating→lP,letOwnedTupleGo→lR,wpAny_ret_mkInt→lT,codeAny_of_tree→lV,wpAny_updateSeq→lY,Operator→l7,IsPart→mc,wpAny_rule→mh,isSubtype→mC,Flow→mF,Tok→mM
open Exists renaming elim→aD
open PySem.W renaming Frag→aG,boot_heap→eg,looks_findIn→eB,nsMap_none_of_in→gd,cellsFrom_some→js,kitOne→jT,Looks→jY,boot_drawn→kr,kitx_dict→kY,boot_toks→lr,looks_subIn→lJ,kitAny→ma,isNs_of_in→mj,KitX→mw,nsIn→mJ,kia_one→mP,kia_tup→mS
open List renaming all_eq_true→aI,mem_singleton→aJ,length_map→aK,getElem?_append_left→aM,mem_cons_self→aN,replicate→aS,mem_cons_of_mem→aT,mem_cons→aU,mem_of_getElem?→aV,mem_map→a7,not_mem_nil→bf,mem_append→bl,getElem?_eq_some_iff→bp,mem_append_left→bD,length_append→bH,getElem?_set_ne→bI,getElem?_eq_getElem→bK,getElem?_set_self→bR,append_nil→bS,getElem?_append_right→bT,length_set→bZ,map_cons→ci,lookup_cons→cq,getD_eq_getElem?_getD→cr,append_assoc→cu,map_append→cw,take_of_length_le→cI,nodup_append→cK,map_map→dt,getElem_inj→dH,mapM_cons→dN,getElem?_eq_none→dO,mem_of_find?_eq_some→dP,rec→dT,eraseIdx_eq_take_drop_succ→ed,getElem_of_mem→ee,replicate_succ→ef,length_cons→ej,eq_nil_of_length_eq_zero→el,set_set→eC,find?_cons→eG,all_cons→eI,range→eT,length→eX,nodup_cons→fx,mem_filter→fy,flatten_cons→fH,drop_of_length_le→fL,drop_zero→fM,getElem?_map→fP,any_eq_false→fQ,contains_iff_mem→fV,length_filter_le→fW,length_replicate→fX,map_congr_left→gN,mem_map_of_mem→gP,mem_range→gZ,map_replicate→hU,getElem?_zip_eq_some→hX,map_inj_left→ih,map_take→iN,getElem?_take_of_lt→iO,eq_of_mem_replicate→iP,length_drop→i1,length_take→i2,filter_cons_of_neg→i8,filter_cons_of_pos→i9,set_getElem_self→jJ,mem_append_right→jL,nodup_nil→jV,length_take_le'→jW,take_succ_cons→ki,map_drop→ko,mem_filterMap→kx,find?_eq_none→kJ,filter_append→kL,map_nil→lf,find?_isSome→lh,pairwise_map→ln,getElem_mem→lA,any_eq_true→lE,map_id→lL,length_nil→lW,filter_nil→lZ,take_nil→mu,drop_nil→mv,map→mQ,foldl→mU
open Bool renaming and_eq_true_iff→aL,false_eq_true→cv,and_eq_true→cV,not_true→d5,eq_false_iff→fN,not_eq_true'→h9,rec→j4,and_false→j5,false_ne_true→kI,eq_iff_iff→lQ,not_false→mi,true_and→mx
open Int renaming le_trans→aO,natCast_nonneg→bd,ofNat_le→bF,toNat_of_nonneg→bL,lt_of_le_of_lt→cF,le_of_lt→c0,lt_of_lt_of_le→di,le_of_lt_add_one→du,ofNat_lt→dz,le_refl→dE,le_add_of_nonneg_right→dJ,le_sub_one_of_lt→dU,add_le_add_right→eR,add_comm→eY,add_neg_cancel_right→fe,sub_one_lt_of_le→gD,lt_add_one_of_le→gE,add_le_add_left→gK,not_le→gS,sub_add_cancel→gU,neg_nonpos_of_nonneg→iA,eq_ofNat_of_zero_le→iT,not_lt→jb,lt_trans→jm,ediv_lt_of_lt_mul→jC,le_add_one→jO,sub_le_sub_right→jP,lt_succ→jQ,ofNat_sub→kl,toNat_lt→kN,lt_toNat→kO,add_zero→kS,ofNat→ls,mul_one→lH,ediv_nonneg→lM,sub_lt_self→l0,add_nonneg→l6,toNat→mB,zero_add→mG,ediv_one→mH
open PySem.Heap renaming get?_push_of_some→aP,get?_push_size→bC,get?_update_self→bM,lt_size→bX,get?_update_other→dA,get?_none_of_le→dX,SameBut→dZ,IsCell→jR,Ns→j7,get?_update_ne→kh,IsTuple→kU,get?_push_at→li
open Array renaming length_toList→aR,getElem?_eq_some_iff→dM,toList_eraseIdxIfInBounds→fS,mk→gR,forIn_toList→hO,getElem?_eq_getElem→hV,getElem?_toList→jG
open Option renaming map_eq_some_iff→aY,isNone→bO,casesOn→dK,isSome_iff_exists→d3,map→gr,isSome_map→ic,map_some→jz,bind→mT
open PySem.SeqAt renaming shaped→bx,canLay_of_shaped→dm
open PySem.Calls renaming evalArgs_plain→bU,callWith_builtin→cH,Name_function_global→gF,callWith_function→h8,loadGlobal_global→kT
open PySem.PyData renaming eqv→ce,list→dY,tuple→e5,depth→gQ,depthAll→jB,canLayAll0→ll,canLay0→mn
open Ne renaming symm→ct
open PySem.Value renaming ref→cD,none→cQ,builtin→cY,isInt→jZ
open PySem.Obj renaming cls_mapFields→cM,mapFields→dk,data_mapFields→dL,isFreed_of_fields→eK,mapSeq→kC
open Option.some renaming inj→da
open PySem.Builtin.Tuple renaming tupleHashOf→db,tupleExact→d4,tupleItemsOf→hA,tupleIsExact→mf
open PySem.Heap.SameBut renaming update→dy,refl→mX
open PySem.F renaming attrBase_ValueError→dC,typeOf_object_class→eP,excBase_ValueError→eW,args_tuple_add_2→ff,store_ValueError→fi,entry_tuple_add→fB,slot_tuple_add→fG,slot_tuple_hash→fO,slot_tuple_eq→gJ,slot_gs_get→gM,slot_list_insert→iD,slot_list_extend→iK,slot_list_remove→iM,plainAttrs_list→iY,slot_list_clear→ja,entry_bexc_ga→jI,slot_list_pop→jK,store_object→j0,objNew→j1,slot_int_rmul→lO,slot_dict_len→lU
open PySem.Code renaming quiet_builtin→eA,builtin→jw
open ForInStep renaming yield→eF
open PySem.Builtin.List renaming listFitsIndex→eU,listTooLong→fg,listSubscript?→l4,listItems→mI
open PySem.Around renaming frames_deeper→eV,under→jx,under_plainId→j3
open PySem.Builtin.Slice renaming slicePlaces→e8,sliceApplied→g9,sliceAdjust→hY,slicePartIndex→lS,sliceFields→mq
open PyProof.Rows renaming slot_tuple_getitem→fz,callWith_type→g8,subscriptTail→iC,Subscript_→kz,Assign_Tuple→la,getItem_tuple→l8,Call_→l9
open Int.ofNat renaming inj→iB
open PySem.NameKind renaming free→iE
open PySem.Builtin.Range renaming rangeSize→iV,small→kg,rangeFitsLong→l3
open Prod renaming ext→jX
open PySem.EntryCells renaming newEntry→ke
open PySem.Builtin.Int renaming intBits→kf
open List.Nodup renaming sublist→kK
open PySem.Heap.Ns1 renaming of_empty→lj
open PySem.AutoSeq1 renaming list_clear_list_0→lm
open PySem.MeetsSeq renaming list_pop_last→lX
open Eq renaming trans→me
open PySem.Bind renaming checkArgs→ml
open PySem.Builtin.Dict renaming pendingCount→mr
open PySem.Value.ref renaming inj→my
open PySem.Expr renaming ListComp→mA
open And renaming intro→mD
open PySem.Program renaming main→mL
open Prod.mk renaming inj→mR
open PySem.Walks renaming list→mV
open PySem.Heap.IsSliceOf renaming new→mW
open PySem.W.Frag renaming In→mY
namespace Mine
theorem Bm{b:Type _}{l:List b}{i:Nat}{a:b}(h:l[i]?=some a):i<l.length:=(bp.mp h).1
theorem CS{b:Type _}{a:b}:a∈[a]:=aJ.mpr rfl
theorem Al{p:Prop}[Decidable p](h:decide p=true):p:=of_decide_eq_true h
open PySem PySem.W PySem.Calls PyProof.Rows
noncomputable def Sy(l:List fj):List fj×List fj:=@dT fj (fun _=>List fj×List fj) ([],[]) (fun a _ i=>(a::i.2,i.1)) l
def ofL(n:Nat):List fj->BT:=@mE (fun _=>List fj->BT) (fun _=>.nil) (fun _ i l=>@dT fj (fun _=>BT) .nil (fun o r _=>.node o (i (Sy r).1) (i (Sy r).2)) l) n
noncomputable def PH(t:BT)(l:List (Nat×fj)):BT:=@dT (Nat×fj) (fun _=>BT) t (fun x _ i=>i.ins x.1 x.2) l
noncomputable def Zaa:eJ->fY×List eJ×ec
 | .FunctionDef _ a b _ _ _ s _ _ _=>(a,b,s)
 | _=>(⟨[],[],none,[],[],none,[]⟩,[],default)
def Z0w(p:cB)(i:Nat):fY×List eJ×ec:=Zaa (p.main.body.getD i (.Pass default))
def Sz(p:cB)(i j:Nat):fY×List eJ×ec:=match p.main.body.getD i (.Pass default) with
 | .ClassDef _ _ _ b _ _ _ _ _ _ _=>Zaa (b.getD j (.Pass default))
 | _=>Zaa (.Pass default)
noncomputable def dEn(P:kq)(x:aW)(t:mM)(v:aC):lp:=⟨PyData.keyHash P x,.str x t,v⟩
noncomputable def fnD(d:fY×List eJ×ec)(name q:aW)(globals:aF)(c:List (aW×aF))(V k D p:aC)(ann:Option aF)(code C:aC)(b:aF):iQ :=
 ⟨name,q,d.1,.stmts d.2.1,d.2.2,globals,c,V,k,D,p,ann,code,C,b⟩
structure HZ where
 f:Nat->fY×List eJ×ec
 m:Nat->Nat->fY×List eJ×ec
 e:aW->mM->aC->lp
 s:Nat->String
noncomputable def Z0x(l:List String)(n:Nat):String:=@mE (fun _=>List String->String) (fun l=>@dT String (fun _=>String) "" (fun a _ _=>a) l) (fun _ i l=>@dT String (fun _=>String) "" (fun _ r _=>i r) l) n l
noncomputable def Bb{c:Type}(a b:List c):List c:=@dT c (fun _=>List c) b (fun x _ i=>x::i) a
theorem Zab(t:Thread):through t=(endAt 0 t).isSome:=by
 obtain⟨c,code,p,stack⟩:=t
 cases stack with
 | cons f r=>rfl
 | nil =>
  cases c with
  | pure x=>cases x<;>rfl
  | _=>rfl
theorem Zac{tb:String->Option fs}{p:cB}{w:eL}{C:Nat}{ann:Option aC}:∀ {n:Nat} {s S:aE} {t:Thread} {f:mF} {c:Code} {q:dc},segRun tb p w C ann 0 n s t=some (f,S,c,q)->topRun tb p w C ann n s t=some S
 | 0,_,_,_,_,_,_,h=>by injection h
 | n+1,s,S,t,f,c,q,h=>by
  unfold segRun at h;unfold topRun;rw[Zab]
  cases H:endAt 0 t with
  | some x=>rw[H] at h;cases h;rfl
  | none =>
   rw[H] at h;show (match false with|true=>some s|false=>_)=_
   cases k:stepOk C ann t with
   | false=>rw[k] at h;injection h
   | true =>
    rw[k] at h
    cases a:step (denote tb) p w s t with
    | halt o S=>rw[a] at h;injection h
    | go A d=>rw[a] at h;exact Zac h
theorem Ik{p:cB}{m₀:Nat}{ann:Option aC}{M:Nat}{u b:kq->BT}{d a:Nat}{D l₁:Life}{C:Array jM}{g:Drawn}{i:Nat}
  (hb:eg=fun P=>absHeap (u P) d D) (w:eL) (os:eM)
  (run:(segRunT lq p w m₀ ann 0 M ⟨u w.params,d,D,gR [],kr,lr,os⟩ (topStub p)).map (fun r=>r.2.1)=some ⟨b w.params,a,l₁,C,g,i,os⟩) :
  topRun lq p w m₀ ann M ⟨eg w.params,gR [],kr,lr,os⟩ (topStub p)=some ⟨absHeap (b w.params) a l₁,C,g,i,os⟩:=by
 obtain⟨⟨f,s,c,q⟩,h,e⟩:=aY.mp run;have H:=Zac (segRun_of h);rw[hb];have E:s=_:=e;rw[E] at H;exact H
theorem Zad{p q:cB}{loose:List aW}{h:Type}{y:aE->h}{Y:eL->h}{N m₀ a c D:Nat}{ann:Option aC}{u b:kq->BT}{g l₁:Life}{C:Array jM}{d:Drawn}
  (e:opening p=plainProg p.main.scope.names) (H:gA 600 N=true) (f:∀ s,fenceModules? p s=some s)
  (S:∀ w:eL,((eg w.params).isNs cy&&(gR []:Array jM).size == 0,(eg w.params).objs.size,(eg w.params).nsMap cy "__annotations__")=(true,m₀,ann))
  (hb:eg=fun P=>absHeap (u P) a g)
  (run:∀ (w:eL) (os:eM),(segRunT lq p w m₀ ann 0 N ⟨u w.params,a,g,gR [],kr,lr,os⟩ (topStub p)).map (fun r=>r.2.1)=some ⟨b w.params,c,l₁,C,d,D,os⟩)
  (l:∀ (w:eL) (os:eM),((staticsOk (gH p.main.body) (eg w.params) (absHeap (b w.params) c l₁)&&namesBound p (absHeap (b w.params) c l₁)&&gensDone ⟨absHeap (b w.params) c l₁,C,d,D,os⟩&&laidKept (eg w.params) (absHeap (b w.params) c l₁)),
    openSeen q loose (gH p.main.body) (fun _=>true) true ⟨absHeap (b w.params) c l₁,C,d,D,os⟩,y ⟨absHeap (b w.params) c l₁,C,d,D,os⟩)=(true,openGood q loose,Y w)) :
  LeftO p q loose (fun _=>true) y Y N true :=
 LeftO.of_pieces (H₁:=fun P=>absHeap (b P) c l₁) (boot_open e H f) S (fun w os=>Ik hb w os (run w os)) (Nat.ble_eq.mpr (bB N)) fun w=>funext (l w)
theorem Zae{q:cB}{x:aW}(h:(defOf q x).isSome=true):defOf q x=some (((defOf q x).get h).1,((defOf q x).get h).2):=(Option.some_get h).symm
end Mine
namespace Mine
open PySem
set_option genSizeOf false
inductive BI where
 | len|range|isinstance|all|int|str|list|tuple|bool|dict|valueError
 deriving DecidableEq
inductive AV where
 | none
 | bool (b:Bool)
 | int (i:Int)
 | str (s:aW)
 | tup (l:List AV)
 | lst (l:List AV)
 | ref (i:Nat)
 | rng (b:Int)
 | fn (k:Nat)
 | cls (k:Nat)
 | bi (n:BI)
 | inst (c j:Nat)
 | exc (c:Nat)
inductive AO where
 | list (l:List AV)
 | dict (l:List (Int×AV))
 | dictS (l:List ((Int×List Int)×AV))
 | dictN (l:List (aW×AV))
 | attrs (l:List (aW×AV))
 | exo (c:Nat) (d:Option Nat) (f:Bool)
abbrev AH:=List AO
abbrev AW:=Nat->Option AV
noncomputable def AM(σ:AW)(i:Nat)(v:AV):AW:=fun j=>if j=i then some v else σ j
@[simp] theorem C2 (σ:AW) (i:Nat) (v:AV):AM σ i v i=some v:=if_pos rfl
theorem inj{c:Type}{a b:c}(h:some a=some b):a=b:=da h
@[elab_as_elim] theorem Ac {α:Sort _} {a b:α} {p:α->Prop} (h:a=b) (x:p b):p a:=h▸x
@[elab_as_elim] theorem BE {α:Sort _} {a b:α} {p:α->Prop} (h:a=b) (x:p a):p b:=h▸x
section
variable {a b c d e f g:Nat}{p q r:Int}
theorem S0(h:b<a):(a-(b+1))+1=a-b:=iR (kM h)
theorem JS(h:0<=p)(H:p<(a:Int)):(p).toNat<a:=(kN h).mpr H
theorem PI(h:p<=(a:Int)):(p).toNat<=a:=Int.toNat_le.mpr h
theorem S1(h:(0:Int)<=p):∃ n:Nat,p=n:=⟨p.toNat,(bL h).symm⟩
theorem zin(h:p<q):¬ q<=p:=gS.mpr h
theorem Lq(h:p<=q):¬ q<p:=jb.mpr h
theorem JT(h:(a:Int)<=(b:Int)):a<=b:=bF.mp h
theorem z8(k:Nat)(h:((a+(8*b))+200)<c)(H:k<=200):a+k<c:=bP (gT (aQ a (8*b)) H) h
theorem GA(h:a<b):¬ b=a:=cZ h
theorem znt(h:a<b):¬ a=b:=bV h
theorem Lr(h:p<=3)(H:(a:Int)=p):a<=3:=JT (b:=3) (H▸h)
theorem Ls(h:0<=p)(b:p<=3)(c:a=(p).toNat)(d:a<=3)(H:0<p):(((((p).toNat-1):Nat):Int)+1)=p:=(congrArg ls (S0 (kO.mpr H))).trans (bL h)
theorem Z0y(h:(a-b)=(c+1))(H:b<=a):(a-(b+1))=c:=congrArg Nat.pred h
theorem S2(H:(a<b)/\((c<b)/\(d<b)))(f:(e=(b+1))\/(e=(b+3))):(¬ ((b+2)=a))/\((¬ ((b+2)=c))/\((¬ ((b+2)=d))/\(¬ ((b+2)=e)))):=⟨GA (iS 2 H.1),GA (iS 2 H.2.1),GA (iS 2 H.2.2),f.elim (fun h=>h▸GA (cp _)) (fun h=>h▸znt (cp _))⟩
theorem S3(h:a<b):((c+1)+(b-a))=((c+(b-(a+1)))+2):=S0 h▸kP c _
theorem S4(H:(a<b)/\((c<b)/\(d<b)))(f:(e=(b+1))\/(e=(b+3))):(¬ (e=a))/\((¬ (e=c))/\((¬ (e=d))/\(¬ (e=b)))) :=
 have h:b<e:=f.elim (fun h=>h▸cp _) (fun h=>h▸cR (cU 2))
 ⟨GA (jk H.1 h),GA (jk H.2.1 h),GA (jk H.2.2 h),GA h⟩
theorem S5(H:(a<b)/\((c<b)/\(d<b)))(f:(e=(b+1))\/(e=(b+3))):(¬ (b=a))/\((¬ (b=c))/\((¬ (b=d))/\(¬ (b=e)))) :=
 ⟨GA H.1,GA H.2.1,GA H.2.2,znt (f.elim (fun h=>h▸cp _) (fun h=>h▸cR (cU 2)))⟩
theorem Lu(h:(a<b)/\((c<b)/\(d<b))):(¬ (b=a))/\((¬ (b=c))/\(¬ (b=d))):=⟨GA h.1,GA h.2.1,GA h.2.2⟩
theorem S6(h:(a<b)/\((c<b)/\(d<b))):(¬ ((b+1)=a))/\((¬ ((b+1)=c))/\(¬ ((b+1)=d))):=Lu ⟨eN h.1,eN h.2.1,eN h.2.2⟩
theorem S7(H:a<125)(f:b<125)(h:((c*125)+a)=((d*125)+b)):(c=d)/\(a=b) :=
 have e:a=b:=by have:=congrArg (· % 125) h;simp only[Nat.mul_add_mod_self_right,eh H,eh f] at this;exact this
 ⟨Nat.eq_of_mul_eq_mul_right (cU 124) (Nat.add_right_cancel (h.trans (e▸rfl))),e⟩
theorem Z0z(H:a<=1000000)(h:b=a):b<=((a-1)+1):=h▸jl (bB _)
theorem Lv(h:0<=p)(H:p<q)(b:(a:Int)=q):(p).toNat<a:=JS h (b▸H)
theorem S8(H:(0<=p)/\(p<5)):(p=0)\/((p=1)\/((p=2)\/((p=3)\/(p=4)))):=by
 obtain⟨n,rfl⟩:=S1 H.1;have h:=dz.mp H.2;clear H;revert n;decide
theorem S9(h:(0<=p)/\(p<10)):(0<=(p / 7))/\((p / 7)<2):=⟨lM h.1 (Al rfl),jC (Al rfl) (jm h.2 (Al rfl))⟩
theorem SA(h:(0<=p)/\(p<3)):(0<=(p / 2))/\((p / 2)<2):=⟨lM h.1 (Al rfl),jC (Al rfl) (jm h.2 (Al rfl))⟩
theorem SB(H:0<=p)(h:p<=3):((p).toNat-1)<=3:=al (Nat.sub_le _ _) (PI (a:=3) h)
theorem Lw(H:0<=p)(h:p<=3):(p).toNat<=3:=PI (a:=3) h
theorem SC(h:(1<=p)/\(p<=16))(H:(a:Int)<p)(c:b=a):b<=1000000:=c▸al (JT (b:=16) (c0 (di H h.2))) (Al rfl)
theorem SD(h:a<=16):(((19999-a)+1)+a)=20000:=(kP _ a).trans (congrArg Nat.succ (kt (al h (Al rfl))))
theorem SG(b:0<=p)(h:(a:Int)<=p)(H:p<((a:Int)+1)):(p).toNat=a:=congrArg mB (Int.le_antisymm (du H) h)
theorem Z00(h:((a*(p).toNat)<=1048576)/\(((-1048576)<=p)/\(p<=1048576))):((-9223372036854775808)<=p)/\(p<9223372036854775808):=⟨aO (Al rfl) h.2.1,cF h.2.2 (Al rfl)⟩
theorem Z01(h:(a-b)=(c+1))(H:b=a):False:=Nat.succ_ne_zero c (h.symm.trans (H▸jo b))
theorem SH(H:(a+1)<=16)(h:(a+1)<=b):b=((b-1)+1):=(iR (aZ (cU a) h)).symm
theorem SI(h:(0<=p)/\(p<6)):(1+p)=((((1+p)).toNat:Nat):Int):=(bL (l6 (Al rfl) h.1)).symm
theorem SJ(b:1<=p)(h:p<=4)(H:a=((p+1)).toNat):a<=1000000:=H▸al (PI (a:=5) (eR h 1)) (Al rfl)
theorem SL(h:(0<=p)/\(p<4))(H:(1+p)=q):(1<=q)/\(q<=4):=H▸⟨gK h.1 1,eY p 1▸h.2⟩
theorem Z02(h:((a+(8*b))+200)<c):((a+1)+2)<c:=z8 3 h (Al rfl)
theorem om0(h:((a+(8*b))+200)<c):((a+1)+64)<c:=z8 65 h (Al rfl)
theorem om1(h:((a+(8*b))+200)<c):(a+64)<c:=z8 64 h (Al rfl)
theorem Z03(h:(a-b)=(c+1))(H:b<=a):(b+1)<=a:=Nat.lt_of_sub_pos (h▸cU c)
theorem SM(h:(0<=p)/\(p<6))(H:(1+p)=(a:Int)):(((b+1)+1)+a)<=(b+8):=fc b 2 a▸cj (cj (JT (b:=6) (H▸eY p 1▸h.2)) 2) b
theorem om3(h:((a+(8*(b+1)))+200)<c)(H:d<=7):(((a+d)+(8*b))+200)<c:=bP (ba (bQ a d (8*b)▸cj (fD H) (a+8*b)) 200) h
theorem Z04(h:(a-b)=0)(H:b<=a):b=a:=lN H (Nat.le_of_sub_eq_zero h)
theorem Z05(h:((a*(p).toNat)<=1000000)/\(((-1000000)<=p)/\(p<=1000000))):(a*(p).toNat)<=1048576:=al h.1 (Al rfl)
theorem Z06(h:((a*(p).toNat)<=1048576)/\(((-1048576)<=p)/\(p<=1048576))):(a*(p).toNat)<=16777216:=al h.1 (Al rfl)
theorem Z07(h:((a*(p).toNat)<=1000000)/\(((-1000000)<=p)/\(p<=1000000))):p<=1048576:=aO h.2.2 (Al rfl)
theorem Z08(h:((a*(p).toNat)<=1000000)/\(((-1000000)<=p)/\(p<=1000000))):(-1048576)<=p:=aO (Al rfl) h.2.1
theorem SN(h:(a+(4*(b+1)))<=64)(H:c=(a+2))(e:d=(c+2)):(d+(4*b))<=64:=e▸H▸bQ a 4 (4*b)▸h
theorem Il(h:a<=1000):(((-1)+((a:Int)+1))).toNat=a:=congrArg mB (eY (-1) _▸fe (a:Int) 1)
theorem Lx(h:(1<=p)/\(p<=16))(H:(a+1)=(p).toNat):a<=15:=c8 (al (bW H) (PI (a:=16) h.2))
theorem Ly(h:(1<=p)/\(p<=16))(H:(a+1)=(p).toNat):a<=1000:=al (Lx h H) (Al rfl)
theorem Lz(h:a<=b)(H:(c+(10*b))<=90000):(c+(10*a))<=90000:=al (cj (gL 10 h) c) H
theorem Z09(b:((-1048576)<=p)/\(p<=1048576))(h:0<=p)(H:(p).toNat<a):p<(a:Int):=(kN h).mp H
theorem Z1a(h:((a+(8*(b+1)))+200)<c):((a+(8*b))+200)<c:=om3 (d:=0) h (jN 7)
theorem SO(H:0<=p)(b:p<=3)(c:a=(p).toNat)(d:a<=3):((((p).toNat+1):Nat):Int)≠p:=fun h=>eZ _ (congrArg mB h)
theorem SQ(h:0<=p)(H:p<(a:Int))(b:a<=100):(0<=p)/\(p<=1048576):=⟨h,c0 (di H (bF.mpr (al b (Al rfl))))⟩
theorem SR(h:0<=p)(H:p<(a:Int))(b:a<=100):(0<=(p+1))/\((p+1)<=1048576):=⟨jO h,aO H (bF.mpr (al b (Al rfl)))⟩
theorem Z1b(h:(p<q)\/(r<p)):(¬ (q<=p))\/(¬ (p<=r)):=h.imp zin zin
theorem Z1c(h:((a+(8*(b+2)))+200)<c):(((a+3)+(8*(b+1)))+200)<c:=om3 h (Al rfl)
theorem Im(h:(0<=p)/\(p<5)):(p).toNat<5:=JS h.1 h.2
theorem SU(h:(a+(b+1))<=1000)(H:c<b):c<2001:=aZ H (al (cJ b) (al (fv _ a) (al h (Al rfl))))
theorem SV(c:1<=a)(h:a<=16)(H:b<=((a:Int)).toNat):b<=16:=al H h
theorem L0(h:p<=100)(H:(a:Int)=(p+1)):a<=1000:=al (JT (b:=101) (H▸eR h 1)) (Al rfl)
theorem Z1d(h:((a+b)+110)<c):(a+100)<c:=bP (gT (aQ a b) (Al rfl)) h
theorem SW(h:a<5)(H:b<c):(a+(5*b))<(c*5):=aZ (Nat.add_lt_add_right h _) (kQ (5*b) 5▸Nat.mul_comm 5 c▸gL 5 H)
theorem SX(h:((-1048576)<=p)/\(p<=1048576)):(-2000000)<=p:=aO (Al rfl) h.1
theorem SY(h:((-1048576)<=p)/\(p<=1048576)):p<=2000000:=aO h.2 (Al rfl)
theorem SZ(h:a<=100)(H:a=(b+(c+1))):b<=100:=al (aQ b _) (H▸h)
theorem Ta(h:a<=16)(H:a=(b+(c+1))):b<=16:=al (aQ b _) (H▸h)
theorem Tb(h:(1<=p)/\(p<=16))(H:(a+1)=(p).toNat):((a:Int)+1)=p:=(congrArg ls H).trans (bL (aO (Al rfl) h.1))
theorem L3(h:((a:Int)+1)=p)(H:p<=3)(c:b=(a+1)):a<=999999:=al (cJ a) (al (JT (a:=a+1) (b:=3) (h▸H :)) (Al rfl))
theorem Tc(H:((a:Int)+1)=p)(c:p<=3)(h:b=(a+1)):b<=1000000:=h▸cx (L3 H c h)
theorem Td(h:(a+(4*(b+1)))<=64)(H:c=(a+2)):c<=900:=H▸al (gT (aQ a (4*b)) (by decide:2<=4)) (al h (by decide:64<=900))
theorem Te(h:(1<=p)/\(p<=16))(H:0=(p).toNat):False:=bV (kO.mpr (di (b:=1) (Al rfl) h.1)) H
theorem Tf(h:(0<=p)/\(p<4))(H:(1+p)=q):0<=q:=H▸l6 (Al rfl) h.1
theorem Th(h:0<=p)(H:p<=3)(b:a=(p).toNat):a<=1000000:=b▸al (Lw h H) (Al rfl)
theorem Ti(h:(0<=p)/\(p<6)):p<=1000000:=aO (c0 h.2) (Al rfl)
theorem Z1e(h:(a+(b+1))<=c):a<c:=aZ (cR (cU b)) h
theorem om2(h:((a+(b+1))+110)<c):(((a+1)+b)+110)<c:=bQ a 1 b▸h
theorem Z1f(h:((a+(b+2))+110)<c):(((a+1)+(b+1))+110)<c:=bQ a 1 (b+1)▸h
theorem Z1g(h:((-1048576)<=p)/\(p<=1048576)):(((p).toNat:Nat):Int)<=2000000:=bF.mpr (al (PI (a:=1048576) h.2) (Al rfl))
theorem Tj(H:p<=4)(h:(0<=q)/\(q<=p)):(0<=q)/\(q<=4):=⟨h.1,aO h.2 H⟩
theorem Z1h(h:p<=17):(p-1)<99:=cF (jP h 1) (Al rfl)
theorem Z1i(h:p<=3):(p-1)<3:=cF (jP h 1) (Al rfl)
theorem Tk(H:p=(a:Int))(h:q<(a:Int)):q<(((a+1):Nat):Int):=jm h (jQ _)
theorem Z1j(h:¬ (p<q)):(q-1)<p:=gD (jb.mp h)
theorem D2(h:p<=3)(H:q<p):q<=1000000:=aO (c0 H) (aO h (Al rfl))
theorem Tl(h:a<=(b+1))(H:(b+(c+1))<=1000):(a+c)<=1000:=al (ba h c) (bQ b 1 c▸H)
theorem L4(e:1<=a)(h:a<=16)(H:(b:Int)<(a:Int))(d:c<=b):c<=1000000:=al d (al (cC (dz.mp H)) (al h (Al rfl)))
theorem L5(h:(1<=p)/\(p<=16)):0<p:=h.1
theorem L6(h:(0<=p)/\(p<(q+1))):(0<=p)/\(p<=q):=⟨h.1,du h.2⟩
theorem Tm(H:0<=p)(h:a<=100):a<=(100+((p+1)).toNat):=Nat.le_add_right_of_le h
theorem om7(h:(a+(b+1))<=1048576):((a+1)+b)<=1048576:=bQ a 1 b▸h
theorem Z1k(h:(a+(b+1))<=c):((a+1)+b)<=c:=bQ a 1 b▸h
theorem Z1l(h:(0<=p)/\((p<=64)/\(a<b))):p<=1000000:=aO h.2.1 (Al rfl)
theorem Tn(h:a=10)(H:b=2):1<=(a+b):=h▸H▸by decide
theorem To(h:a=10)(H:b=2):(a+b)<=12:=h▸H▸by decide
theorem Tp(h:a=10)(H:b=2):(a+b)<=1000000:=h▸H▸by decide
theorem Tq(h:a=10):1<=a:=h▸by decide
theorem Z1m(h:a=6):0<a:=h▸by decide
theorem Tr(h:a=(5+4)):4<a:=h▸by decide
theorem Tt(d:1<=p)(h:p<=4)(H:(a:Int)<(p+1))(c:b=a):b<=1000000:=c▸al (JT (b:=4) (aO (du H) h)) (Al rfl)
theorem Tu(H:(a+(10*(b+2)))<=90000)(h:(c+(b+2))<=1000):c<=10000:=al (aQ c _) (al h (Al rfl))
theorem Io(h:(a:Int)=(p+1))(H:p<=4):a<=1000000:=al (JT (b:=5) (h▸eR H 1)) (Al rfl)
theorem Tv(h:9<a)(d:b=(a+1))(H:c<10):c≠a:=bV (aZ H h)
theorem Z1n(h:((a+(b+2))+110)<c):a<c:=bP (al (aQ a _) (aQ _ _)) h
theorem Tw(h:a<=b)(H:(c+b)<=1000):(c+a)<=1000:=al (cj h c) H
theorem Tx(h:a<((b+1)+c)):a<(b+(c+1)):=bQ b 1 c▸h
theorem Ty(h:a<=99990):(((a+1)+1)+1)<=99999:=al (ba h 3) (Al rfl)
theorem Tz(h:a<=99990):((a+1)+1)<=99999:=al (ba h 2) (Al rfl)
theorem T0(h:(a+(10*(b+1)))<=90000):(a+(10*b))<=90000:=Lz (cJ b) h
theorem Hm(h:a<=99999)(H:b<=a):b<=100000:=al H (al h (Al rfl))
theorem T1(d:0<=p)(h:p<=3)(H:(a:Int)<p)(c:b=a):b<=999999:=c▸al (JT (b:=3) (aO (c0 H) h)) (Al rfl)
theorem T2(h:a<=b)(H:c<=(a+1)):c<=(b+1):=al H (cx h)
theorem T3(h:a=5)(H:b<5):(-(a:Int))<=(b:Int):=aO (iA (bd a)) (bd b)
theorem om8(h:(a+2)<b):a<b:=bP (aQ a 2) h
theorem T4(c:1<=a)(h:a<=16)(H:a=(b+1)):b<=1000:=al (cJ b) (al (bW H.symm) (al h (Al rfl)))
theorem T5(h:a<3):(a:Int)<=1000:=bF.mpr (al (cC h) (Al rfl))
theorem Z1o(h:(a+(b+1))<=16):(a+b)<=19:=al (cJ _) (al h (Al rfl))
theorem L7(h:((a+1)+b)=2001):(a+(b+1))=2001:=bQ a 1 b▸h
theorem T6(h:a<=900):(10+(10*a))<=90000:=al (cj (gL 10 h) 10) (Al rfl)
theorem Z1p(h:a<b):a<(b+c):=aZ h (aQ b c)
theorem T7(h:(a+(b+1))<=1000):a<=999:=c8 (aZ (cR (cU b)) h)
theorem PJ(h:¬ (0<=p)):(p+(a:Int))<(a:Int):=by have:=Int.add_lt_add_right (gS.mp h) (a:Int);rwa [mG] at this
theorem L8(h:p<(a:Int))(H:a<=1000):p<=1000000:=aO (c0 h) (bF.mpr (al H (Al rfl)))
theorem L9(h:(a+(4*(b+1)))<=64):(a+(4*b))<=64:=al (aQ _ 4) h
theorem LA(h:(a+(10*(b+1)))<=90000):((a+10)+(10*b))<=90000:=bQ a 10 (10*b)▸h
theorem T8(h:(0<=p)/\(p<6))(H:(1+p)=(a:Int)):a<=6:=JT (b:=6) (H▸eY p 1▸h.2)
theorem T9(H:a=((b+1)+2))(h:c=(b+3)):b<=c:=h▸aQ b 3
theorem Z1q(h:¬ (a<b))(H:c<b)(d:c=a):False:=h (d▸H)
theorem Z1r(h:¬ (a<=b))(H:c<=b):c<=a:=al H (fZ h)
theorem LB(h:9<a)(H:b=(a+1)):¬ (4=a):=bV (jk (Al rfl) h)
theorem Hn(h:a<b)(H:b<=c):¬ (c=a):=GA (aZ h H)
theorem LC(h:a<b)(H:b<=c):¬ (a=c):=znt (aZ h H)
theorem Z1s(h:p<=q):¬ (q<p):=Lq h
theorem Z1t(h:(a:Int)<=p):¬ (p<(a:Int)):=Lq h
theorem Z1u(h:(a:Int)<p):¬ ((a:Int) ≥ p):=zin h
theorem TA(h:(0<=p)/\(p<=1048576)):¬ (p<0):=Lq h.1
theorem Z1v(h:(a<=1048576)/\((0<=p)/\(p<=(a:Int)))):¬ (p<0):=Lq h.2.1
theorem TB(h:0<=p):¬ (p<0):=Lq h
theorem Z1w(h:(a<=1048576)/\(((-(a:Int))<=p)/\(p<(a:Int))))(H:b=a):p<(a:Int):=h.2.2
theorem TC(h:0<=p)(b:p<=1000)(H:p<(a:Int)):(p).toNat<a:=JS h H
theorem TD(h:0<=p)(H:p<(a:Int))(b:a<=1000):(p).toNat<a:=JS h H
theorem LD(h:0<=p)(H:p<(a:Int)):(p).toNat<a:=JS h H
theorem TF(h:0<=p)(H:p<(a:Int))(b:a<=100):(p).toNat<a:=JS h H
theorem om4(h:¬ (a<b))(H:a<(b+1)):a=b:=lN (kR H) (f0.mp h)
theorem TH(c:0<=p)(h:p<=3)(H:(a:Int)=p):a<=1000000:=al (JT (b:=3) (H▸h)) (Al rfl)
theorem LE:((7*a)+1)<=((7*(a+1))+1):=cx (aQ _ 7)
theorem TI:(0+((a:Int)*1))=(a:Int):=(mG _).trans (lH _)
theorem Z1x(h:a=b)(H:c=a):c<=b:=bW (H.trans h)
theorem TJ(h:a<=16):(0+a)<=1000000:=(ey a).symm▸al h (Al rfl)
theorem TK(h:a<=900):(0+a)<=1000:=(ey a).symm▸al h (Al rfl)
theorem TL(H:(a:Int)=p):¬ (((a:Int)+1)=p):=fun h=>eZ a (iB (h.trans H.symm))
theorem TM(h:(a<=1048576)/\(((-(a:Int))<=p)/\(p<(a:Int))))(H:b=a):0<=(p+(a:Int)):=Int.add_left_neg (a:Int)▸eR h.2.1 (a:Int)
theorem Z1y(h:0<=(p+(a:Int))):(-(a:Int))<=p:=by have:=gK h (-(a:Int));rwa [kS,eY,fe] at this
theorem TN(h:a=5)(H:b<5):(b:Int)<(a:Int):=h▸dz.mpr H
theorem TO(h:a<=16):¬ (20<(a:Int)):=Lq (bF.mpr (al h (Al rfl)))
theorem TP(h:(a+b)<=19)(H:c=((a+b)+1)):¬ (20<((((a+b)+1):Nat):Int)):=Lq (bF.mpr (cx h))
theorem Z1z(h:a<=16):(((a+1):Nat):Int)<=17:=bF.mpr (cx h)
theorem TQ(h:a<=16)(H:b=(a+1)):1<=(((a+1):Nat):Int):=bF.mpr (cx (jN a))
theorem TR(h:a<=16)(H:b=(a+1)):(((a+1):Nat):Int)<=20:=bF.mpr (al (cx h) (Al rfl))
theorem LF(h:p<(a:Int))(H:a<=16):p<=1000000:=L8 h (al H (Al rfl))
theorem Z10(h:p<=4)(H:(a:Int)=(p+1)):a<=1000000:=Io H h
theorem Z11(h:(a:Int)<=p):((a:Int)-1)<p:=gD h
theorem TS(h:p=(a:Int))(H:q=p)(b:q<(a:Int)):False:=Int.lt_irrefl _ ((H.trans h)▸b)
theorem TT:0<((a:Int)+1):=dz.mpr (fE a)
theorem TU:(((a+(0+1)):Nat):Int)>(a:Int):=dz.mpr (cp a)
theorem Z12:(a:Int)<=(((a+1):Nat):Int):=bF.mpr (cJ a)
theorem Ip(h:0<=p)(H:¬ (p=0)):0<p:=Int.lt_iff_le_and_ne.mpr ⟨h,ct H⟩
theorem TV:((a+1)+4)<=(a+10):=cj (by decide:5<=10) a
theorem Z13:((a+2)+4)<=(a+10):=cj (by decide:6<=10) a
theorem TX:(a+1)<=(a+7):=cj (by decide:1<=7) a
theorem TY:(a+3)≠(a+2):=eZ _
theorem Iq(h:1<=a):0<=((a:Int)-1):=Int.sub_nonneg_of_le (bF.mpr h)
theorem TZ(h:1<=p)(H:p<=4):0<=(p+1):=jO (aO (Al rfl) h)
theorem Ua(H:1<=a)(b:a<=100):(a:Int)≠0:=fun h=>absurd H (iB h▸by decide)
theorem Ub(h:0<=p)(H:a<=100):(-(a:Int))<=p:=aO (iA (bd a)) h
theorem Uc:((a:Int)-1)<(a:Int):=gD (dE _)
theorem Z14(h:((-1048576)<=p)/\(p<=1048576)):(-2000000)<=(p+(1-1)):=(kS p).symm▸SX h
theorem Z15(h:((-1048576)<=p)/\(p<=1048576)):(p+(1-1))<=2000000:=(kS p).symm▸SY h
theorem Ud:p<(p+1):=jQ p
theorem Ue:(a+3)≠(a+1):=fun h=>absurd (j9 h) (Al rfl)
theorem LH(h:a<=1000):0<=((-1)+((a:Int)+1)):=by rw[show (-1)+((a:Int)+1)=a from eY (-1) _▸fe (a:Int) 1];exact bd a
theorem Uf:¬ (a<0):=cO a
theorem Ug(h:1<=p)(H:0=(p+1)):False:=Int.ne_of_lt (di (b:=1) (Al rfl) (jO h)) H
theorem Z16:(2*(a+1))=((2*a)+2):=rfl
theorem Uh:(a+(b+1))=((a+1)+b):=bQ a b 1
theorem Z17:(0+a)<=a:=bW (ey a)
theorem Ui(h:a<=1000):1<=((a:Int)+1):=bF.mpr (cx (jN a))
theorem Uj(h:p=(a:Int)):p<(((a+1):Nat):Int):=h▸jQ _
theorem om9(h:(a:Int)<p):¬ ((a:Int)<0):=Lq (bd a)
theorem Uk:¬ (((a+1)+1)=a):=GA (cR (cU 1))
theorem Ul:a≠(a+1):=(eZ a).symm
theorem Um(h:p<(a:Int)):p<(((a+1):Nat):Int):=jm h (jQ _)
theorem Un(i:a<=b)(j:a<=c)(H:d<a)(k:(d=e)\/((d=f)\/((d=g)\/((d=b)\/(d=c))))):(d=e)\/((d=f)\/(d=g)):=k.imp_right fun h=>h.imp_right fun h=>h.resolve_right fun h=>h.elim (bV (aZ H i)) (bV (aZ H j))
theorem Uo(H:a<5)(f:b<5)(h:(a+(5*c))=(b+(5*d))):(a=b)/\(c=d) :=
 have e:a=b:=by have:=congrArg (· % 5) h;simp only[Nat.add_mul_mod_self_left,eh H,eh f] at this;exact this
 ⟨e,Nat.eq_of_mul_eq_mul_left (cU 4) (j9 (h.trans (e▸rfl)))⟩
theorem om5(H:0<=p)(a:p<2):(p=0)\/(p=1):=by
 obtain⟨n,rfl⟩:=S1 H;have h:=dz.mp a;clear H a;revert n;decide
theorem Up(h:(0<=p)/\(p<2)):(p=0)\/(p=1):=om5 h.1 h.2
theorem Uq(h:a<5)(H:(0<=(((a:Int)-p) % 5))/\((((a:Int)-p) % 5)<5)):(((p+(((((((a:Int)-p) % 5)).toNat:Nat):Int)*1)) % 5)).toNat=a:=by
 rw[bL H.1,lH,Int.add_emod_emod,eY,gU];exact eh h
theorem z45:p+q*4=p-q+q*5:=by lia
theorem Ur(h:a<5)(H:(0<=((p-(a:Int)) % 5))/\(((p-(a:Int)) % 5)<5)):(((p+((((((p-(a:Int)) % 5)).toNat:Nat):Int)*4)) % 5)).toNat=a:=by
 rw[bL H.1,z45,Int.add_mul_emod_self_right,Int.sub_emod_emod,Int.sub_sub_self];exact eh h
theorem om6(h:0<=p)(H:p<=1000000):(-1048576)<=p:=aO (Al rfl) h
theorem Z18(h:a<=1000000)(H:b=a):b<=1000000:=al (H▸h) (Al rfl)
theorem Z19(h:a=b)(H:b=c):a=c:=H▸h
theorem PK(h:¬ (0<=p)):p<0:=gS.mp h
theorem Ir(h:(a+1)<=(b+1)):a<=b:=c8 h
theorem HJ(h:a<=b):(a+1)<=(b+1):=cx h
theorem KJ(h:(a+1)<(b+1)):a<b:=c8 h
theorem Z2a(h:0<=p)(H:p<=1048576):(-1048576)<=p:=aO (Al rfl) h
theorem Z2b(h:a<b)(H:c<=a):c<b:=bP H h
theorem Z2c(h:p<q):p<=(q-1):=dU h
theorem HK(h:p<=3)(H:(a:Int)=p):a<=1000000:=al (Lr h H) (Al rfl)
theorem Z2d:a<=(a+1):=aQ _ _
theorem Us(h:1<=a):0<(a:Int):=bF.mpr h
theorem Z2e:a<=(a+10):=aQ _ _
theorem Z2f(h:a<=99980):(a+2)<=99990:=al (ba h _) (Al rfl)
theorem Ut:(a+1)<=(a+2):=cJ _
theorem LJ(h:0<=p):(((p).toNat:Nat):Int)=p:=bL h
theorem Uu(h:a<=16)(H:b<=a):b<=16:=al H h
theorem LK(h:0<=p)(H:p<=3):(-1000000)<=p:=aO (Al rfl) h
theorem Gf(h:p<=3)(H:(a:Int)=p):a<=1000:=al (Lr h H) (Al rfl)
theorem Uv:(a+(b+1))=((a+b)+1):=(fc _ _ _).symm
theorem LL(h:a<b):(a+1)<(b+1):=cx h
theorem Uw(h:a<b):a<(b+1):=fD h
theorem LM:((a+1)+b)=(a+(b+1)):=bQ _ _ _
theorem Ux(h:(a:Int)=p)(H:p<=3):a<=1000000:=al (Lr H h) (Al rfl)
theorem Uy(h:(a:Int)=p)(H:¬ ((a:Int)=p)):False:=absurd h H
theorem Uz(h:0<=p):0<(p+1):=gE h
theorem U0(h:p<(q+1)):p<=q:=du h
theorem LN(h:1<=p):0<(p+1):=aO h (dJ (Al rfl))
theorem U1(h:(a+(b+1))<=1000):a<=1000:=al (aQ _ _) h
theorem LO(h:a<=1000):a<=1000000:=al h (Al rfl)
theorem U2(h:a<=1000):a<=1000:=h
theorem U3:(a+1)<=((a+1)+1):=aQ _ _
theorem U4(h:1<=a)(H:a<=100):0<(a:Int):=bF.mpr h
theorem U5(h:a=10):a<=12:=al (bW h) (Al rfl)
theorem U6(h:a<=b)(H:c<=a):c<=b:=al H h
theorem U7(h:(a+(10*(b+2)))<=90000):a<=99980:=al (aQ _ _) (al h (Al rfl))
theorem U8(h:10<=a)(H:a<10):False:=absurd H (lu h)
theorem LP(h:9<a)(H:a<=b):10<=b:=al h H
theorem U9(h:(a+(4*(b+1)))<=64):a<=900:=al (aQ _ _) (al h (Al rfl))
theorem UA(h:(a+(4*b))<=64):a<=10000:=al (aQ _ _) (al h (Al rfl))
theorem UB(h:0<=p)(H:p<=3):(-1048576)<=p:=aO (Al rfl) h
theorem UC(h:1<=a)(H:a<=16):0<(a:Int):=bF.mpr h
theorem UD(h:p<((a:Int)+1)):p<=(a:Int):=du h
theorem UE(h:a<=b):a<=(b+1):=fD h
theorem LQ(h:(a:Int)=p)(H:p<=3):a<=1000:=al (Lr H h) (Al rfl)
theorem LR(h:a<=100):a<=1000000:=al h (Al rfl)
theorem UF(h:p<=3)(H:(a:Int)=p):(a+1)<=1000000:=bP (Lr h H) (Al rfl)
theorem UG(h:p<=3)(H:(a:Int)=p):a<=999:=al (Lr h H) (Al rfl)
theorem UH(h:a=5):a<=1048576:=al (bW h) (Al rfl)
theorem UI(h:(a:Int)<5):a<5:=bF.mp h
theorem Cc(h:p<=3)(H:(a:Int)=p):a<=100:=al (Lr h H) (Al rfl)
theorem UJ(h:a<=16):a<=1000:=al h (Al rfl)
theorem LS(h:p<=4):p<=100:=aO h (Al rfl)
theorem Fr(h:0<=p):0<=(p+1):=aO h (dJ (Al rfl))
theorem UK(h:p<=3)(H:(a:Int)=p):a<=3:=al (Lr h H) (Al rfl)
theorem UL:a<=(a+4):=aQ _ _
theorem LU(h:a<=100):a<=1048576:=al h (Al rfl)
theorem UM(h:p<(a:Int)):p<(a:Int):=h
theorem UN(h:p<q)(H:(a:Int)=q):p<(a:Int):=H▸h
end
theorem AX{p q G:Prop}(h:p/\q)(k:p->q->G):G:=k h.1 h.2
theorem GH{p P a:Prop}{G:Prop}(h:p/\P/\a)(k:p->P->a->G):G:=k h.1 h.2.1 h.2.2
theorem F3{p P a b:Prop}{G:Prop}(h:p/\P/\a/\b)(k:p->P->a->b->G):G:=k h.1 h.2.1 h.2.2.1 h.2.2.2
theorem Z2g{p P a b c d:Prop}{G:Prop}(h:p/\P/\a/\b/\c/\d)(k:p->P->a->b->c->d->G):G:=k h.1 h.2.1 h.2.2.1 h.2.2.2.1 h.2.2.2.2.1 h.2.2.2.2.2
theorem Ah{A:Type}{p P:A->Prop}{G:Prop}(h:∃ (x0:A),p x0/\P x0)(k:∀ (x0:A),p x0->P x0->G):G:=h.elim fun x0 h=>k x0 h.1 h.2
theorem Bu{A:Type}{p P a:A->Prop}{G:Prop}(h:∃ (x0:A),p x0/\P x0/\a x0)(k:∀ (x0:A),p x0->P x0->a x0->G):G:=h.elim fun x0 h=>k x0 h.1 h.2.1 h.2.2
theorem F4{A:Type}{p P a b:A->Prop}{G:Prop}(h:∃ (x0:A),p x0/\P x0/\a x0/\b x0)(k:∀ (x0:A),p x0->P x0->a x0->b x0->G):G:=h.elim fun x0 h=>k x0 h.1 h.2.1 h.2.2.1 h.2.2.2
theorem PL{A:Type}{p P a b c:A->Prop}{G:Prop}(h:∃ (x0:A),p x0/\P x0/\a x0/\b x0/\c x0)(k:∀ (x0:A),p x0->P x0->a x0->b x0->c x0->G):G:=h.elim fun x0 h=>k x0 h.1 h.2.1 h.2.2.1 h.2.2.2.1 h.2.2.2.2
theorem Z2h{A:Type}{p P a b c d:A->Prop}{G:Prop}(h:∃ (x0:A),p x0/\P x0/\a x0/\b x0/\c x0/\d x0)(k:∀ (x0:A),p x0->P x0->a x0->b x0->c x0->d x0->G):G:=h.elim fun x0 h=>k x0 h.1 h.2.1 h.2.2.1 h.2.2.2.1 h.2.2.2.2.1 h.2.2.2.2.2
theorem Ez{A a:Type}{p:A->a->Prop}{G:Prop}(h:∃ (x0:A) (x1:a),p x0 x1)(k:∀ (x0:A) (x1:a),p x0 x1->G):G:=h.elim fun x0 h=>h.elim fun x1 h=>k x0 x1 h
theorem UO{A a:Type}{P b c d e f g i j l p:A->a->Prop}{G:Prop}(h:∃ (x0:A) (x1:a),P x0 x1/\b x0 x1/\c x0 x1/\d x0 x1/\e x0 x1/\f x0 x1/\g x0 x1/\i x0 x1/\j x0 x1/\l x0 x1/\p x0 x1)(k:∀ (x0:A) (x1:a),P x0 x1->b x0 x1->c x0 x1->d x0 x1->e x0 x1->f x0 x1->g x0 x1->i x0 x1->j x0 x1->l x0 x1->p x0 x1->G):G:=h.elim fun x0 h=>h.elim fun x1 h=>k x0 x1 h.1 h.2.1 h.2.2.1 h.2.2.2.1 h.2.2.2.2.1 h.2.2.2.2.2.1 h.2.2.2.2.2.2.1 h.2.2.2.2.2.2.2.1 h.2.2.2.2.2.2.2.2.1 h.2.2.2.2.2.2.2.2.2.1 h.2.2.2.2.2.2.2.2.2.2
theorem Cg{A a:Type}{p P:A->a->Prop}{G:Prop}(h:∃ (x0:A) (x1:a),p x0 x1/\P x0 x1)(k:∀ (x0:A) (x1:a),p x0 x1->P x0 x1->G):G:=h.elim fun x0 h=>h.elim fun x1 h=>k x0 x1 h.1 h.2
theorem B2{A a:Type}{p P b:A->a->Prop}{G:Prop}(h:∃ (x0:A) (x1:a),p x0 x1/\P x0 x1/\b x0 x1)(k:∀ (x0:A) (x1:a),p x0 x1->P x0 x1->b x0 x1->G):G:=h.elim fun x0 h=>h.elim fun x1 h=>k x0 x1 h.1 h.2.1 h.2.2
theorem BJ{A a:Type}{p P b c:A->a->Prop}{G:Prop}(h:∃ (x0:A) (x1:a),p x0 x1/\P x0 x1/\b x0 x1/\c x0 x1)(k:∀ (x0:A) (x1:a),p x0 x1->P x0 x1->b x0 x1->c x0 x1->G):G:=h.elim fun x0 h=>h.elim fun x1 h=>k x0 x1 h.1 h.2.1 h.2.2.1 h.2.2.2
theorem CZ{A a:Type}{p P b c d:A->a->Prop}{G:Prop}(h:∃ (x0:A) (x1:a),p x0 x1/\P x0 x1/\b x0 x1/\c x0 x1/\d x0 x1)(k:∀ (x0:A) (x1:a),p x0 x1->P x0 x1->b x0 x1->c x0 x1->d x0 x1->G):G:=h.elim fun x0 h=>h.elim fun x1 h=>k x0 x1 h.1 h.2.1 h.2.2.1 h.2.2.2.1 h.2.2.2.2
theorem Gg{A a b:Type}{p P:A->a->b->Prop}{G:Prop}(h:∃ (x0:A) (x1:a) (x2:b),p x0 x1 x2/\P x0 x1 x2)(k:∀ (x0:A) (x1:a) (x2:b),p x0 x1 x2->P x0 x1 x2->G):G:=h.elim fun x0 h=>h.elim fun x1 h=>h.elim fun x2 h=>k x0 x1 x2 h.1 h.2
theorem Do{A a b:Type}{p P c:A->a->b->Prop}{G:Prop}(h:∃ (x0:A) (x1:a) (x2:b),p x0 x1 x2/\P x0 x1 x2/\c x0 x1 x2)(k:∀ (x0:A) (x1:a) (x2:b),p x0 x1 x2->P x0 x1 x2->c x0 x1 x2->G):G:=h.elim fun x0 h=>h.elim fun x1 h=>h.elim fun x2 h=>k x0 x1 x2 h.1 h.2.1 h.2.2
theorem Dl{A a b:Type}{p P c d:A->a->b->Prop}{G:Prop}(h:∃ (x0:A) (x1:a) (x2:b),p x0 x1 x2/\P x0 x1 x2/\c x0 x1 x2/\d x0 x1 x2)(k:∀ (x0:A) (x1:a) (x2:b),p x0 x1 x2->P x0 x1 x2->c x0 x1 x2->d x0 x1 x2->G):G:=h.elim fun x0 h=>h.elim fun x1 h=>h.elim fun x2 h=>k x0 x1 x2 h.1 h.2.1 h.2.2.1 h.2.2.2
theorem GI{A a b:Type}{p P c d e:A->a->b->Prop}{G:Prop}(h:∃ (x0:A) (x1:a) (x2:b),p x0 x1 x2/\P x0 x1 x2/\c x0 x1 x2/\d x0 x1 x2/\e x0 x1 x2)(k:∀ (x0:A) (x1:a) (x2:b),p x0 x1 x2->P x0 x1 x2->c x0 x1 x2->d x0 x1 x2->e x0 x1 x2->G):G:=h.elim fun x0 h=>h.elim fun x1 h=>h.elim fun x2 h=>k x0 x1 x2 h.1 h.2.1 h.2.2.1 h.2.2.2.1 h.2.2.2.2
theorem UP{A a b:Type}{p P c d e f:A->a->b->Prop}{G:Prop}(h:∃ (x0:A) (x1:a) (x2:b),p x0 x1 x2/\P x0 x1 x2/\c x0 x1 x2/\d x0 x1 x2/\e x0 x1 x2/\f x0 x1 x2)(k:∀ (x0:A) (x1:a) (x2:b),p x0 x1 x2->P x0 x1 x2->c x0 x1 x2->d x0 x1 x2->e x0 x1 x2->f x0 x1 x2->G):G:=h.elim fun x0 h=>h.elim fun x1 h=>h.elim fun x2 h=>k x0 x1 x2 h.1 h.2.1 h.2.2.1 h.2.2.2.1 h.2.2.2.2.1 h.2.2.2.2.2
theorem It{A a b:Type}{p P c d e f g:A->a->b->Prop}{G:Prop}(h:∃ (x0:A) (x1:a) (x2:b),p x0 x1 x2/\P x0 x1 x2/\c x0 x1 x2/\d x0 x1 x2/\e x0 x1 x2/\f x0 x1 x2/\g x0 x1 x2)(k:∀ (x0:A) (x1:a) (x2:b),p x0 x1 x2->P x0 x1 x2->c x0 x1 x2->d x0 x1 x2->e x0 x1 x2->f x0 x1 x2->g x0 x1 x2->G):G:=h.elim fun x0 h=>h.elim fun x1 h=>h.elim fun x2 h=>k x0 x1 x2 h.1 h.2.1 h.2.2.1 h.2.2.2.1 h.2.2.2.2.1 h.2.2.2.2.2.1 h.2.2.2.2.2.2
theorem Ho{A a b c:Type}{p P d e f g i j l m:A->a->b->c->Prop}{G:Prop}(h:∃ (x0:A) (x1:a) (x2:b) (x3:c),p x0 x1 x2 x3/\P x0 x1 x2 x3/\d x0 x1 x2 x3/\e x0 x1 x2 x3/\f x0 x1 x2 x3/\g x0 x1 x2 x3/\i x0 x1 x2 x3/\j x0 x1 x2 x3/\l x0 x1 x2 x3/\m x0 x1 x2 x3)(k:∀ (x0:A) (x1:a) (x2:b) (x3:c),p x0 x1 x2 x3->P x0 x1 x2 x3->d x0 x1 x2 x3->e x0 x1 x2 x3->f x0 x1 x2 x3->g x0 x1 x2 x3->i x0 x1 x2 x3->j x0 x1 x2 x3->l x0 x1 x2 x3->m x0 x1 x2 x3->G):G:=h.elim fun x0 h=>h.elim fun x1 h=>h.elim fun x2 h=>h.elim fun x3 h=>k x0 x1 x2 x3 h.1 h.2.1 h.2.2.1 h.2.2.2.1 h.2.2.2.2.1 h.2.2.2.2.2.1 h.2.2.2.2.2.2.1 h.2.2.2.2.2.2.2.1 h.2.2.2.2.2.2.2.2.1 h.2.2.2.2.2.2.2.2.2
theorem UQ{A a b c:Type}{p P:A->a->b->c->Prop}{G:Prop}(h:∃ (x0:A) (x1:a) (x2:b) (x3:c),p x0 x1 x2 x3/\P x0 x1 x2 x3)(k:∀ (x0:A) (x1:a) (x2:b) (x3:c),p x0 x1 x2 x3->P x0 x1 x2 x3->G):G:=h.elim fun x0 h=>h.elim fun x1 h=>h.elim fun x2 h=>h.elim fun x3 h=>k x0 x1 x2 x3 h.1 h.2
theorem Dp{A a b c:Type}{p P d:A->a->b->c->Prop}{G:Prop}(h:∃ (x0:A) (x1:a) (x2:b) (x3:c),p x0 x1 x2 x3/\P x0 x1 x2 x3/\d x0 x1 x2 x3)(k:∀ (x0:A) (x1:a) (x2:b) (x3:c),p x0 x1 x2 x3->P x0 x1 x2 x3->d x0 x1 x2 x3->G):G:=h.elim fun x0 h=>h.elim fun x1 h=>h.elim fun x2 h=>h.elim fun x3 h=>k x0 x1 x2 x3 h.1 h.2.1 h.2.2
theorem GJ{A a b c:Type}{p P d e:A->a->b->c->Prop}{G:Prop}(h:∃ (x0:A) (x1:a) (x2:b) (x3:c),p x0 x1 x2 x3/\P x0 x1 x2 x3/\d x0 x1 x2 x3/\e x0 x1 x2 x3)(k:∀ (x0:A) (x1:a) (x2:b) (x3:c),p x0 x1 x2 x3->P x0 x1 x2 x3->d x0 x1 x2 x3->e x0 x1 x2 x3->G):G:=h.elim fun x0 h=>h.elim fun x1 h=>h.elim fun x2 h=>h.elim fun x3 h=>k x0 x1 x2 x3 h.1 h.2.1 h.2.2.1 h.2.2.2
theorem Z2i{A a b c:Type}{p P d e f:A->a->b->c->Prop}{G:Prop}(h:∃ (x0:A) (x1:a) (x2:b) (x3:c),p x0 x1 x2 x3/\P x0 x1 x2 x3/\d x0 x1 x2 x3/\e x0 x1 x2 x3/\f x0 x1 x2 x3)(k:∀ (x0:A) (x1:a) (x2:b) (x3:c),p x0 x1 x2 x3->P x0 x1 x2 x3->d x0 x1 x2 x3->e x0 x1 x2 x3->f x0 x1 x2 x3->G):G:=h.elim fun x0 h=>h.elim fun x1 h=>h.elim fun x2 h=>h.elim fun x3 h=>k x0 x1 x2 x3 h.1 h.2.1 h.2.2.1 h.2.2.2.1 h.2.2.2.2
theorem KK{A a b c:Type}{p P d e f g i j:A->a->b->c->Prop}{G:Prop}(h:∃ (x0:A) (x1:a) (x2:b) (x3:c),p x0 x1 x2 x3/\P x0 x1 x2 x3/\d x0 x1 x2 x3/\e x0 x1 x2 x3/\f x0 x1 x2 x3/\g x0 x1 x2 x3/\i x0 x1 x2 x3/\j x0 x1 x2 x3)(k:∀ (x0:A) (x1:a) (x2:b) (x3:c),p x0 x1 x2 x3->P x0 x1 x2 x3->d x0 x1 x2 x3->e x0 x1 x2 x3->f x0 x1 x2 x3->g x0 x1 x2 x3->i x0 x1 x2 x3->j x0 x1 x2 x3->G):G:=h.elim fun x0 h=>h.elim fun x1 h=>h.elim fun x2 h=>h.elim fun x3 h=>k x0 x1 x2 x3 h.1 h.2.1 h.2.2.1 h.2.2.2.1 h.2.2.2.2.1 h.2.2.2.2.2.1 h.2.2.2.2.2.2.1 h.2.2.2.2.2.2.2
theorem UR{A a b c d:Type}{P e f g i j l m n o p:A->a->b->c->d->Prop}{G:Prop}(h:∃ (x0:A) (x1:a) (x2:b) (x3:c) (x4:d),P x0 x1 x2 x3 x4/\e x0 x1 x2 x3 x4/\f x0 x1 x2 x3 x4/\g x0 x1 x2 x3 x4/\i x0 x1 x2 x3 x4/\j x0 x1 x2 x3 x4/\l x0 x1 x2 x3 x4/\m x0 x1 x2 x3 x4/\n x0 x1 x2 x3 x4/\o x0 x1 x2 x3 x4/\p x0 x1 x2 x3 x4)(k:∀ (x0:A) (x1:a) (x2:b) (x3:c) (x4:d),P x0 x1 x2 x3 x4->e x0 x1 x2 x3 x4->f x0 x1 x2 x3 x4->g x0 x1 x2 x3 x4->i x0 x1 x2 x3 x4->j x0 x1 x2 x3 x4->l x0 x1 x2 x3 x4->m x0 x1 x2 x3 x4->n x0 x1 x2 x3 x4->o x0 x1 x2 x3 x4->p x0 x1 x2 x3 x4->G):G:=h.elim fun x0 h=>h.elim fun x1 h=>h.elim fun x2 h=>h.elim fun x3 h=>h.elim fun x4 h=>k x0 x1 x2 x3 x4 h.1 h.2.1 h.2.2.1 h.2.2.2.1 h.2.2.2.2.1 h.2.2.2.2.2.1 h.2.2.2.2.2.2.1 h.2.2.2.2.2.2.2.1 h.2.2.2.2.2.2.2.2.1 h.2.2.2.2.2.2.2.2.2.1 h.2.2.2.2.2.2.2.2.2.2
theorem US{A a b c d:Type}{p P e f:A->a->b->c->d->Prop}{G:Prop}(h:∃ (x0:A) (x1:a) (x2:b) (x3:c) (x4:d),p x0 x1 x2 x3 x4/\P x0 x1 x2 x3 x4/\e x0 x1 x2 x3 x4/\f x0 x1 x2 x3 x4)(k:∀ (x0:A) (x1:a) (x2:b) (x3:c) (x4:d),p x0 x1 x2 x3 x4->P x0 x1 x2 x3 x4->e x0 x1 x2 x3 x4->f x0 x1 x2 x3 x4->G):G:=h.elim fun x0 h=>h.elim fun x1 h=>h.elim fun x2 h=>h.elim fun x3 h=>h.elim fun x4 h=>k x0 x1 x2 x3 x4 h.1 h.2.1 h.2.2.1 h.2.2.2
theorem Z2j{A a b c d:Type}{p P e f g:A->a->b->c->d->Prop}{G:Prop}(h:∃ (x0:A) (x1:a) (x2:b) (x3:c) (x4:d),p x0 x1 x2 x3 x4/\P x0 x1 x2 x3 x4/\e x0 x1 x2 x3 x4/\f x0 x1 x2 x3 x4/\g x0 x1 x2 x3 x4)(k:∀ (x0:A) (x1:a) (x2:b) (x3:c) (x4:d),p x0 x1 x2 x3 x4->P x0 x1 x2 x3 x4->e x0 x1 x2 x3 x4->f x0 x1 x2 x3 x4->g x0 x1 x2 x3 x4->G):G:=h.elim fun x0 h=>h.elim fun x1 h=>h.elim fun x2 h=>h.elim fun x3 h=>h.elim fun x4 h=>k x0 x1 x2 x3 x4 h.1 h.2.1 h.2.2.1 h.2.2.2.1 h.2.2.2.2
theorem PM{A a b c d:Type}{p P e f g i:A->a->b->c->d->Prop}{G:Prop}(h:∃ (x0:A) (x1:a) (x2:b) (x3:c) (x4:d),p x0 x1 x2 x3 x4/\P x0 x1 x2 x3 x4/\e x0 x1 x2 x3 x4/\f x0 x1 x2 x3 x4/\g x0 x1 x2 x3 x4/\i x0 x1 x2 x3 x4)(k:∀ (x0:A) (x1:a) (x2:b) (x3:c) (x4:d),p x0 x1 x2 x3 x4->P x0 x1 x2 x3 x4->e x0 x1 x2 x3 x4->f x0 x1 x2 x3 x4->g x0 x1 x2 x3 x4->i x0 x1 x2 x3 x4->G):G:=h.elim fun x0 h=>h.elim fun x1 h=>h.elim fun x2 h=>h.elim fun x3 h=>h.elim fun x4 h=>k x0 x1 x2 x3 x4 h.1 h.2.1 h.2.2.1 h.2.2.2.1 h.2.2.2.2.1 h.2.2.2.2.2
theorem Zaf{A:Type}{p:Prop}{P:Prop}{a:Prop}{b:Prop}{c:Prop}{d:A->Prop}{e:A->Prop}{f:A->Prop}{G:Prop}(h:p/\P/\a/\b/\c/\∃ x5:A,d x5/\e x5/\f x5)(k:p->P->a->b->c->∀ x5:A,d x5->e x5->f x5->G):G:=by obtain⟨H,g,i,j,l,x5,m,n,o⟩:=h;exact k H g i j l x5 m n o
theorem Zag{A:Type}{p:Prop}{P:Prop}{a:Prop}{b:Prop}{c:A->Prop}{d:A->Prop}{e:A->Prop}{G:Prop}(h:p/\P/\a/\b/\∃ x4:A,c x4/\d x4/\e x4)(k:p->P->a->b->∀ x4:A,c x4->d x4->e x4->G):G:=by obtain⟨H,f,g,i,x4,j,l,m⟩:=h;exact k H f g i x4 j l m
theorem Zah{A:Type}{p:Prop}{P:Prop}{a:Prop}{b:Prop}{c:A->Prop}{d:A->Prop}{e:A->Prop}{f:A->Prop}{G:Prop}(h:p/\P/\a/\b/\∃ x4:A,c x4/\d x4/\e x4/\f x4)(k:p->P->a->b->∀ x4:A,c x4->d x4->e x4->f x4->G):G:=by obtain⟨H,g,i,j,x4,l,m,n,o⟩:=h;exact k H g i j x4 l m n o
theorem UT{A:Type}{p:Prop}{P:Prop}{a:A->Prop}{b:A->Prop}{G:Prop}(h:p/\P/\∃ x2:A,a x2/\b x2)(k:p->P->∀ x2:A,a x2->b x2->G):G:=by obtain⟨H,c,x2,d,e⟩:=h;exact k H c x2 d e
theorem Zai{A:Type}{p:Prop}{P:Prop}{a:A->Prop}{b:A->Prop}{c:A->Prop}{d:A->Prop}{G:Prop}(h:p/\P/\∃ x2:A,a x2/\b x2/\c x2/\d x2)(k:p->P->∀ x2:A,a x2->b x2->c x2->d x2->G):G:=by obtain⟨H,e,x2,f,g,i,j⟩:=h;exact k H e x2 f g i j
theorem mae{A:Type}{p:Prop}{P:A->Prop}{G:Prop}(h:p/\∃ x1:A,P x1)(k:p->∀ x1:A,P x1->G):G:=by obtain⟨H,x1,a⟩:=h;exact k H x1 a
theorem PN{A:Type}{p:Prop}{P:A->Prop}{a:A->Prop}{G:Prop}(h:p/\∃ x1:A,P x1/\a x1)(k:p->∀ x1:A,P x1->a x1->G):G:=by obtain⟨H,x1,b,c⟩:=h;exact k H x1 b c
theorem UU{A:Type}{p:Prop}{P:A->Prop}{a:A->Prop}{b:A->Prop}{G:Prop}(h:p/\∃ x1:A,P x1/\a x1/\b x1)(k:p->∀ x1:A,P x1->a x1->b x1->G):G:=by obtain⟨H,x1,c,d,e⟩:=h;exact k H x1 c d e
theorem Iu{A:Type}{a:Type}{p:Prop}{P:A->Prop}{b:A->Prop}{c:A->a->Prop}{G:Prop}(h:p/\∃ x1:A,P x1/\b x1/\∃ x4:a,c x1 x4)(k:p->∀ x1:A,P x1->b x1->∀ x4:a,c x1 x4->G):G:=by obtain⟨H,x1,d,e,x4,f⟩:=h;exact k H x1 d e x4 f
theorem Iv{A:Type}{a:Type}{b:Type}{p:Prop}{P:A->a->b->Prop}{c:A->a->b->Prop}{G:Prop}(h:p/\∃ x1:A,∃ x2:a,∃ x3:b,P x1 x2 x3/\c x1 x2 x3)(k:p->∀ x1:A,∀ x2:a,∀ x3:b,P x1 x2 x3->c x1 x2 x3->G):G:=by obtain⟨H,x1,x2,x3,d,e⟩:=h;exact k H x1 x2 x3 d e
theorem C3{A:Type}{a:Type}{p:A->Prop}{P:A->Prop}{b:A->a->Prop}{G:Prop}(h:∃ x0:A,p x0/\P x0/\∃ x3:a,b x0 x3)(k:∀ x0:A,p x0->P x0->∀ x3:a,b x0 x3->G):G:=by obtain⟨x0,H,c,x3,d⟩:=h;exact k x0 H c x3 d
theorem Zaj{A:Type}{a:Type}{b:Type}{c:Type}{d:Type}{p:A->a->Prop}{P:A->a->b->Prop}{e:A->a->b->Prop}{f:A->a->b->c->d->Prop}{g:A->a->b->c->d->Prop}{G:Prop}(h:∃ x0:A,∃ x1:a,p x0 x1/\∃ x3:b,P x0 x1 x3/\e x0 x1 x3/\∃ x6:c,∃ x7:d,f x0 x1 x3 x6 x7/\g x0 x1 x3 x6 x7)(k:∀ x0:A,∀ x1:a,p x0 x1->∀ x3:b,P x0 x1 x3->e x0 x1 x3->∀ x6:c,∀ x7:d,f x0 x1 x3 x6 x7->g x0 x1 x3 x6 x7->G):G:=by obtain⟨x0,x1,H,x3,i,j,x6,x7,l,m⟩:=h;exact k x0 x1 H x3 i j x6 x7 l m
theorem Zak{A:Type}{a:Type}{b:Type}{c:Type}{p:A->a->Prop}{P:A->a->b->c->Prop}{d:A->a->b->c->Prop}{G:Prop}(h:∃ x0:A,∃ x1:a,p x0 x1/\∃ x3:b,∃ x4:c,P x0 x1 x3 x4/\d x0 x1 x3 x4)(k:∀ x0:A,∀ x1:a,p x0 x1->∀ x3:b,∀ x4:c,P x0 x1 x3 x4->d x0 x1 x3 x4->G):G:=by obtain⟨x0,x1,H,x3,x4,e,f⟩:=h;exact k x0 x1 H x3 x4 e f
theorem Zal{a b:Nat}(h:a<b):b-a=(b-(a+1))+1:=by rw[Nat.sub_add_eq];exact (kt (kM h)).symm
theorem Zam{n:Nat}{b:Int}(h:0<=b)(e:n=b.toNat):(n:Int)=b:=by rw[e];exact bL h
theorem Zan{b:Int}(h:0<=b):(b+1).toNat=b.toNat+1:=Int.toNat_add h (Al rfl)
theorem Zao:∀ {k n:Nat},k+n=2001->n<=2000->∃ j,k=j+1
 | 0,n,h,H=>absurd H (by rw[<- ey n,h];decide)
 | j+1,_,_,_=>⟨j,rfl⟩
theorem six{x:Int}(h:0<=x/\x<6):∃ n:Nat,n<6/\x=n:=by
 obtain⟨n,rfl⟩:=iT h.1;exact⟨n,dz.mp h.2,rfl⟩
theorem E6(σ:AW){i j:Nat}(v:AV)(h:j≠i):AM σ i v j=σ j:=if_neg h
inductive Rs (α:Type) where
 | ok (a:α) (H:AH)
 | err (x:AV) (H:AH)
 | bad
noncomputable def Rs.bind{b β:Type}:Rs b->(b->AH->Rs β)->Rs β
 | .ok a H,f=>f a H
 | .err x H,_=>.err x H
 | .bad,_=>.bad
noncomputable def Rs.bindB{b β:Type}:Rs b->(b->AH->Rs β)->Rs β
 | .ok a H,f=>f a H
 | .err _ _,_=>.bad
 | .bad,_=>.bad
@[simp] theorem Rs.bindB_ok {α β:Type} (a:α) (H:AH) (f:α->AH->Rs β):(Rs.ok a H).bindB f=f a H:=rfl
@[simp] theorem Rs.bind_ok {α β:Type} (a:α) (H:AH) (f:α->AH->Rs β):(Rs.ok a H).bind f=f a H:=rfl
abbrev DE:=AW->AH->Rs AV
abbrev DT:=AW->AH->Rs Bool
inductive Fl where
 | next
 | ret (v:AV)
noncomputable def Fl.val:Fl->AV
 | .next=>.none
 | .ret v=>v
abbrev DS:=AW->AH->Rs (Fl×AW)
abbrev As:=Nat->List AV->AH->Rs AV
noncomputable def data(H:AH):Nat->AV->Option gV
 | 0,_=>none
 | n+1,v=>match v with
  | .none=>some .none
  | .bool b=>some (.bool b)
  | .int i=>some (.int i)
  | .str s=>some (.str s)
  | .tup l=>(l.mapM (data H n)).map .tuple
  | .lst l=>(l.mapM (data H n)).map .list
  | .ref i=>match H[i]? with
   | some (.list l)=>(l.mapM (data H n)).map .list
   | _=>none
  | _=>none
def D3(H:AH)(a b:AV):Option Bool :=
 (data H 12 a).bind fun x=>(data H 12 b).bind fun y=>if bx x&&bx y then some (ce x y) else none
noncomputable def DZ(H:AH):Option AV->Rs AV
 | some v=>.ok v H
 | none=>.bad
inductive Gh where
 | add|sub|mul|fdiv|mod|pow|rep
inductive F5 where
 | eq|ne|lt|le|gt|ge|is|isNot|isIn|notIn
noncomputable def listOf?(H:AH):AV->Option (List AV)
 | .lst l=>some l
 | .ref i=>match H[i]? with
  | some (.list l)=>some l
  | _=>none
 | _=>none
noncomputable def E7(f:Int->Int->Option AV):AV->AV->Option AV
 | .int a,.int b=>f a b
 | _,_=>none
def Iw(H:AH)(a b:AV):Option AV:=(listOf? H a).bind fun l=>(listOf? H b).bind fun k=>if l.length+k.length<=1048576 then some (.lst (l++k)) else none
def LW(H:AH)(a b:AV):Option AV:=match a with
 | .int i=>(match b with
  | .int j=>some (.int (i+j))
  | _=>none)
 | .tup l=>(match b with
  | .tup k=>if l.length+k.length<=1048576 then some (.tup (l++k)) else none
  | _=>none)
 | a=>Iw H a b
def LX(H:AH)(a b:AV):Option AV:=(listOf? H a).bind fun l=>match b with
 | .int j=>if l.length*j.toNat<=1048576/\-1048576<=j/\j<=1048576 then some (.lst (aS j.toNat l).flatten) else none
 | _=>none
def BN(H:AH)(op:Gh)(a b:AV):Option AV:=match op with
 | .add=>LW H a b
 | .sub=>E7 (fun a b=>some (.int (a-b))) a b
 | .mul=>E7 (fun a b=>if b.natAbs<2 ^ 60\/a.natAbs<2 ^ 60 then some (.int (a*b)) else none) a b
 | .fdiv=>E7 (fun a b=>if b=0 then none else some (.int (a.fdiv b))) a b
 | .mod=>E7 (fun a b=>if b=0 then none else some (.int (a.fmod b))) a b
 | .pow=>E7 (fun a b=>if 0<=b/\b<=64/\a.natAbs<2 ^ 60 then some (.int (a ^ b.toNat)) else none) a b
 | .rep=>LX H a b
def DP(H:AH)(x:AV):List AV->Option Bool
 | []=>some false
 | y::r=>(D3 H y x).bind fun b=>(DP H x r).bind fun c=>some (b || c)
noncomputable def Ix(f:Int->Int->Bool):AV->AV->Option Bool
 | .int a,.int b=>some (f a b)
 | _,_=>none
noncomputable def isN:AV->Option Bool
 | .bi _=>none
 | .none=>some true
 | _=>some false
def PO(a b:AV):Option Bool:=match b with
 | .none=>isN a
 | _=>none
def KL(H:AH)(x:AV):AV->Option Bool
 | .tup l=>DP H x l
 | c=>(listOf? H c).bind (DP H x)
def Bl(H:AH)(op:F5)(a b:AV):Option Bool:=match op with
 | .eq=>D3 H a b
 | .ne=>(D3 H a b).map (!·)
 | .lt=>Ix (fun a b=>decide (a<b)) a b
 | .le=>Ix (fun a b=>decide (a<=b)) a b
 | .gt=>Ix (fun a b=>decide (a>b)) a b
 | .ge=>Ix (fun a b=>decide (a ≥ b)) a b
 | .is=>PO a b
 | .isNot=>(PO a b).map (!·)
 | .isIn=>KL H a b
 | .notIn=>(KL H a b).map (!·)
noncomputable def Ce(l:List AV)(k:Int):Option AV :=
 if -1048576<=k/\k<=1048576 then (if 0<=k then l[k.toNat]? else if 0<=k+l.length then l[(k+l.length).toNat]? else none) else none
def Cy(H:AH)(a i:AV):Option AV :=
 match i with
 | .int k=>match a with
  | .tup l=>Ce l k
  | a=>(listOf? H a).bind fun l=>Ce l k
 | _=>none
noncomputable def Am(v:AV):DE:=fun _ H=>.ok v H
noncomputable def Aa(i:Nat):DE:=fun σ H=>match σ i with
 | some v=>.ok v H
 | none=>.bad
def Ap(op:Gh)(a b:DE):DE:=fun σ H=>(a σ H).bind fun x aa=>(b σ aa).bind fun y A=>DZ A (BN A op x y)
noncomputable def Fe(a:DE):DE:=fun σ H=>(a σ H).bind fun x aa=>match x with
 | .int i=>.ok (.int (-i)) aa
 | _=>.bad
noncomputable def GK(t:DT):DE:=fun σ H=>(t σ H).bind fun b aa=>.ok (.bool (!b)) aa
def Aw(op:F5)(a b:DE):DE:=fun σ H=>(a σ H).bind fun x aa=>(b σ aa).bind fun y A=>DZ A ((Bl A op x y).map .bool)
def DQ(d B:F5)(a b c:DE):DE:=fun σ H=>(a σ H).bind fun x aa=>(b σ aa).bind fun y A =>
 match Bl A d x y with
 | some true=>(c σ A).bind fun z n=>DZ n ((Bl n B y z).map .bool)
 | some false=>.ok (.bool false) A
 | none=>.bad
noncomputable def DU(a:DE)(b:DE):DE:=fun σ H=>(a σ H).bind fun x aa=>match x with
 | .bool true=>b σ aa
 | .bool false=>.ok (.bool false) aa
 | _=>.bad
noncomputable def UV(a:DE)(b:DE):DE:=fun σ H=>(a σ H).bind fun x aa=>match x with
 | .bool false=>b σ aa
 | .bool true=>.ok (.bool true) aa
 | _=>.bad
noncomputable def AL:List DE->AW->AH->Rs (List AV)
 | [],_,H=>.ok [] H
 | d::r,σ,H=>(d σ H).bind fun v aa=>(AL r σ aa).bind fun vs a=>.ok (v::vs) a
def Az(l:List DE):DE:=fun σ H=>(AL l σ H).bind fun vs aa=>.ok (.tup vs) aa
def B3(l:List DE):DE:=fun σ H=>(AL l σ H).bind fun vs aa=>.ok (.lst vs) aa
noncomputable def Gi:DE:=fun _ H=>.ok (.ref H.length) (H++[.dict []])
noncomputable def Gj:DE:=fun _ H=>.ok (.ref H.length) (H++[.dictS []])
noncomputable def AY{K:Type}[DecidableEq K](l:List (K×AV))(k:K):Option AV:=(l.find? fun p=>decide (p.1=k)).map (·.2)
noncomputable def Cp{K:Type}[DecidableEq K](l:List (K×AV))(k:K)(v:AV):List (K×AV):=if l.any (fun p=>decide (p.1=k)) then l.map (fun p=>if p.1=k then (p.1,v) else p) else l++[(k,v)]
noncomputable def dictI?(H:AH):AV->Option (List (Int×AV))
 | .ref i=>match H[i]? with
  | some (.dict l)=>some l
  | _=>none
 | _=>none
def hasI(H:AH)(k d:AV):Option AV:=(dictI? H d).bind fun l=>match k with
 | .int i=>some (.bool (AY l i).isSome)
 | _=>none
def getI(H:AH)(d k:AV):Option AV:=(dictI? H d).bind fun l=>match k with
 | .int i=>AY l i
 | _=>none
def putI(H:AH)(d k v:AV):Option AH:=match d with
 | .ref j=>match H[j]? with
  | some (.dict l)=>match k with
   | .int i=>if l.length<=1000000 then some (H.set j (.dict (Cp l i v))) else none
   | _=>none
  | _=>none
 | _=>none
def Gk(k d:DE):DE:=fun σ H=>(k σ H).bind fun x aa=>(d σ aa).bind fun y a=>DZ a (hasI a x y)
def Hp(d k:DE):DE:=fun σ H=>(d σ H).bind fun x aa=>(k σ aa).bind fun y a=>DZ a (getI a x y)
def Di(l:List DE):DE:=fun σ H=>(AL l σ H).bind fun vs aa=>.ok (.ref aa.length) (aa++[.list vs])
def Aj(a i:DE):DE:=fun σ H=>(a σ H).bind fun x aa=>(i σ aa).bind fun k A=>DZ A (Cy A x k)
noncomputable def Aq(a:DE):DT:=fun σ H=>(a σ H).bind fun x aa=>match x with
 | .bool b=>.ok b aa
 | _=>.bad
noncomputable def BU(t:DT):DT:=fun σ H=>(t σ H).bind fun b aa=>.ok (!b) aa
noncomputable def Gl(a b:DT):DT:=fun σ H=>(a σ H).bind fun x aa=>if x then b σ aa else .ok false aa
noncomputable def D8(a b:DT):DT:=fun σ H=>(a σ H).bind fun x aa=>if x then .ok true aa else b σ aa
noncomputable def allTrue?:List AV->Option Bool
 | []=>some true
 | .bool b::r=>(allTrue? r).map (b&&·)
 | _=>none
inductive Kd where
 | none|bool|int|str|tuple|list|dict
noncomputable def F6(H:AH):AV->Option Kd
 | .none=>some .none
 | .bool _=>some .bool
 | .int _=>some .int
 | .str _=>some .str
 | .tup _=>some .tuple
 | .lst _=>some .list
 | .ref i=>match H[i]? with
  | some (.list _)=>some .list
  | some (.dict _)=>some .dict
  | some (.dictS _)=>some .dict
  | _=>none
 | _=>none
noncomputable def Iy:Kd->BI->Option Bool
 | .none,.int=>some false|.none,.bool=>some false|.none,.str=>some false|.none,.tuple=>some false|.none,.list=>some false
 | .bool,.int=>some true|.bool,.bool=>some true|.bool,.str=>some false|.bool,.tuple=>some false|.bool,.list=>some false
 | .int,.int=>some true|.int,.bool=>some false|.int,.str=>some false|.int,.tuple=>some false|.int,.list=>some false
 | .str,.int=>some false|.str,.bool=>some false|.str,.str=>some true|.str,.tuple=>some false|.str,.list=>some false
 | .tuple,.int=>some false|.tuple,.bool=>some false|.tuple,.str=>some false|.tuple,.tuple=>some true|.tuple,.list=>some false
 | .list,.int=>some false|.list,.bool=>some false|.list,.str=>some false|.list,.tuple=>some false|.list,.list=>some true
 | .dict,.int=>some false|.dict,.bool=>some false|.dict,.str=>some false|.dict,.tuple=>some false|.dict,.list=>some false
 | _,_=>none
def Er(H:AH)(v:AV)(t:BI):Option Bool:=(F6 H v).bind fun k=>Iy k t
def Gm(H:AH)(v:AV):Option AV:=match v with
 | .tup l=>if l.length<=1048576 then some (.int l.length) else none
 | v=>(listOf? H v).bind fun l=>if l.length<=1048576 then some (.int l.length) else none
noncomputable def Zap:AV->Option AV
 | .int b=>if -1048576<=b/\b<=1048576 then some (.rng b) else none
 | _=>none
def Iz(H:AH)(v:AV):Option AV:=(listOf? H v).bind fun l=>(allTrue? l).map .bool
noncomputable def LY:AV->Option AV
 | .bool b=>some (.int (if b then 1 else 0))
 | _=>none
noncomputable def LZ:AV->Option AV
 | .int i=>if i.natAbs<2 ^ 60 then some (.str (aA (toString i))) else none
 | _=>none
noncomputable def BP(b:Int):List AV:=(eT b.toNat).map fun k:Nat=>.int (k:Int)
def Ec(H:AH)(v:AV):Option AV:=match v with
 | .tup l=>if l.length<=1048576 then some (.lst l) else none
 | .rng b=>if -1048576<=b/\b<=1048576 then some (.lst (BP b)) else none
 | v=>(listOf? H v).bind fun l=>if l.length<=1048576 then some (.lst l) else none
def Hq(H:AH)(v:AV):Option AV:=(listOf? H v).bind fun l=>if l.length<=1048576 then some (.tup l) else none
def BK(H:AH)(n:BI)(a:List AV):Option AV:=match a with
 | [v]=>match n with
  | .len=>Gm H v
  | .range=>Zap v
  | .all=>Iz H v
  | .int=>LY v
  | .list=>Ec H v
  | .tuple=>Hq H v
  | .str=>LZ v
  | _=>none
 | [v,.bi t]=>match n with
  | .isinstance=>(Er H v t).map .bool
  | _=>none
 | _=>none
def app(b:As)(f:AV)(a:List AV)(H:AH):Rs AV:=match f with
 | .fn k=>b k a H
 | .bi n=>DZ H (BK H n a)
 | _=>.bad
noncomputable def Zaq:AV->Bool
 | .fn _=>true
 | .bi _=>true
 | _=>false
def Cz(b:As)(f:DE)(l:List DE):DE:=fun σ H=>(f σ H).bind fun g aa=>if Zaq g then (AL l σ aa).bind fun vs a=>app b g vs a else .bad
def iter?:AV->Option (List AV)
 | .tup l=>some l
 | .lst l=>some l
 | .rng b=>if -1048576<=b/\b<=1048576 then some (BP b) else none
 | _=>none
noncomputable def BO(H:AH)(x:AV)(f:List AV->Option (List AV)):Option AH:=match x with
 | .ref i=>match H[i]? with
  | some (.list l)=>(f l).map fun l'=>H.set i (.list l')
  | _=>none
 | _=>none
noncomputable def Ff(v:AV)(l:List AV):Option (List AV):=if l.length<=1048576 then some (l++[v]) else none
noncomputable def Z2k(p v:AV)(l:List AV):Option (List AV):=match p with
 | .int j=>if l.length<=1048576/\0<=j/\j<=l.length then some (l.take j.toNat++v::l.drop j.toNat) else none
 | _=>none
noncomputable def Fg(p v:AV)(l:List AV):Option (List AV):=match p with
 | .int j=>if l.length<=1048576/\-(l.length:Int)<=j/\j<l.length then some (l.set (if 0<=j then j.toNat else (j+l.length).toNat) v) else none
 | _=>none
noncomputable def AR(m:Nat)(H:AH):Nat->AV->Option AV
 | 0,_=>none
 | n+1,v=>match v with
  | .tup l=>(l.mapM (AR m H n)).map .tup
  | .lst l=>(l.mapM (AR m H n)).map .lst
  | .ref i=>if i<m then some (.ref i) else match H[i]? with
   | some (.list l)=>(l.mapM (AR m H n)).map .lst
   | _=>none
  | .inst _ _=>none
  | .exc _=>none
  | v=>some v
noncomputable def Ch:DT:=fun _ H=>.ok true H
def E5(e:DE)(ifs:DT)(k:Nat)(σ:AW)(m:Nat)(src:AH->Option (List AV)):Nat->Nat->AH->Rs Unit
 | 0,_,_=>.bad
 | f+1,i,H=>match src H with
  | none=>.bad
  | some l=>match l[i]? with
   | none=>if l.length=i then .ok () H else .bad
   | some v=>(ifs (AM σ k v) H).bindB fun c aa =>
    if c then (e (AM σ k v) aa).bindB fun x a=>match BO a (.ref m) (Ff x) with
     | some A=>E5 e ifs k σ m src f (i+1) A
     | none=>.bad
    else E5 e ifs k σ m src f (i+1) aa
open Classical in
def Zas(aa:AH)(r:Rs Unit):Rs AV:=r.bindB fun _ a =>
   if a.take aa.length=aa then (match AR aa.length a 12 (.ref aa.length) with
    | some v=>.ok v aa
    | none=>.bad) else .bad
def Ca(e:DE)(ifs:DT)(k:Nat)(σ:AW)(x:AV)(aa:AH):Rs Unit:=match iter? x with
 | some l=>E5 e ifs k σ aa.length (fun _=>some l) (l.length+1) 0 (aa++[.list []])
 | none=>match x with
  | .ref j=>E5 e ifs k σ aa.length (fun H=>listOf? H (.ref j)) 20000 0 (aa++[.list []])
  | _=>.bad
def Cl(e:DE)(ifs:DT)(k:Nat)(it:DE):DE:=fun σ H=>(it σ H).bind fun x aa=>Zas aa (Ca e ifs k σ x aa)
def F7(e:DE)(ifs:DT)(k:Nat)(it:DE):DE:=fun σ H=>(it σ H).bind fun x aa=>(Ca e ifs k σ x aa).bindB fun _ a=>.ok (.ref aa.length) a
noncomputable def Ai(a b:DS):DS:=fun σ H=>(a σ H).bind fun r aa=>match r with
 | (.next,A)=>b A aa
 | (.ret v,A)=>.ok (.ret v,A) aa
noncomputable def AC:DS:=fun σ H=>.ok (.next,σ) H
noncomputable def Av(a:DE):DS:=fun σ H=>(a σ H).bind fun v aa=>.ok (.ret v,σ) aa
def AG(i:Nat)(a:DE):DS:=fun σ H=>(a σ H).bind fun v aa=>.ok (.next,AM σ i v) aa
noncomputable def Bj(a:DE):DS:=fun σ H=>(a σ H).bind fun _ aa=>.ok (.next,σ) aa
noncomputable def Bo(t:DT)(a b:DS):DS:=fun σ H=>(t σ H).bind fun c aa=>if c then a σ aa else b σ aa
inductive Tg where
 | one (i:Nat)
 | many (l:List Nat)
def PQ:List Nat->List AV->AW->Option AW
 | [],[],σ=>some σ
 | i::r,v::vs,σ=>PQ r vs (AM σ i v)
 | _,_,_=>none
def Tg.bind:Tg->AV->AW->Option AW
 | .one i,v,σ=>some (AM σ i v)
 | .many l,.tup vs,σ=>PQ l vs σ
 | .many _,_,_=>none
noncomputable def BF(t:Tg)(b:DS)(src:AH->Option (List AV)):Nat->Nat->AW->AH->Rs (Fl×AW)
 | 0,_,_,_=>.bad
 | f+1,i,σ,H=>match src H with
  | none=>.bad
  | some l=>match l[i]? with
   | none=>if l.length=i then .ok (.next,σ) H else .bad
   | some v=>match t.bind v σ with
    | some a=>(b a H).bind fun p aa=>match p with
     | (.next,B)=>BF t b src f (i+1) B aa
     | (.ret w,B)=>.ok (.ret w,B) aa
    | none=>.bad
def Gn(t:Tg)(b:DS)(l:List AV)(σ:AW)(H:AH):Rs (Fl×AW):=BF t b (fun _=>some l) (l.length+1) 0 σ H
def Da(t:Tg)(it:DE)(b:DS):DS:=fun σ H=>(it σ H).bind fun x aa=>match iter? x with
 | some l=>Gn t b l σ aa
 | none=>match x with
  | .ref k=>BF t b (fun H=>listOf? H (.ref k)) 20000 0 σ aa
  | _=>.bad
theorem Zau{a:Type}{v:a}{r l:List a}:(l++v::r)[l.length]?=some v:=by
 induction l with
 | nil=>rfl
 | cons _ _ i=>exact i
theorem Zav{t:Tg}{b:DS}{m k:Nat}{src:AH->Option (List AV)}{σ:AW}{H:AH}(h:src H=none):BF t b src (m+1) k σ H=.bad:=by
 show (match src H with|none=>_|some l=>_)=_;exact Ac h rfl
theorem GL{t:Tg}{b:DS}{m k:Nat}{src:AH->Option (List AV)}{σ:AW}{H:AH}{l:List AV}(h:src H=some l)(h':l[k]?=none):BF t b src (m+1) k σ H=if l.length=k then .ok (.next,σ) H else .bad:=by
 show (match src H with|none=>_|some l=>_)=_;refine Ac h ?_;show (match l[k]? with|none=>_|some v=>_)=_;exact Ac h' rfl
theorem Zaw{t:Tg}{b:DS}{m k:Nat}{src:AH->Option (List AV)}{σ:AW}{H:AH}{l:List AV}{v:AV}(h:src H=some l)(h':l[k]?=some v):BF t b src (m+1) k σ H=match t.bind v σ with
  | some a=>(b a H).bind fun p aa=>match p with
   | (.next,B)=>BF t b src m (k+1) B aa
   | (.ret w,B)=>.ok (.ret w,B) aa
  | none=>.bad:=by
 show (match src H with|none=>_|some l=>_)=_;refine Ac h ?_;show (match l[k]? with|none=>_|some v=>_)=_;exact Ac h' rfl
theorem Zax{d:DE}{t:DT}{k i m j:Nat}{src:AH->Option (List AV)}{σ:AW}{H:AH}(h:src H=none):E5 d t k σ i src (m+1) j H=.bad:=by
 show (match src H with|none=>_|some l=>_)=_;exact Ac h rfl
theorem GM{d:DE}{t:DT}{k i m j:Nat}{src:AH->Option (List AV)}{σ:AW}{H:AH}{l:List AV}(h:src H=some l)(h':l[j]?=none):E5 d t k σ i src (m+1) j H=if l.length=j then .ok () H else .bad:=by
 show (match src H with|none=>_|some l=>_)=_;refine Ac h ?_;show (match l[j]? with|none=>_|some v=>_)=_;exact Ac h' rfl
theorem Zay{d:DE}{t:DT}{k i m j:Nat}{src:AH->Option (List AV)}{σ:AW}{H:AH}{l:List AV}{v:AV}(h:src H=some l)(h':l[j]?=some v):E5 d t k σ i src (m+1) j H=(t (AM σ k v) H).bindB fun c aa=>if c then (d (AM σ k v) aa).bindB fun x a=>match BO a (.ref i) (Ff x) with
  | some A=>E5 d t k σ i src m (j+1) A
  | none=>.bad
 else E5 d t k σ i src m (j+1) aa:=by
 show (match src H with|none=>_|some l=>_)=_;refine Ac h ?_;show (match l[j]? with|none=>_|some v=>_)=_;exact Ac h' rfl
noncomputable def UW(t:DT)(b:DS):Nat->AW->AH->Rs (Fl×AW)
 | 0,_,_=>.bad
 | n+1,σ,H=>(t σ H).bindB fun c aa=>if c then (b σ aa).bindB fun p a=>match p with
   | (.next,B)=>UW t b n B a
   | (.ret w,B)=>.ok (.ret w,B) a
  else .ok (.next,σ) aa
def E8(t:DT)(b:DS):DS:=UW t b 20000
structure CK where
 params:Nat
 frz:Bool
 body:As->DS
noncomputable def BL:List AV->Nat->AW
 | [],_=>fun _=>none
 | v::r,k=>fun j=>if j=k then some v else BL r (k+1) j
open Classical in
def CK.run(f:CK)(b:As)(a:List AV)(H:AH):Rs AV :=
 if a.length=f.params then
  (f.body b (BL a 0) H).bind fun p aa =>
   if f.frz then
    (if aa.take H.length=H then (match AR H.length aa 12 p.1.val with
     | some v=>.ok v H
     | none=>.bad) else .bad)
   else .ok p.1.val aa
 else .bad
noncomputable def AF(t:Nat->Option CK):Nat->As
 | 0=>fun _ _ _=>.bad
 | n+1=>fun k a H=>match t k with
  | some f=>f.run (AF t n) a H
  | none=>.bad
def E9(H:AH):AV->Option (List AV)
 | .tup l=>if l.length<=1048576 then some l else none
 | v=>(listOf? H v).bind fun l=>if l.length<=1048576 then some l else none
def D4(a:DE):DE:=fun σ H=>(a σ H).bind fun x aa=>match E9 aa x with
 | some l=>.ok (.ref aa.length) (aa++[.list l])
 | none=>.bad
noncomputable def Db(c:Nat)(a:DE):DS:=fun σ H=>(a σ H).bind fun _ aa=>.err (.exc c) aa
noncomputable def Go:AW:=fun _=>none
noncomputable def CC(H:AH):AV->Option Nat
 | .exc c=>some c
 | .ref i=>match H[i]? with
  | some (.exo c _ _)=>some c
  | _=>none
 | _=>none
def EA(a:DE)(C:List Nat)(i:Nat)(h:DS):DS:=fun σ H=>match a σ H with
 | .ok _ aa=>.ok (.next,σ) aa
 | .err x aa=>match CC aa x with
  | some c=>if c∈C then (h (AM σ i x) aa).bindB fun p A=>.ok (p.1,Go) A else .bad
  | none=>.bad
 | .bad=>.bad
def I0(f:Nat->Option Bool)(H:AH)(v:AV):Option AV:=(CC H v).bind fun c=>(f c).map .bool
def CU(f:Nat->Option Bool)(d:DE):DE:=fun σ H=>(d σ H).bind fun x aa=>DZ aa (I0 f aa x)
noncomputable def Fh(l:List (Nat×Bool))(c:Nat):Option Bool:=l.lookup c
noncomputable def toH:Option AH->Rs AV
 | some H=>.ok .none H
 | none=>.bad
noncomputable def I1(H:AH):AV->Bool
 | .ref i=>match H[i]? with
  | some (.list _)=>true
  | _=>false
 | _=>false
def Cq(f:List AV->List AV->Option (List AV))(o:DE)(d:List DE):DE:=fun σ H=>(o σ H).bind fun x aa =>
 if I1 aa x then (AL d σ aa).bind fun us a=>toH (BO a x (f us)) else .bad
def CV(us l:List AV):Option (List AV):=match us with
 | [v]=>Ff v l
 | _=>none
noncomputable def two?{c:Type}(f:AV->AV->Option c):List AV->Option c
 | []=>none
 | a::l=>match l with
  | []=>none
  | b::l=>match l with
   | []=>f a b
   | _::_=>none
def PS(us l:List AV):Option (List AV):=two? (fun p v=>Z2k p v l) us
def Cb(o k a:DE):DS:=fun σ H=>(a σ H).bind fun v aa=>(o σ aa).bind fun x A=>(k σ A).bind fun p n=>match BO n x (Fg p v) with
 | some b=>.ok (.next,σ) b
 | none=>.bad
def Gp(o k a:DE):DS:=fun σ H=>(a σ H).bind fun v aa=>(o σ aa).bind fun x A=>(k σ A).bind fun p n=>match putI n x p v with
 | some b=>.ok (.next,σ) b
 | none=>.bad
noncomputable def ints?:List AV->Option (List Int)
 | []=>some []
 | .int i::r=>(ints? r).map (i::·)
 | _=>none
def I2(v:AV):Option (Int×List Int):=match v with
 | .tup l=>two? (fun a b=>match a with
  | .int r=>(match b with
   | .tup l=>(ints? l).map fun xs=>(r,xs)
   | _=>none)
  | _=>none) l
 | _=>none
noncomputable def dictS?(H:AH):AV->Option (List ((Int×List Int)×AV))
 | .ref i=>match H[i]? with
  | some (.dictS l)=>some l
  | _=>none
 | _=>none
def hasT(H:AH)(k d:AV):Option AV:=(dictS? H d).bind fun l=>(I2 k).bind fun i=>some (.bool (AY l i).isSome)
def getT(H:AH)(d k:AV):Option AV:=(dictS? H d).bind fun l=>(I2 k).bind fun i=>AY l i
def putT(H:AH)(d k v:AV):Option AH:=match d with
 | .ref j=>match H[j]? with
  | some (.dictS l)=>(I2 k).bind fun i=>if l.length<=1000000 then some (H.set j (.dictS (Cp l i v))) else none
  | _=>none
 | _=>none
def Gq(k d:DE):DE:=fun σ H=>(k σ H).bind fun x aa=>(d σ aa).bind fun y a=>DZ a (hasT a x y)
def EB(d k:DE):DE:=fun σ H=>(d σ H).bind fun x aa=>(k σ aa).bind fun y a=>DZ a (getT a x y)
def Gr(o k a:DE):DS:=fun σ H=>(a σ H).bind fun v aa=>(o σ aa).bind fun x A=>(k σ A).bind fun p n=>match putT n x p v with
 | some b=>.ok (.next,σ) b
 | none=>.bad
def lenT(H:AH)(d:AV):Option AV:=(dictS? H d).bind fun l=>if l.length<=1048576 then some (.int l.length) else none
def EC(d:DE):DE:=fun σ H=>(d σ H).bind fun x aa=>DZ aa (lenT aa x)
noncomputable def dictN?(H:AH):AV->Option (List (aW×AV))
 | .ref i=>match H[i]? with
  | some (.dictN l)=>some l
  | _=>none
 | _=>none
def getN(H:AH)(d k:AV):Option AV:=(dictN? H d).bind fun l=>match k with
 | .str i=>AY l i
 | _=>none
def putN(H:AH)(d k v:AV):Option AH:=match d with
 | .ref j=>match H[j]? with
  | some (.dictN l)=>match k with
   | .str i=>if l.length<=1000000 then some (H.set j (.dictN (Cp l i v))) else none
   | _=>none
  | _=>none
 | _=>none
def BC(d k:DE):DE:=fun σ H=>(d σ H).bind fun x aa=>(k σ aa).bind fun y a=>DZ a (getN a x y)
def CD(o k a:DE):DS:=fun σ H=>(a σ H).bind fun v aa=>(o σ aa).bind fun x A=>(k σ A).bind fun p n=>match putN n x p v with
 | some b=>.ok (.next,σ) b
 | none=>.bad
def ED:List (aW×AV)->List aW->List AV->List (aW×AV)
 | l,k::ks,v::vs=>ED (Cp l k v) ks vs
 | l,_,_=>l
def Hr(ks:List aW)(d:List DE):DE:=fun σ H=>(AL d σ (H++[.dictN []])).bind fun vs aa=>match aa[H.length]? with
 | some (.dictN [])=>.ok (.ref H.length) (aa.set H.length (.dictN (ED [] ks vs)))
 | _=>.bad
def Hs(is:List Nat)(a:DE):DS:=fun σ H=>(a σ H).bind fun v aa=>match listOf? aa v with
 | some vs=>(match PQ is vs σ with
  | some A=>.ok (.next,A) aa
  | none=>.bad)
 | none=>.bad
noncomputable def Cr(f:List AV->Option (AV×List AV))(o:DE):DE:=fun σ H=>(o σ H).bind fun x aa=>match x with
 | .ref i=>(match aa[i]? with
  | some (.list l)=>(match f l with
   | some p=>.ok p.1 (aa.set i (.list p.2))
   | none=>.bad)
  | _=>.bad)
 | _=>.bad
noncomputable def EE(l:List AV):Option (AV×List AV):=if l.length<=1000000 then some (.none,[]) else none
noncomputable def HL(l:List AV):Option (AV×List AV):=if l.length<=1000000 then l.getLast?.map fun v=>(v,l.dropLast) else none
noncomputable def UX(us l:List AV):Option (List AV):=match us with
 | [v]=>(match v with
  | .lst k=>if l.length+k.length<=1000000 then some (l++k) else none
  | _=>none)
 | _=>none
def I3(v:AV):List AV->Option (List AV)
 | []=>none
 | y::r=>(D3 [] y v).bind fun b=>if b=true then some r else (I3 v r).map (y::·)
def UY(us l:List AV):Option (List AV):=match us with
 | [v]=>if l.length<=1000000 then I3 v l else none
 | _=>none
theorem z63{a b:Nat}(h:a=b)(g:b<=1048576):(a:Int)<2 ^ 63:=h▸cF (bF.mpr g) (Al rfl)
theorem PT{j:Int}(h:-2000000<=j)(g:j<=2000000):(decide (-(2 ^ 63:Int)<=j)&&decide (j<2 ^ 63))=true:=aL.mpr ⟨decide_eq_true (aO (Al rfl) h),decide_eq_true (cF g (Al rfl))⟩
theorem zM{x M:Int}{c:Prop}[Decidable c](h:0<=x/\x<7)(e:1+x+9*(if c then 1 else 0)=M):1<=M/\M<=16:=by
 have y:0<=9*(if c then (1:Int) else 0)/\9*(if c then (1:Int) else 0)<=9:=by
  by_cases q:c
  .exact Ac (if_pos q) (Al rfl)
  .exact Ac (if_neg q) (Al rfl)
 subst e;exact⟨aO (dJ h.1) (dJ y.1),Int.add_le_add (gK (du (b:=6) h.2) 1) y.2⟩
theorem Z2l{a b:Nat}(h:a<16)(g:b<125):a*125+b<2000:=aZ (kb g _) (Nat.succ_mul a 125▸Nat.mul_le_mul_right 125 h)
theorem zti{p q:Int}(h:0<=p)(g:0<=q)(e:p.toNat=q.toNat):p=q:=(bL h).symm.trans ((congrArg ls e).trans (bL g))
theorem nb{G:Prop}(h:false=true):G:=nomatch h
theorem nn{a:Type}{r:a}{G K:Prop}(h:none=some r)(_:K):G:=nomatch h
section
variable {α β γ:Type}{r:α}{G:Prop}{v:AV}{q:Option AO}{H:AH}
theorem B9{c:Prop}[Decidable c]{o:Option α}(h:(if c then o else none)=some r)(k:c->o=some r->G):G :=
 if e:c then k e ((if_pos e).symm.trans h) else nn ((if_neg e).symm.trans h) trivial
theorem Bf{o:Option β}{f:β->Option α}(h:o.bind f=some r)(k:∀ a,o=some a->f a=some r->G):G :=
 @dK _ (fun o=>o.bind f=some r->(∀ a,o=some a->f a=some r->G)->G) o nn (fun _ h k=>k _ rfl h) h k
theorem EF{o:Option β}{f:β->α}(h:o.map f=some r)(k:∀ a,o=some a->f a=r->G):G :=
 @dK _ (fun o=>o.map f=some r->(∀ a,o=some a->f a=r->G)->G) o nn (fun _ h k=>k _ rfl (inj h)) h k
theorem Dq{f:Nat->Option α}(h:(match v with|.ref j=>f j|_=>none)=some r)(k:∀ j,v=.ref j->f j=some r->G):G :=
 @AV.casesOn (fun v=>(match v with|.ref j=>f j|_=>none)=some r->(∀ j,v=.ref j->f j=some r->G)->G) v nn (fun _=>nn) (fun _=>nn) (fun _=>nn) (fun _=>nn) (fun _=>nn) (fun _ h k=>k _ rfl h) (fun _=>nn) (fun _=>nn) (fun _=>nn) (fun _=>nn) (fun _ _=>nn) (fun _=>nn) h k
theorem D5{f:Int->Option α}(h:(match v with|.int j=>f j|_=>none)=some r)(k:∀ j,v=.int j->f j=some r->G):G :=
 @AV.casesOn (fun v=>(match v with|.int j=>f j|_=>none)=some r->(∀ j,v=.int j->f j=some r->G)->G) v nn (fun _=>nn) (fun _ h k=>k _ rfl h) (fun _=>nn) (fun _=>nn) (fun _=>nn) (fun _=>nn) (fun _=>nn) (fun _=>nn) (fun _=>nn) (fun _=>nn) (fun _ _=>nn) (fun _=>nn) h k
theorem Ma{f:aW->Option α}(h:(match v with|.str j=>f j|_=>none)=some r)(k:∀ j,v=.str j->f j=some r->G):G :=
 @AV.casesOn (fun v=>(match v with|.str j=>f j|_=>none)=some r->(∀ j,v=.str j->f j=some r->G)->G) v nn (fun _=>nn) (fun _=>nn) (fun _ h k=>k _ rfl h) (fun _=>nn) (fun _=>nn) (fun _=>nn) (fun _=>nn) (fun _=>nn) (fun _=>nn) (fun _=>nn) (fun _ _=>nn) (fun _=>nn) h k
theorem Gs{f:List AV->Option α}{g:AV->Option α}(h:(match v with|.tup l=>f l|v=>g v)=some r)(k:∀ l,v=.tup l->f l=some r->G)(K:g v=some r->G):G :=
 @AV.casesOn (fun v=>(match v with|.tup l=>f l|v=>g v)=some r->(∀ l,v=.tup l->f l=some r->G)->(g v=some r->G)->G) v (fun h _ k=>k h) (fun _ h _ k=>k h) (fun _ h _ k=>k h) (fun _ h _ k=>k h) (fun _ h k _=>k _ rfl h) (fun _ h _ k=>k h) (fun _ h _ k=>k h) (fun _ h _ k=>k h) (fun _ h _ k=>k h) (fun _ h _ k=>k h) (fun _ h _ k=>k h) (fun _ _ h _ k=>k h) (fun _ h _ k=>k h) h k K
theorem GN{f:List AV->Option α}(h:(match q with|some (.list l)=>f l|_=>none)=some r)(k:∀ l,q=some (.list l)->f l=some r->G):G :=
 @dK _ (fun (q:Option AO)=>(match q with|some (.list l)=>f l|_=>none)=some r->(∀ l,q=some (.list l)->f l=some r->G)->G) q nn (fun o=>@AO.casesOn (fun o=>(match some o with|some (.list l)=>f l|_=>none)=some r->(∀ l,some o=some (.list l)->f l=some r->G)->G) o (fun _ h k=>k _ rfl h) (fun _=>nn) (fun _=>nn) (fun _=>nn) (fun _=>nn) (fun _ _ _=>nn)) h k
theorem I4{f:List (Int×AV)->Option α}(h:(match q with|some (.dict l)=>f l|_=>none)=some r)(k:∀ l,q=some (.dict l)->f l=some r->G):G :=
 @dK _ (fun (q:Option AO)=>(match q with|some (.dict l)=>f l|_=>none)=some r->(∀ l,q=some (.dict l)->f l=some r->G)->G) q nn (fun o=>@AO.casesOn (fun o=>(match some o with|some (.dict l)=>f l|_=>none)=some r->(∀ l,some o=some (.dict l)->f l=some r->G)->G) o (fun _=>nn) (fun _ h k=>k _ rfl h) (fun _=>nn) (fun _=>nn) (fun _=>nn) (fun _ _ _=>nn)) h k
theorem Za0{f:List ((Int×List Int)×AV)->Option α}(h:(match q with|some (.dictS l)=>f l|_=>none)=some r)(k:∀ l,q=some (.dictS l)->f l=some r->G):G :=
 @dK _ (fun (q:Option AO)=>(match q with|some (.dictS l)=>f l|_=>none)=some r->(∀ l,q=some (.dictS l)->f l=some r->G)->G) q nn (fun o=>@AO.casesOn (fun o=>(match some o with|some (.dictS l)=>f l|_=>none)=some r->(∀ l,some o=some (.dictS l)->f l=some r->G)->G) o (fun _=>nn) (fun _=>nn) (fun _ h k=>k _ rfl h) (fun _=>nn) (fun _=>nn) (fun _ _ _=>nn)) h k
theorem Za1{f:List (aW×AV)->Option α}(h:(match q with|some (.dictN l)=>f l|_=>none)=some r)(k:∀ l,q=some (.dictN l)->f l=some r->G):G :=
 @dK _ (fun (q:Option AO)=>(match q with|some (.dictN l)=>f l|_=>none)=some r->(∀ l,q=some (.dictN l)->f l=some r->G)->G) q nn (fun o=>@AO.casesOn (fun o=>(match some o with|some (.dictN l)=>f l|_=>none)=some r->(∀ l,some o=some (.dictN l)->f l=some r->G)->G) o (fun _=>nn) (fun _=>nn) (fun _=>nn) (fun _ h k=>k _ rfl h) (fun _=>nn) (fun _ _ _=>nn)) h k
theorem Za2{f:List (aW×AV)->Option α}(h:(match q with|some (.attrs l)=>f l|_=>none)=some r)(k:∀ l,q=some (.attrs l)->f l=some r->G):G :=
 @dK _ (fun (q:Option AO)=>(match q with|some (.attrs l)=>f l|_=>none)=some r->(∀ l,q=some (.attrs l)->f l=some r->G)->G) q nn (fun o=>@AO.casesOn (fun o=>(match some o with|some (.attrs l)=>f l|_=>none)=some r->(∀ l,some o=some (.attrs l)->f l=some r->G)->G) o (fun _=>nn) (fun _=>nn) (fun _=>nn) (fun _=>nn) (fun _ h k=>k _ rfl h) (fun _ _ _=>nn)) h k
theorem Gu{f:Nat->Option Nat->Bool->Option α}(h:(match q with|some (.exo c d b)=>f c d b|_=>none)=some r)(k:∀ c d b,q=some (.exo c d b)->f c d b=some r->G):G :=
 @dK _ (fun (q:Option AO)=>(match q with|some (.exo c d b)=>f c d b|_=>none)=some r->(∀ c d b,q=some (.exo c d b)->f c d b=some r->G)->G) q nn (fun o=>@AO.casesOn (fun o=>(match some o with|some (.exo c d b)=>f c d b|_=>none)=some r->(∀ c d b,some o=some (.exo c d b)->f c d b=some r->G)->G) o (fun _=>nn) (fun _=>nn) (fun _=>nn) (fun _=>nn) (fun _=>nn) (fun _ _ _ h k=>k _ _ _ rfl h)) h k
theorem Z2m{l:List AV}(h:listOf? H v=some l)(k:v=.lst l->G)(K:∀ i,v=.ref i->H[i]?=some (.list l)->G):G :=
 @AV.casesOn (fun v=>listOf? H v=some l->(v=.lst l->G)->(∀ i,v=.ref i->H[i]?=some (.list l)->G)->G) v nn (fun _=>nn) (fun _=>nn) (fun _=>nn) (fun _=>nn) (fun _ h k _=>k (congrArg AV.lst (inj h))) (fun i h _ k=>GN (f:=some) h fun _ e h=>k i rfl (inj h▸e)) (fun _=>nn) (fun _=>nn) (fun _=>nn) (fun _=>nn) (fun _ _=>nn) (fun _=>nn) h k K
end
theorem I5{a:Type}{r:a}{G c:Prop}[Decidable c]{o:Option a}(h:(if c then none else o)=some r)(k:¬ c->o=some r->G):G :=
 if e:c then nn ((if_pos e).symm.trans h) trivial else k e ((if_neg e).symm.trans h)
theorem Ht{b:Type}{r:b}{G c:Prop}[Decidable c]{a o:Option b}(h:(if c then a else o)=some r)(k:c->a=some r->G)(K:¬ c->o=some r->G):G :=
 if e:c then k e ((if_pos e).symm.trans h) else K e ((if_neg e).symm.trans h)
theorem I6{a:Type}{r:a}{G:Prop}{l:List AV}{f:AV->Option a}(h:(match l with|[v]=>f v|_=>none)=some r)(k:∀ v,l=[v]->f v=some r->G):G:=by
 cases l with
 | nil=>exact nn h k
 | cons v l=>cases l with
  | nil=>exact k v rfl h
  | cons=>exact nn h k
theorem GO{a:Type}{r:a}{G:Prop}{v:AV}{f:Nat->Nat->Option a}(h:(match v with|.inst c j=>f c j|_=>none)=some r)(k:∀ c j,v=.inst c j->f c j=some r->G):G :=
 @AV.casesOn (fun v=>(match v with|.inst c j=>f c j|_=>none)=some r->(∀ c j,v=.inst c j->f c j=some r->G)->G) v nn (fun _=>nn) (fun _=>nn) (fun _=>nn) (fun _=>nn) (fun _=>nn) (fun _=>nn) (fun _=>nn) (fun _=>nn) (fun _=>nn) (fun _=>nn) (fun _ _ h k=>k _ _ rfl h) (fun _=>nn) h k
theorem I7{c:Type}{r:c}{G:Prop}{l:List AV}{f:AV->AV->Option c}(h:two? f l=some r)(k:∀ a b,l=[a,b]->f a b=some r->G):G:=by
 cases l with
 | nil=>exact nn h k
 | cons a l=>cases l with
  | nil=>exact nn h k
  | cons b l=>cases l with
   | nil=>exact k a b rfl h
   | cons=>exact nn h k
theorem I8{a:Type}{r:a}{G:Prop}{v:AV}{f:List AV->Option a}(h:(match v with|.tup l=>f l|_=>none)=some r)(k:∀ l,v=.tup l->f l=some r->G):G :=
 @AV.casesOn (fun v=>(match v with|.tup l=>f l|_=>none)=some r->(∀ l,v=.tup l->f l=some r->G)->G) v nn (fun _=>nn) (fun _=>nn) (fun _=>nn) (fun _ h k=>k _ rfl h) (fun _=>nn) (fun _=>nn) (fun _=>nn) (fun _=>nn) (fun _=>nn) (fun _=>nn) (fun _ _=>nn) (fun _=>nn) h k
theorem UZ{a:Type}{r:a}{G:Prop}{v:AV}{f:List AV->Option a}(h:(match v with|.lst l=>f l|_=>none)=some r)(k:∀ l,v=.lst l->f l=some r->G):G :=
 @AV.casesOn (fun v=>(match v with|.lst l=>f l|_=>none)=some r->(∀ l,v=.lst l->f l=some r->G)->G) v nn (fun _=>nn) (fun _=>nn) (fun _=>nn) (fun _=>nn) (fun _ h k=>k _ rfl h) (fun _=>nn) (fun _=>nn) (fun _=>nn) (fun _=>nn) (fun _=>nn) (fun _ _=>nn) (fun _=>nn) h k
end Mine
namespace Mine
open PySem
structure Cx where
 prog:cB
 w:eL
 base:aX
 fnv:Nat->aF
 clv:Nat->aF
 hot:Nat->Bool:=fun _=>false
noncomputable def BI.val:BI->aC
 | .len=>.builtin "len"
 | .range=>.type "range"
 | .isinstance=>.builtin "isinstance"
 | .all=>.builtin "all"
 | .int=>.type "int"
 | .str=>.type "str"
 | .list=>.type "list"
 | .tuple=>.type "tuple"
 | .bool=>.type "bool"
 | .dict=>.type "dict"
 | .valueError=>.type "ValueError"
mutual
inductive VR (C:Cx) (β:List aF) (h:aX):aC->AV->Prop
 | none:VR C β h .none .none
 | bool (b:Bool):VR C β h (.bool b) (.bool b)
 | int (i:Int) (t:mM):VR C β h (.int i t) (.int i)
 | str (x:aW) (t:mM):VR C β h (.str x t) (.str x)
 | tup {a:aF} {items:Array aC} {l:List AV}:h.IsTuple a items->a∉β->Bg C β h items.toList l->VR C β h (.ref a) (.tup l)
 | lst {a:aF} {items:Array aC} {l:List AV}:h.IsList a items->a∉β->Bg C β h items.toList l->VR C β h (.ref a) (.lst l)
 | ref {a:aF} {i:Nat}:β[i]?=some a->VR C β h (.ref a) (.ref i)
 | rng {a:aF} {b:Int} {t u v:mM}:IsRange h a 0 b 1 t u v->a∉β->VR C β h (.ref a) (.rng b)
 | fn (k:Nat):VR C β h (.ref (C.fnv k)) (.fn k)
 | cls (k:Nat):VR C β h (.ref (C.clv k)) (.cls k)
 | bi {x:aC} (n:BI):x=n.val->VR C β h x (.bi n)
 | exc {a:aF} {c:Nat} {o:fj} {vs:Array aC}:h.get? a=some o->o.cls=.ref (C.clv c)->o.data=.fields vs->a∉β->VR C β h (.ref a) (.exc c)
 | inst {a dx:aF} {c j:Nat} {o:fj}:h.get? a=some o->o.cls=.ref (C.clv c)->o.data=.plain->o.dict=some dx->β[j]?=some dx->a∉β->VR C β h (.ref a) (.inst c j)
inductive Bg (C:Cx) (β:List aF) (h:aX):List aC->List AV->Prop
 | nil:Bg C β h [] []
 | cons {v:aC} {vs:List aC} {d:AV} {ds:List AV}:VR C β h v d->Bg C β h vs ds->Bg C β h (v::vs) (d::ds)
end
def Dr(o O:fj):Prop:=O=o\/(O.cls=o.cls/\O.data=o.data/\∃ E e,o.data=.dict E e)
theorem Dr.refl(o:fj):Dr o o:=.inl rfl
theorem Dr.trans{o c O:fj}(h:Dr o c)(k:Dr c O):Dr o O:=by
 rcases h with rfl|⟨H,a,E,e,b⟩
 .exact k
 .rcases k with rfl|⟨K,d,_⟩
  .exact .inr ⟨H,a,E,e,b⟩
  .exact .inr ⟨K.trans H,d.trans a,E,e,b⟩
theorem Dr.data{o O:fj}(h:Dr o O):O.cls=o.cls/\O.data=o.data:=by
 rcases h with rfl|⟨H,a,_⟩
 .exact⟨rfl,rfl⟩
 .exact⟨H,a⟩
theorem Dr.same{o O:fj}(h:Dr o O)(d:∀ E e,o.data≠.dict E e):O=o:=by
 rcases h with rfl|⟨_,_,E,e,H⟩
 .rfl
 .exact absurd H (d E e)
def Cs(o:fj):Prop:=(∃ E e,o.data=.dict E e)\/(∃ v,o.data=.cell v)\/(∃ vs,o.data=.fields vs/\o.cls≠.type "range"/\∃ T,o.cls=.type T)
theorem Dr.slotty{o O:fj}(k:Dr o O)(h:Cs o):Cs O:=by
 unfold Cs;refine Ac k.data.1 (Ac k.data.2 ?_);exact h
def Bv(_:aF):Prop:=False
structure Grow0(X:aF->Prop)(β:List aF)(h:aX)(β':List aF)(h':aX):Prop where
 ext:∃ ν,β'=β++ν/\∀ a∈ν,h.get? a=none
 keep:∀ a o,h.get? a=some o->a∉β->¬ X a->∃ o',h'.get? a=some o'/\Dr o o'
 xs:∀ a,X a->∃ o,h.get? a=some o/\Cs o
def Dk(h:aX)(a:aF):Prop:=∃ o E e,h.get? a=some o/\o.data=.dict E e
structure BS(X:aF->Prop)(β:List aF)(h:aX)(β':List aF)(h':aX):Prop extends Grow0 X β h β' h' where
 xlive:∀ a,X a->∃ o,h'.get? a=some o/\Cs o/\(Dk h a->∃ es ep,o.data=.dict es ep)
section
variable {C:Cx}{X:aF->Prop}{β β' β'':List aF}{h h' h'':aX}
theorem BS.refl(x:∀ a,X a->∃ o,h.get? a=some o/\Cs o)(β:List aF):BS X β h β h:=⟨⟨⟨[],by simp,fun _ H=>nomatch H⟩,fun _ o e _ _=>⟨o,e,.refl o⟩,x⟩,fun a H=>by refine Ah (x a H) fun o c f=>?_;exact⟨o,c,f,fun ⟨O,s,E,b,d⟩=>by rw[c] at b;obtain rfl:=inj b;exact⟨s,E,d⟩⟩⟩
theorem Grow0.notin(g:Grow0 X β h β' h'){a:aF}{o:fj}(e:h.get? a=some o)(n:a∉β):a∉β':=by
 refine Ah g.ext fun c E b=>?_;subst E;intro m
 rcases bl.mp m with H|H
 .exact n H
 .rw[b a H] at e;injection e
theorem BS.trans(g:BS X β h β' h')(k:BS X β' h' β'' h'')(live:∀ a∈β,∃ o,h'.get? a=some o):BS X β h β'' h'':=by
 refine Ah g.ext fun w E i=>Ah k.ext fun v m c=>⟨⟨⟨w++v,by (refine Ac m (Ac E ?_);rw[cu]),fun a f=>?_⟩,fun a o e n x=>?_,g.xs⟩,fun a f=>?_⟩
 .rcases bl.mp f with b|b
  .exact i a b
  .cases q:h.get? a with
   | none=>rfl
   | some o =>
    by_cases l:a∈β
    .refine aD (live a l) fun O H=>?_;rw[c a b] at H;injection H
    .by_cases x:X a
     .refine Ah (g.xlive a x) fun O H _=>?_;rw[c a b] at H;injection H
     .refine Ah (g.keep a o q l x) fun O H _=>?_;rw[c a b] at H;injection H
 .refine Ah (g.keep a o e n x) fun O H K=>?_;exact Ah (k.keep a O H (g.notin e n) x) fun j d u=>⟨j,d,K.trans u⟩
 .refine Bu (g.xlive a f) fun A b y F=>?_;exact Bu (k.xlive a f) fun B t S r=>⟨B,t,S,fun N=>by refine Ez (F N) fun s p q=>?_;exact r ⟨A,s,p,b,q⟩⟩
theorem BS.weaken(g:BS Bv β h β' h')(x:∀ a,X a->a∉β/\∃ o,h.get? a=some o/\Cs o):BS X β h β' h' :=
 ⟨⟨g.ext,fun a o e n _=>g.keep a o e n id,fun a H=>(x a H).2⟩,fun a H=>by
  refine PN (x a H) fun n o d i=>Ah (g.keep a o d n id) fun O b k=>?_;exact⟨O,b,k.slotty i,fun ⟨A,s,E,c,f⟩=>by rw[d] at c;obtain rfl:=inj c;exact⟨s,E,by refine Ac k.data.2 ?_;exact f⟩⟩⟩
theorem Grow0.seq(g:Grow0 X β h β' h'){a:aF}{o:fj}{vs n}(e:h.get? a=some o)(b:a∉β)(d:o.data=.seq vs n):h'.get? a=some o:=by
 by_cases x:X a
 .refine Ah (g.xs a x) fun O H c=>?_;rw[e] at H;obtain rfl:=inj H
  rcases c with ⟨s,E,q⟩|⟨v,q⟩|⟨v,q,_,_⟩<;>rw[d] at q<;>injection q
 .refine Ah (g.keep a o e b x) fun O H k=>?_;rw[k.same (fun s E q=>by rw[d] at q;injection q)] at H;exact H
theorem Grow0.fields(g:Grow0 X β h β' h'){a:aF}{o:fj}{vs}(e:h.get? a=some o)(n:a∉β)(d:o.data=.fields vs)(c:o.cls=.type "range"\/¬ X a):h'.get? a=some o:=by
 by_cases x:X a
 .refine Ah (g.xs a x) fun O H b=>?_;rw[e] at H;obtain rfl:=inj H
  rcases b with ⟨s,E,q⟩|⟨v,q⟩|⟨v,q,Q,_⟩
  .rw[d] at q;injection q
  .rw[d] at q;injection q
  .exact absurd x (c.resolve_left Q)
 .refine Ah (g.keep a o e n x) fun O H k=>?_;rw[k.same (fun s E q=>by rw[d] at q;injection q)] at H;exact H
theorem Grow0.own(g:Grow0 X β h β' h'){a:aF}{o:fj}{vs}{c:aF}(e:h.get? a=some o)(n:a∉β)(d:o.data=.fields vs)(b:o.cls=.ref c):h'.get? a=some o:=by
 refine g.fields e n d (.inr fun x=>?_);refine Ah (g.xs a x) fun O H s=>?_;rw[e] at H;obtain rfl:=inj H
 rcases s with ⟨f,E,q⟩|⟨v,q⟩|⟨v,q,_,T,Q⟩
 .rw[d] at q;injection q
 .rw[d] at q;injection q
 .rw[b] at Q;injection Q
theorem Grow0.plain(g:Grow0 X β h β' h'){a:aF}{o:fj}(e:h.get? a=some o)(n:a∉β)(d:o.data=.plain):h'.get? a=some o:=by
 have x:¬ X a:=fun q=>by
  refine Ah (g.xs a q) fun O H s=>?_;rw[e] at H;obtain rfl:=inj H
  rcases s with ⟨_,_,b⟩|⟨_,b⟩|⟨_,b,_⟩<;>rw[d] at b<;>injection b
 refine Ah (g.keep a o e n x) fun O H k=>?_;rw[k.same (fun c E q=>by rw[d] at q;injection q)] at H;exact H
theorem Grow0.at_(g:Grow0 X β h β' h'){j:Nat}{a:aF}(hb:β[j]?=some a):β'[j]?=some a:=by
 refine Ah g.ext fun b e _=>?_;subst e;exact Ac (aM (Bm hb)) hb
theorem Bg.ind{P:List aC->List AV->Prop}(n:P [] [])(H:∀ {v vs d D},VR C β h v d->Bg C β h vs D->P vs D->P (v::vs) (d::D)){vs:List aC}{D:List AV}(r:Bg C β h vs D):P vs D :=
 Bg.rec (motive_1:=fun _ _ _=>True) (motive_2:=fun vs D _=>P vs D) trivial (fun _=>trivial) (fun _ _=>trivial) (fun _ _=>trivial) (fun _ _ _ _=>trivial) (fun _ _ _ _=>trivial) (fun _=>trivial) (fun _ _=>trivial) (fun _=>trivial) (fun _=>trivial) (fun _ _=>trivial) (fun _ _ _ _=>trivial) (fun _ _ _ _ _ _=>trivial) n (fun a r _ i=>H a r i) r
theorem Grow0.tup(g:Grow0 X β h β' h'){a:aF}{items:Array aC}(t:h.IsTuple a items)(b:a∉β):h'.IsTuple a items/\a∉β':=by
 exact C3 t fun o c d n H=>⟨⟨o,g.seq c b H,d,n,H⟩,g.notin c b⟩
theorem Grow0.lst(g:Grow0 X β h β' h'){a:aF}{items:Array aC}(t:h.IsList a items)(b:a∉β):h'.IsList a items/\a∉β':=by
 exact C3 t fun o c d n H=>⟨⟨o,g.seq c b H,d,n,H⟩,g.notin c b⟩
theorem VR.mono0(g:Grow0 X β h β' h'){v:aC}{d:AV}(r:VR C β h v d):VR C β' h' v d :=
 VR.rec (motive_1:=fun v d _=>VR C β' h' v d) (motive_2:=fun V D _=>Bg C β' h' V D) .none .bool .int .str
  (fun t H _ i=>.tup (g.tup t H).1 (g.tup t H).2 i) (fun t H _ i=>.lst (g.lst t H).1 (g.lst t H).2 i)
  (fun e=>.ref (g.at_ e)) (fun f H=>.rng (g.fields f H rfl (.inl rfl)) (g.notin f H)) .fn .cls .bi
  (fun o c b H=>.exc (g.own o H b c) c b (g.notin o H)) (fun o c b x e H=>.inst (g.plain o H b) c b x (g.at_ e) (g.notin o H)) .nil (fun _ _ a r=>.cons a r) r
theorem Bg.mono0(g:Grow0 X β h β' h'){vs:List aC}{d:List AV}(r:Bg C β h vs d):Bg C β' h' vs d:=r.ind (P:=fun vs d=>Bg C β' h' vs d) .nil fun a _ i=>.cons (a.mono0 g) i
theorem VR.mono(g:BS X β h β' h'){v:aC}{d:AV}(r:VR C β h v d):VR C β' h' v d:=r.mono0 g.toGrow0
theorem Bg.mono(g:BS X β h β' h'){vs:List aC}{d:List AV}(r:Bg C β h vs d):Bg C β' h' vs d:=r.mono0 g.toGrow0
def VI(C:Cx)(β:List aF)(h:aX)(x:aC):AV->Prop
 | .none=>x=.none
 | .bool b=>x=.bool b
 | .int i=>∃ t,x=.int i t
 | .str y=>∃ t,x=.str y t
 | .tup l=>∃ a items,x=.ref a/\h.IsTuple a items/\a∉β/\Bg C β h items.toList l
 | .lst l=>∃ a items,x=.ref a/\h.IsList a items/\a∉β/\Bg C β h items.toList l
 | .ref i=>∃ a,x=.ref a/\β[i]?=some a
 | .rng b=>∃ a t u v,x=.ref a/\IsRange h a 0 b 1 t u v/\a∉β
 | .fn k=>x=.ref (C.fnv k)
 | .cls k=>x=.ref (C.clv k)
 | .bi n=>x=n.val
 | .exc c=>∃ a o vs,x=.ref a/\h.get? a=some o/\o.cls=.ref (C.clv c)/\o.data=.fields vs/\a∉β
 | .inst c j=>∃ a d o,x=.ref a/\h.get? a=some o/\o.cls=.ref (C.clv c)/\o.data=.plain/\o.dict=some d/\β[j]?=some d/\a∉β
theorem VR.inv{v:aC}{d:AV}(r:VR C β h v d):VI C β h v d:=by
 cases r with
 | none=>rfl
 | bool b=>rfl
 | int i t=>exact⟨t,rfl⟩
 | str y t=>exact⟨t,rfl⟩
 | tup H a c=>exact⟨_,_,rfl,H,a,c⟩
 | lst H a c=>exact⟨_,_,rfl,H,a,c⟩
 | ref l=>exact⟨_,rfl,l⟩
 | rng H a=>exact⟨_,_,_,_,rfl,H,a⟩
 | fn k=>rfl
 | cls k=>rfl
 | bi n e=>exact e
 | exc H a c f=>exact⟨_,_,_,rfl,H,a,c,f⟩
 | inst H a c f g j=>exact⟨_,_,_,rfl,H,a,c,f,g,j⟩
theorem Bg.nil_inv{vs:List aC}(r:Bg C β h vs []):vs=[]:=by cases r;rfl
theorem Bg.cons_inv{vs:List aC}{d:AV}{D:List AV}(r:Bg C β h vs (d::D)):∃ v w,vs=v::w/\VR C β h v d/\Bg C β h w D:=by
 cases r with
 | cons a r=>exact⟨_,_,rfl,a,r⟩
theorem Bg.uncons{v:aC}{vs:List aC}{d:AV}{D:List AV}(r:Bg C β h (v::vs) (d::D)):VR C β h v d/\Bg C β h vs D:=by
 obtain⟨_,_,e,a,r⟩:=r.cons_inv;injection e with E b
 refine Ac E (Ac b ?_);exact⟨a,r⟩
theorem Bg.one_inv{vs:List aC}{d:AV}(r:Bg C β h vs [d]):∃ v,vs=[v]/\VR C β h v d:=by
 obtain⟨v,w,e,a,r⟩:=r.cons_inv;exact⟨v,by exact Ac e (Ac r.nil_inv rfl),a⟩
theorem Bg.two_inv{vs:List aC}{d e:AV}(r:Bg C β h vs [d,e]):∃ v w,vs=[v,w]/\VR C β h v d/\VR C β h w e:=by
 obtain⟨v,W,e,a,r⟩:=r.cons_inv;exact Ah r.one_inv fun w E c=>⟨v,w,by exact Ac e (Ac E rfl),a,c⟩
theorem Bg.length{vs:List aC}{d:List AV}(r:Bg C β h vs d):vs.length=d.length:=r.ind (P:=fun vs d=>vs.length=d.length) rfl fun _ _ e=>congrArg (·+1) e
theorem Bg.append{vs w:List aC}{d e:List AV}(r:Bg C β h vs d)(k:Bg C β h w e):Bg C β h (vs++w) (d++e):=r.ind (P:=fun vs d=>Bg C β h (vs++w) (d++e)) k fun a _ i=>.cons a i
theorem Bg.get{vs:List aC}{D:List AV}(r:Bg C β h vs D):∀ {k:Nat} {d:AV},D[k]?=some d->∃ v,vs[k]?=some v/\VR C β h v d :=
 r.ind (P:=fun vs D=>∀ {k:Nat} {d:AV},D[k]?=some d->∃ v,vs[k]?=some v/\VR C β h v d) (fun e=>nomatch e) fun {v vs d D} a _ i {k b} e=>match k,e with
  | 0,e=>⟨v,rfl,da e▸a⟩
  | k+1,e=>i (k:=k) e
theorem Bg.take{vs:List aC}{d:List AV}(r:Bg C β h vs d):∀ k,Bg C β h (vs.take k) (d.take k) :=
 r.ind (P:=fun vs d=>∀ k,Bg C β h (vs.take k) (d.take k)) (fun k=>by refine Ac mu (Ac mu ?_);exact .nil) fun a _ i k=>match k with
  | 0=>.nil
  | k+1=>.cons a (i k)
theorem Bg.drop{vs:List aC}{d:List AV}(r:Bg C β h vs d):∀ k,Bg C β h (vs.drop k) (d.drop k) :=
 r.ind (P:=fun vs d=>∀ k,Bg C β h (vs.drop k) (d.drop k)) (fun k=>by refine Ac mv (Ac mv ?_);exact .nil) fun a r i k=>match k with
  | 0=>.cons a r
  | k+1=>i k
theorem Bg.set{vs:List aC}{D:List AV}(r:Bg C β h vs D):∀ k {v:aC} {d:AV},VR C β h v d->Bg C β h (vs.set k v) (D.set k d) :=
 r.ind (P:=fun vs D=>∀ k {v:aC} {d:AV},VR C β h v d->Bg C β h (vs.set k v) (D.set k d)) (fun _ _ _ _=>.nil) fun a r i k _ _ q=>match k with
  | 0=>.cons q r
  | k+1=>.cons a (i k q)
end
noncomputable def CO(k:Int×List Int):AV:=.tup [.int k.1,.tup (k.2.map .int)]
noncomputable def F8(k:Int×List Int):Int:=ku (db [hashInt k.1,ku (db (k.2.map hashInt))])
def Hu(C:Cx)(β:List aF)(h:aX)(v:Option aC):Option AV->Prop
 | none=>v=none
 | some d=>∃ x,v=some x/\VR C β h x d
theorem Hu.mono0{C:Cx}{X:aF->Prop}{β a:List aF}{h h':aX}(g:Grow0 X β h a h'){v:Option aC}:∀ {d:Option AV},Hu C β h v d->Hu C a h' v d
 | none,e=>e
 | some _,⟨x,e,r⟩=>⟨x,e,r.mono0 g⟩
def DL(β:List aF)(d:Option aF):Option Nat->Prop
 | none=>d=none
 | some j=>∃ y,d=some y/\β[j]?=some y
theorem DL.mono{X:aF->Prop}{β a:List aF}{h h':aX}(g:Grow0 X β h a h'){D:Option aF}:∀ {d:Option Nat},DL β D d->DL a D d
 | none,e=>e
 | some _,⟨y,e,r⟩=>⟨y,e,g.at_ r⟩
def DR(C:Cx)(β:List aF)(h:aX)(a:aF){K:Type}[DecidableEq K](knd:KeyKind C.prog C.w K)(l:List (K×AV)):Prop:=∃ kvs,h.DictOf knd a kvs/\kvs.map (·.1)=l.map (·.1)/\Bg C β h (kvs.map (·.2)) (l.map (·.2))
def OR(C:Cx)(β:List aF)(h:aX)(a:aF):AO->Prop
 | .list l=>∃ items,h.PlainList a items/\Bg C β h items.toList l
 | .dict l=>DR C β h a (intKind C.prog C.w) l
 | .dictN l=>DR C β h a (strKind C.prog C.w) l
 | .dictS l=>∃ (xs:List ((Int×List Int)×aF×aC)) (o:fj) (e:Array lp) (E:Nat),h.get? a=some o/\o.ExactDict/\o.data=.dict e E/\e.toList=xs.map (fun x=>⟨F8 x.1,.ref x.2.1,x.2.2⟩) /\
   Bg C β h (xs.map fun x=>.ref x.2.1) (xs.map fun x=>CO x.1)/\xs.map (·.1)=l.map (·.1)/\Bg C β h (xs.map (·.2.2)) (l.map (·.2))/\(l.map (·.1)).Nodup
 | .attrs l=>∃ m,h.Ns1 a m/\∀ n,Hu C β h (m n) (l.lookup n)
 | .exo c d f=>∃ o vs,h.get? a=some o/\o.cls=.ref (C.clv c)/\o.data=.fields vs/\(f=true->vs.size=6/\vs[1]?=some .none)/\DL β o.dict d
structure B7(C:Cx)(β:List aF)(h:aX)(H:AH):Prop where
 len:β.length=H.length
 nodup:β.Nodup
 obj:∀ (i:Nat) (a:aF) (o:AO),β[i]?=some a->H[i]?=some o->OR C β h a o
 base:∀ a o,C.base.get? a=some o->h.get? a=some o
 fresh:∀ a∈β,C.base.get? a=none
theorem DR.live{C:Cx}{β:List aF}{h:aX}{a:aF}{K:Type}[DecidableEq K]{knd:KeyKind C.prog C.w K}{l:List (K×AV)}(r:DR C β h a knd l):∃ O,h.get? a=some O:=by
 refine Ah r fun _ q _=>?_;obtain⟨o,_,_,H,_⟩:=q;exact⟨o,H⟩
theorem DR.keep{C:Cx}{X:aF->Prop}{β b:List aF}{h h':aX}(g:Grow0 X β h b h'){a:aF}(e:∀ o,h.get? a=some o->h'.get? a=some o){K:Type}[DecidableEq K]{knd:KeyKind C.prog C.w K}{l:List (K×AV)}(r:DR C β h a knd l):DR C b h' a knd l:=by
 refine Bu r fun k q H v=>?_;obtain⟨o,s,E,c,r⟩:=q;exact⟨k,⟨o,s,E,e _ c,r⟩,H,v.mono0 g⟩
theorem OR.live{C:Cx}{β:List aF}{h:aX}{a:aF}{o:AO}(r:OR C β h a o):∃ O,h.get? a=some O:=by
 cases o with
 | list _=>refine Ah r fun _ q _=>?_;exact aD q fun _ H=>⟨_,H⟩
 | dict _=>exact DR.live r
 | dictN _=>exact DR.live r
 | dictS _=>refine UQ r fun _ o _ _ H _=>?_;exact⟨o,H⟩
 | attrs _=>refine Ah r fun _ q _=>?_;obtain⟨o,_,_,H,_⟩:=q;exact⟨o,H⟩
 | exo _ _ _=>refine Cg r fun o _ H _=>?_;exact⟨o,H⟩
theorem OR.keep{C:Cx}{X:aF->Prop}{β b:List aF}{h h':aX}(g:Grow0 X β h b h'){a:aF}(e:∀ o,h.get? a=some o->h'.get? a=some o){ao:AO}(r:OR C β h a ao):OR C b h' a ao:=by
 cases ao with
 | list _=>refine Ah r fun i q v=>?_;exact aD q fun m H=>⟨i,⟨m,e _ H⟩,v.mono0 g⟩
 | dict _=>exact DR.keep g e r
 | dictN _=>exact DR.keep g e r
 | dictS _=>refine KK r fun w o s E H x d j l p v u=>?_;exact⟨w,o,s,E,e _ H,x,d,j,l.mono0 g,p,v.mono0 g,u⟩
 | attrs _=>refine Ah r fun m t c=>?_;exact⟨m,t.at e,fun n=>(c n).mono0 g⟩
 | exo _ _ _=>refine CZ r fun o V H f d k dl=>?_;exact⟨o,V,e _ H,f,d,k,dl.mono g⟩
theorem B7.live{C:Cx}{β:List aF}{h:aX}{H:AH}(I:B7 C β h H):∀ a∈β,∃ o,h.get? a=some o:=by
 intro a d;obtain⟨i,c,e⟩:=ee d;have E:β[i]?=some a:=by exact Ac (bK c) (Ac e rfl)
 have b:i<H.length:=I.len▸c;exact (I.obj i a _ E (bK b)).live
theorem B7.noB{C:Cx}{β:List aF}{h:aX}{H:AH}(I:B7 C β h H)(b:aF)(hb:h.get? b=none):C.base.get? b=none:=by
 cases q:C.base.get? b with
 | none=>rfl
 | some o=>injection hb.symm.trans (I.base b o q)
structure Au(C:Cx)(X:aF->Prop)(β:List aF)(s:aE)(β':List aF)(s':aE)(H':AH):Prop where
 grow:BS X β s.heap β' s'.heap
 inv:B7 C β' s'.heap H'
 same:∃ h tk,s'={ s with heap:=h,toks:=tk }
theorem Au.refl{C:Cx}{β:List aF}{s:aE}{H:AH}(I:B7 C β s.heap H):Au C Bv β s β s H:=⟨.refl (fun _ h=>h.elim) _,I,s.heap,s.toks,rfl⟩
theorem Au.trans{C:Cx}{X:aF->Prop}{β d c:List aF}{s f S:aE}{g H:AH}(a:Au C X β s d f g)(b:Au C X d f c S H):Au C X β s c S H:=by
 refine⟨a.grow.trans b.grow fun x j=>?_,b.inv,?_⟩
 .refine Ah a.grow.ext fun k e _=>?_;exact a.inv.live x (by refine Ac e ?_;exact bD _ j)
 .refine Ez a.same fun h T E=>?_;subst E;refine Ez b.same fun i t E=>?_;subst E;exact⟨i,t,rfl⟩
theorem Au.weaken{C:Cx}{X:aF->Prop}{β b:List aF}{s S:aE}{H:AH}(a:Au C Bv β s b S H)(h:∀ a,X a->a∉β/\∃ o,s.heap.get? a=some o/\Cs o):Au C X β s b S H :=
 ⟨a.grow.weaken h,a.inv,a.same⟩
def OV(C:Cx)(β:List aF)(h:aX)(v:Option aC):Option AV->Prop
 | none=>True
 | some d=>∃ x,v=some x/\VR C β h x d
theorem OV.mono0{C:Cx}{X:aF->Prop}{β a:List aF}{h h':aX}(g:Grow0 X β h a h'){v:Option aC}:∀ {d:Option AV},OV C β h v d->OV C a h' v d
 | none,_=>trivial
 | some _,⟨x,e,r⟩=>⟨x,e,r.mono0 g⟩
theorem OV.mono{C:Cx}{X:aF->Prop}{β a:List aF}{h h':aX}(g:BS X β h a h'){v:Option aC}{d:Option AV}(r:OV C β h v d):OV C a h' v d:=r.mono0 g.toGrow0
structure AN where
 Γ:List (aW×Nat)
 G:List aW
 K:List aW:=[]
 calm:Bool:=true
 L:List aW:=[]
 bias:Nat:=0
def CL(e:f3)(a:aF):Prop:=a=e.locals\/∃ x,e.cells.lookup x=some a
structure ER(C:Cx)(S:AN)(env:f3)(β:List aF)(h:aX)(σ:AW):Prop where
 kind:env.scope.kind=.function
 globals:env.globals=cy
 builtins:env.builtins=gW
 notL:env.locals∉β
 locB:C.base.get? env.locals=none
 glo:∀ x∈S.G,env.kindOf x=some .globalImplicit
 cap:∀ x∈S.K,env.kindOf x=some .cell\/env.kindOf x=some .free
 loc:∀ x∈S.L,env.kindOf x=some .local
 cell:∀ x c,env.cells.lookup x=some c->(∃ v,h.IsCell c v)/\c∉β/\C.base.get? c=none/\c≠env.locals
 apart:∀ x y c,env.cells.lookup x=some c->env.cells.lookup y=some c->x=y
 slots:∀ x y i,S.Γ.lookup x=some i->S.Γ.lookup y=some i->x=y
 vars:∃ m:aW->Option aC,h.Ns env.locals m/\∀ x i,S.Γ.lookup x=some i ->
  (env.kindOf x=some .local/\OV C β h (m x) (σ i)) \/
  ((env.kindOf x=some .cell\/env.kindOf x=some .free)/\∃ c v,env.cells.lookup x=some c/\h.IsCell c v/\OV C β h v (σ i))
theorem ER.own{C:Cx}{S:AN}{E:f3}{β:List aF}{h:aX}{σ:AW}(e:ER C S E β h σ):∀ a,CL E a->a∉β/\∃ o,h.get? a=some o/\Cs o:=by
 rintro a (rfl|⟨x,hx⟩)
 .refine Ah e.vars fun m Q _=>?_;exact Do Q fun o s p b H _=>⟨e.notL,o,b,.inl ⟨s,p,H⟩⟩
 .refine GH (e.cell x a hx) fun q c _=>?_;exact Cg q fun v o b H=>⟨c,o,b,.inr (.inl ⟨v,H⟩)⟩
theorem j7.kept{h h':aX}{a:aF}{m:aW->Option aC}(n:h.Ns a m)(k:∀ o,h.get? a=some o->∃ O,h'.get? a=some O/\Dr o O):h'.Ns a m:=by
 exact Do n fun o E e c d r=>Ah (k o c) fun O H b=>⟨O,E,e,H,by refine Ac b.data.2 ?_;exact d,r⟩
theorem jR.kept{h h':aX}{a:aF}{v:Option aC}(n:h.IsCell a v)(k:∀ o,h.get? a=some o->∃ O,h'.get? a=some O/\Dr o O):h'.IsCell a v:=by
 exact Ah n fun o c d=>Ah (k o c) fun O H b=>⟨O,H,by refine Ac b.data.2 ?_;exact d⟩
theorem ER.mono'{C:Cx}{X:aF->Prop}{S:AN}{E:f3}{β b:List aF}{h h':aX}{σ:AW}(g:Grow0 X β h b h')(w:∀ a,CL E a->¬ X a)(e:ER C S E β h σ):ER C S E b h' σ:=by
 refine Ah e.vars fun m s d=>?_;have k:∀ a,a∉β->CL E a->∀ o,h.get? a=some o->∃ O,h'.get? a=some O/\Dr o O:=fun a y z o l=>g.keep a o l y (w a z);refine⟨e.kind,e.globals,e.builtins,?_,e.locB,e.glo,e.cap,e.loc,fun x c H=>?_,e.apart,e.slots,m,j7.kept s (k _ e.notL (.inl rfl)),fun x i A=>?_⟩
 .refine Gg (id s) fun o D B l G=>?_;exact g.notin l e.notL
 .refine F3 (e.cell x c H) fun q p t u=>?_;exact aD q fun v d=>Ah (id d) fun I n F=>⟨⟨v,jR.kept d (k _ p (.inr ⟨x,H⟩))⟩,g.notin n p,t,u⟩
 .rcases d x i A with ⟨j,r⟩|⟨j,c,v,H,f,r⟩
  .exact .inl ⟨j,r.mono0 g⟩
  .exact .inr ⟨j,c,v,H,jR.kept f (k _ (e.cell x c H).2.1 (.inr ⟨x,H⟩)),r.mono0 g⟩
theorem ER.mono{C:Cx}{S:AN}{E:f3}{β a:List aF}{h h':aX}{σ:AW}(g:BS Bv β h a h')(e:ER C S E β h σ):ER C S E a h' σ:=e.mono' g.toGrow0 fun _ _=>id
structure Mb(C:Cx)(β:List aF)(h:aX)(env:f3):Prop where
 kind:env.scope.kind=.function
 gen:env.scope.isGenerator=false
 co:env.scope.isCoroutine=false
 builtins:env.builtins=gW
 globals:env.globals=cy
 loc:env.frame=some env.locals
 notL:env.locals∉β
 locB:C.base.get? env.locals=none
 ns:∃ m,h.Ns env.locals m
def Fi(C:Cx)(A:bY)(β:List aF)(h:aX):Prop:=∃ l,A.frames=some l/\∀ e∈l,Mb C β h e
theorem Mb.mono{C:Cx}{X:aF->Prop}{e:f3}{β a:List aF}{h h':aX}(g:BS X β h a h')(x:X e.locals->∃ m,h'.Ns e.locals m)(f:Mb C β h e):Mb C a h' e:=by
 refine aD f.ns fun m b=>Gg (id b) fun o s E H r=>⟨f.kind,f.gen,f.co,f.builtins,f.globals,f.loc,g.notin H f.notL,f.locB,?_⟩
 by_cases q:X e.locals
 .exact x q
 .exact⟨m,j7.kept b fun o H=>g.keep _ o H f.notL q⟩
theorem Fi.mono{C:Cx}{A:bY}{β a:List aF}{h h':aX}(g:BS Bv β h a h'):Fi C A β h->Fi C A a h'
 | ⟨l,b,k⟩=>⟨l,b,fun e H=>(k e H).mono g fun x=>x.elim⟩
end Mine
namespace Mine
open PySem PyProof.Rows PySem.Calls
structure Dc(C:Cx)(mg mb:aW->Option aC):Prop where
 g:C.base.Ns cy mg
 b:C.base.Ns gW mb
 nolimit:C.base.NoLimit
 seer:C.base.NoSeer
 tree:C.prog.given.tree=none
structure Ed(n:Nat)(A:bY):Prop where
 depth:A.depth+n+110<gX
 units:A.units+8*n+200<cLine
structure DO(C:Cx)(n:Nat)(A:bY)(S:AN)(env:f3)(β:List aF)(s:aE)(σ:AW)(H:AH):Prop where
 inv:B7 C β s.heap H
 env:ER C S env β s.heap σ
 room:Ed n A
 calm:S.calm=true->A.handled=none
 stk:Fi C A β s.heap
 ne:A.frames≠some []
section
variable {C:Cx}{n:Nat}{A:bY}{S:AN}{env:f3}{β β':List aF}{s s':aE}{σ:AW}{H H':AH}
theorem DO.after(p:DO C n A S env β s σ H)(a:Au C Bv β s β' s' H'):DO C n A S env β' s' σ H':=⟨a.inv,p.env.mono a.grow,p.room,p.calm,p.stk.mono a.grow,p.ne⟩
end
def KM(C:Cx)(h h':aX)(fl:aC)(a:aF)(c:Nat):Prop :=
 ∃ O vs,h'.get? a=some O/\O.cls=.ref (C.clv c)/\O.data=.fields vs/\h.get? a=none /\
  ((vs[1]?=some .none/\fl=.none)\/∃ T o t,vs[1]?=some (.ref T)/\h.get? T=none/\T≠a/\h'.get? T=some o/\o.cls=.type "traceback"/\o.data=.fields t/\t[3]?=some fl)
def Lk(β:List aF)(H:AH)(a:aF)(c:Nat)(x:AV):Prop:=(x=.exc c/\a∉β)\/∃ (i:Nat) (d:Option Nat),x=.ref i/\β[i]?=some a/\H[i]?=some (.exo c d false)
def XR(C:Cx)(h h':aX)(β:List aF)(H:AH)(e:aC)(x:AV):Prop:=∃ a c fl,e=.ref a/\Lk β H a c x/\KM C h h' fl a c
theorem Lk.not{β:List aF}{H:AH}{a:aF}{c:Nat}{x:AV}(l:Lk β H a c x)(N:β.Nodup):∀ (i:Nat) (c:Nat) (d:Option Nat),β[i]?=some a->H[i]?=some (.exo c d true)->False:=by
 intro i C D h b
 rcases l with ⟨_,n⟩|⟨j,d,_,f,k⟩
 .exact n (aV h)
 .refine aD (bp.mp h) fun g e=>?_;refine aD (bp.mp f) fun m E=>?_;have:=(dH N).mp (e.trans E.symm);subst this;rw[b] at k;cases k
theorem KM.older{C:Cx}{B h h':aX}{fl:aC}{a:aF}{c:Nat}(f:KM C h h' fl a c)(k:∀ b,h.get? b=none->B.get? b=none):KM C B h' fl a c:=by
 refine CZ f fun O v d e g i H=>⟨O,v,d,e,g,k _ i,?_⟩
 rcases H with H|⟨T,o,t,K,j,l⟩
 .exact .inl H
 .exact .inr ⟨T,o,t,K,k _ j,l⟩
theorem XR.older{C:Cx}{B h h':aX}{β:List aF}{H:AH}{e:aC}{x:AV}(f:XR C h h' β H e x)(k:∀ b,h.get? b=none->B.get? b=none):XR C B h' β H e x:=by
 obtain⟨a,c,fl,E,d,f⟩:=f;exact⟨a,c,fl,E,d,f.older k⟩
theorem Au.fresh{C:Cx}{X:aF->Prop}{β c:List aF}{s S:aE}{f:AH}(a:Au C X β s c S f)(b:aF)(hb:S.heap.get? b=none):s.heap.get? b=none:=by
 cases q:s.heap.get? b with
 | none=>rfl
 | some o =>
  by_cases H:b∈β
  .refine Ah a.grow.ext fun g e _=>?_;refine aD (a.inv.live b (by refine Ac e ?_;exact bD _ H)) fun O h=>?_;rw[hb] at h;injection h
  .by_cases d:X b
   .refine Ah (a.grow.xlive b d) fun O h _=>?_;rw[hb] at h;injection h
   .refine Ah (a.grow.keep b o q H d) fun O h _=>?_;rw[hb] at h;injection h
def AE{c b:Type}(C:Cx)(X:aF->Prop)(R:List aF->aX->c->b->Prop)(β:List aF)(s:aE)(r:Rs b)(Q:c->aE->Prop)(E:aC->aE->Prop):Prop :=
 match r with
 | .ok v H=>∀ x S a,Au C X β s a S H->R a S.heap x v->Q x S
 | .err x H=>∀ e S a,Au C X β s a S H->XR C s.heap S.heap a H e x->E e S
 | .bad=>False
section
variable {ρ ρ' α α':Type}{C:Cx}{X:aF->Prop}{R:List aF->aX->ρ->α->Prop}{R':List aF->aX->ρ'->α'->Prop}{β β':List aF}{s s':aE}{H':AH}{r:Rs α}{Q:ρ->aE->Prop}{E:aC->aE->Prop}
theorem AE.shift(a:Au C X β s β' s' H')(h:AE C X R β s r Q E):AE C X R β' s' r Q E:=by
 cases r with
 | ok v K=>exact fun x S c b H=>h x S c (a.trans b) H
 | err _ _=>exact fun e S c b H=>h e S c (a.trans b) (H.older a.fresh)
 | bad=>exact h
theorem AE.bind{f:α->AH->Rs α'}{Q:ρ'->aE->Prop}(h:AE C X R' β s (r.bind f) Q E) :
  AE C X R β s r (fun x S=>∃ a H b,r=.ok a H/\Au C X β s b S H/\R b S.heap x a/\AE C X R' b S (f a H) Q E) E:=by
 cases r with
 | ok v K=>exact fun x S b a c=>⟨v,K,b,rfl,a,c,AE.shift a h⟩
 | err _ _=>exact h
 | bad=>exact h
theorem AE.bindE{f:α->AH->Rs α'}{Q:ρ'->aE->Prop}(d:∀ a,X a->a∉β/\∃ o,s.heap.get? a=some o/\Cs o)(h:AE C X R' β s (r.bind f) Q E) :
  AE C Bv R β s r (fun x S=>∃ a H b,r=.ok a H/\Au C Bv β s b S H/\R b S.heap x a/\AE C X R' b S (f a H) Q E) E:=by
 cases r with
 | ok v K=>exact fun x S b a c=>⟨v,K,b,rfl,a,c,AE.shift (a.weaken d) h⟩
 | err _ _=>exact fun e S b a c=>h e S b (a.weaken d) c
 | bad=>exact h
theorem AE.then{f:α->AH->Rs α'}{q:ρ'->aE->Prop}{A:bY}{m:Sem ρ}(h:AE C X R' β s (r.bind f) q E)(g:∀ Q,AE C X R β s r Q E->wpAny (model C.prog C.w) A m Q E s)
  (k:∀ x a v aa j,r=.ok v aa->Au C X β s j a aa->R j a.heap x v->AE C X R' j a (f v aa) q E->Q x a):wpAny (model C.prog C.w) A m Q E s :=
 bJ (g _ (AE.bind h)) (fun x a h=>Dl h (k x a)) fun _ _ e=>e
theorem AE.thenE{f:α->AH->Rs α'}{q:ρ'->aE->Prop}{A:bY}{m:Sem ρ}(H:∀ a,X a->a∉β/\∃ o,s.heap.get? a=some o/\Cs o)(h:AE C X R' β s (r.bind f) q E)(g:∀ Q,AE C Bv R β s r Q E->wpAny (model C.prog C.w) A m Q E s)
  (k:∀ x b v aa j,r=.ok v aa->Au C Bv β s j b aa->R j b.heap x v->AE C X R' j b (f v aa) q E->Q x b):wpAny (model C.prog C.w) A m Q E s :=
 bJ (g _ (AE.bindE H h)) (fun x b h=>Dl h (k x b)) fun _ _ e=>e
theorem AE.ok_here{v:α}{H:AH}{x:ρ}(I:B7 C β s.heap H)(h:AE C Bv R β s (.ok v H) Q E)(a:R β s.heap x v):Q x s:=h x s β (.refl I) a
end
structure SE(C:Cx)(n:Nat)(S:AN)(e:Expr)(d:DE):Prop where
 go:∀ A env σ H β s Q E,DO C n A S env β s σ H->AE C Bv (VR C) β s (d σ H) Q E->wpAny (model C.prog C.w) A (eval e env) Q E s
def BR(_:List aF)(_:aX)(x:Bool)(b:Bool):Prop:=x=b
structure ST(C:Cx)(n:Nat)(S:AN)(e:Expr)(d:DT):Prop where
 go:∀ A env σ H β s Q E,DO C n A S env β s σ H->AE C Bv BR β s (d σ H) Q E->wpAny (model C.prog C.w) A (isTrue e env (eval e env)) Q E s
structure DV(C:Cx)(n:Nat)(S:AN)(es:List Expr)(ds:List DE):Prop where
 go:∀ A env σ H β s Q E pos,DO C n A S env β s σ H->AE C Bv (Bg C) β s (AL ds σ H) Q E->wpAny (model C.prog C.w) A (spliced (backTo pos (starEach es env))) Q E s
section
variable {C:Cx}{n:Nat}{S:AN}{β:List aF}{s:aE}{H:AH}{A:bY}{Q:aC->aE->Prop}{E:aC->aE->Prop}
theorem B7.toks(I:B7 C β s.heap H)(tk:Nat):Au C Bv β s β { s with toks:=tk } H:=⟨.refl (fun _ h=>h.elim) _,I,s.heap,tk,rfl⟩
theorem B7.push(I:B7 C β s.heap H)(o:fj)(tk:Nat):Au C Bv β s β { s with heap:=s.heap.push o,toks:=tk } H:=by
 have g:BS Bv β s.heap β (s.heap.push o):=⟨⟨⟨[],by simp,fun _ f=>nomatch f⟩,fun a O e _ _=>⟨O,aP _ e,.refl _⟩,fun _ h=>h.elim⟩,fun _ h=>h.elim⟩;refine⟨g,⟨I.len,I.nodup,fun i a A c d=>?_,fun a O e=>aP _ (I.base a O e),I.fresh⟩,_,tk,rfl⟩;exact (I.obj i a A c d).keep g.toGrow0 fun _ b=>aP _ b
theorem B7.new_notin(I:B7 C β s.heap H):s.heap.objs.size∉β:=fun h=>by
 exact aD (I.live _ h) fun o a=>dj _ (bX a)
theorem SE.cstNone{k:Nat}{pos:dc}:SE C n S (.Constant .none k pos) (Am .none):=by
 refine⟨fun A e b H a s Q E P h=>?_⟩;exact wpAny_Constant_none (h.ok_here P.inv .none)
theorem SE.cstBool{k:Nat}{pos:dc}{b:Bool}:SE C n S (.Constant (.bool b) k pos) (Am (.bool b)):=by
 refine⟨fun A e c H a s Q E P h=>?_⟩;exact wpAny_Constant_bool (h.ok_here P.inv (.bool b))
theorem SE.cstInt{k:Nat}{pos:dc}{i:Int}:SE C n S (.Constant (.int i) k pos) (Am (.int i)):=by
 refine⟨fun A e b H a s Q E P h=>?_⟩;exact wpAny_Constant_int (h _ _ _ (P.inv.toks _) (.int i _))
theorem SE.cstStr{k:Nat}{pos:dc}{x:aW}:SE C n S (.Constant (.str x) k pos) (Am (.str x)):=by
 refine⟨fun A e b H a s Q E P h=>?_⟩;exact kv (h _ _ _ (P.inv.toks _) (.str x _))
theorem SE.loc{x:aW}{pos:dc}{i:Nat}(u:S.Γ.lookup x=some i)(j:(x == ("__debug__":aW))=false)(o:(x == ("__classdict__":aW))=false):SE C n S (.Name x pos) (Aa i):=by
 refine⟨fun A g y H z s Q E P p=>?_⟩;refine wpAny_Name ?_ j;refine Ah P.env.vars fun m l q=>?_;unfold Aa at p
 cases a:y i with
 | none=>rw[a] at p;exact p.elim
 | some d =>
  rw[a] at p
  rcases q x i u with ⟨k,r⟩|⟨k,c,v,f,h,r⟩
  .rw[a] at r;exact Ah r fun w t b=>wpAny_loadName_local P.env.kind k l t (p.ok_here P.inv b)
  .rw[a] at r;refine Ah r fun w e b=>?_;subst e
   rcases k with k|k
   .exact wpAny_loadName_cell P.env.kind k f h (p.ok_here P.inv b)
   .exact wpAny_loadName_free P.env.kind k f h (p.ok_here P.inv b) o
theorem SE.glb{mg mb:aW->Option aC}(B:Dc C mg mb){x:aW}{pos:dc}{v:aC}{d:AV}(c:x∈S.G)(b:mg x=some v)(r:∀ β h,VR C β h v d)(a:(x == ("__debug__":aW))=false):SE C n S (.Name x pos) (Am d):=by
 refine⟨fun A e f H β s Q E P p=>?_⟩;refine gF P.env.kind (P.env.glo x c) (kT (mg:=mg) ?_ b (p.ok_here P.inv (r _ _))) a;exact Ac P.env.globals (B.g.keeps P.inv.base)
theorem SE.blt{mg mb:aW->Option aC}(B:Dc C mg mb){x:aW}{pos:dc}{b:BI}(c:x∈S.G)(a:mg x=none)(v:mb x=some b.val)(h:(x == ("__debug__":aW))=false):SE C n S (.Name x pos) (Am (.bi b)):=by
 refine⟨fun A e f H d s Q E P p=>?_⟩;refine gF P.env.kind (P.env.glo x c) (loadGlobal_builtin (mg:=mg) (mb:=mb) ?_ a ?_ v (p.ok_here P.inv (.bi b rfl))) h
 .refine Ac P.env.globals ?_;exact B.g.keeps P.inv.base
 .refine Ac P.env.builtins ?_;exact B.b.keeps P.inv.base
theorem DV.nil:DV C n S [] []:=by
 refine⟨fun A e b H a s Q E p P h=>?_⟩;exact dv (h.ok_here P.inv .nil)
noncomputable def Et:Expr->Bool
 | .Starred _ _=>false
 | _=>true
theorem F9{e:Expr}{s:List Expr}{E:f3}(h:Et e=true):starEach (e::s) E=(false,eval e E)::starEach s E:=by
 cases e<;>first|rfl|injection h
theorem HM{v:f3}{pos:dc}:∀ {E:List Expr},E.all Et=true->(backTo pos (starEach E v)).any (·.1)=false
 | [],_=>rfl
 | e::E,h=>by
  exact AX (aL.mp (show (Et e&&E.all Et)=true from h)) fun H a=>Ac (F9 H) (HM a)
theorem DV.cons{e:Expr}{b:List Expr}{d:DE}{D:List DE}(h:SE C n S e d)(r:DV C n S b D)(o:∀ a,starEach (e::b) a=(false,eval e a)::starEach b a):DV C n S (e::b) (d::D):=by
 refine⟨fun A a f H w s Q E p P t=>?_⟩;refine cG (AE.then t (fun _ c=>h.go A a f H w s _ E P c) ?_) (o a);intro x i v g m _ j u l;refine AE.then l (fun _ c=>r.go A a f g m i _ E p (P.after j) c) ?_;intro X z F y B _ k V q;exact q.ok_here k.inv (.cons (u.mono k.grow) V)
theorem bind_ok{c d:Type}{r:Rs c}{f:c->AH->Rs d}{b:d}{H:AH}(h:r.bind f=.ok b H):∃ a aa,r=.ok a aa/\f a aa=.ok b H:=by
 cases r with
 | ok a aa=>exact⟨a,aa,rfl,h⟩
 | err _ _=>injection h
 | bad=>injection h
theorem Va:∀ {D:List DE} {σ:AW} {H a:AH} {vs:List AV},AL D σ H=.ok vs a->vs.length=D.length
 | [],_,H,a,vs,h=>by have h:(.ok [] H:Rs (List AV))=.ok vs a:=h;injection h with h _;refine BE h ?_;rfl
 | d::r,σ,H,a,vs,h=>by
  have h:((d σ H).bind fun v A=>(AL r σ A).bind fun vs c=>.ok (v::vs) c)=.ok vs a:=h;refine Cg (bind_ok h) fun v A _ h=>Cg (bind_ok h) fun w c b h=>?_;injection h with h _
  exact BE h (Ac ej (Ac ej (Ac (Va b) rfl)))
theorem SE.tup{f:List Expr}{d:List DE}{k:Nat}{pos:dc}(h:DV C n S f d)(m:d.length<=1048576):SE C n S (.Tuple f k pos) (Az d):=by
 refine⟨fun A e q H o s Q E P p=>?_⟩;refine lI (AE.then p (fun _ j=>h.go A e q H o s _ E pos P j) ?_);intro x b V r t l g v i;have a:x.length<=1048576:=by refine Ac v.length (Ac (Va l) ?_);exact m
 refine⟨al a (Al rfl),?_⟩;have c:=g.inv.push (s:=b) { cls:=.type "tuple",data:=.seq x.toArray } b.toks;exact i _ _ _ c (.tup (items:=x.toArray) ⟨_,bC _ rfl,rfl,_,rfl⟩ g.inv.new_notin (by simpa using v.mono c.grow))
theorem B7.alloc(I:B7 C β s.heap H){o:fj}{ao:AO}(tk:Nat)(t:o.isFreed=false)(u:∀ k h',BS Bv β s.heap k h'->h'.get? s.heap.objs.size=some o->OR C k h' s.heap.objs.size ao) :
  Au C Bv β s (β++[s.heap.objs.size]) { s with heap:=s.heap.push o,toks:=tk } (H++[ao]):=by
 have c:s.heap.get? s.heap.objs.size=none:=by
  cases q:s.heap.get? s.heap.objs.size with
  | none=>rfl
  | some O=>exact absurd (bX q) (dj _)
 have g:BS Bv β s.heap (β++[s.heap.objs.size]) (s.heap.push o):=⟨⟨⟨[s.heap.objs.size],rfl,fun a j=>by refine Ac (aJ.mp j) ?_;exact c⟩,fun a O e _ _=>⟨O,aP _ e,.refl _⟩,fun _ h=>h.elim⟩,fun _ h=>h.elim⟩;refine⟨g,⟨by simp[I.len],?_,fun i a x d f=>?_,fun a O e=>aP _ (I.base a O e),?_⟩,_,tk,rfl⟩
 .refine cK.mpr ⟨I.nodup,by simp,fun a j b r=>?_⟩;refine Ac (aJ.mp r) ?_;rintro rfl;exact I.new_notin j
 .by_cases l:i<β.length
  .rw[aM l] at d;rw[aM (I.len▸l)] at f;exact (I.obj i a x d f).keep g.toGrow0 fun _ p=>aP _ p
  .have n:i<(β++[s.heap.objs.size]).length:=(Bm d);have m:i=β.length:=by simp at n;exact om4 l n
   subst m;rw[bT (bB _)] at d;rw[bT (by refine Ac I.len ?_;exact bB _),<- I.len] at f;simp at d f;subst d f;exact u _ _ g (bC _ t)
 .intro a j
  rcases bl.mp j with d|d
  .exact I.fresh a d
  .refine Ac (aJ.mp d) ?_
   cases q:C.base.get? s.heap.objs.size with
   | none=>rfl
   | some O=>rw[I.base _ _ q] at c;injection c
def Gv(C:Cx)(β:List aF)(s:aE)(Q:aC->aE->Prop)(l:List AV):Prop:=∀ items:Array aC,Bg C β s.heap items.toList l->Q (.ref s.heap.objs.size) { s with heap:=s.heap.push { cls:=.type "list",data:=.seq items } }
theorem Gv.lst(I:B7 C β s.heap H){l:List AV}(h:AE C Bv (VR C) β s (.ok (.lst l) H) Q E):Gv C β s Q l:=fun i v=>by
 have a:=I.push (s:=s) { cls:=.type "list",data:=.seq i } s.toks;exact h _ _ _ a (.lst (items:=i) ⟨_,bC _ rfl,rfl,_,rfl⟩ I.new_notin (v.mono a.grow))
theorem Gv.ref(I:B7 C β s.heap H){l:List AV}(p:AE C Bv (VR C) β s (.ok (.ref H.length) (H++[.list l])) Q E):Gv C β s Q l:=fun i v=>by
 have a:=I.alloc (s:=s) (o:={ cls:=.type "list",data:=.seq i }) (ao:=.list l) s.toks rfl (fun b c g h=>⟨i,⟨_,h⟩,v.mono g⟩);refine p _ _ _ a (.ref ?_);refine BE I.len ?_;simp
theorem SE.newD{pos:dc}:SE C n S (.Dict [] [] pos) Gi:=by
 refine⟨fun A e i H f s Q E P p=>?_⟩;refine lw ?_
 have a:=P.inv.alloc (s:=s) (o:={ cls:=.type "dict",data:=.dict #[] }) (ao:=.dict []) s.toks rfl
  (fun c d g b=>⟨[],⟨_,#[],0,b,⟨rfl,rfl,rfl⟩,rfl,fun _ h=>by simp at h,.nil,.nil⟩,rfl,.nil⟩)
 refine p _ _ _ a (.ref ?_);refine BE P.inv.len ?_;simp
theorem SE.newS{pos:dc}:SE C n S (.Dict [] [] pos) Gj:=by
 refine⟨fun A e f H d s Q E P p=>?_⟩;refine lw ?_
 have a:=P.inv.alloc (s:=s) (o:={ cls:=.type "dict",data:=.dict #[] }) (ao:=.dictS []) s.toks rfl
  (fun b c g h=>⟨[],_,#[],0,h,⟨rfl,rfl,rfl⟩,rfl,rfl,.nil,rfl,.nil,.nil⟩)
 refine p _ _ _ a (.ref ?_);refine BE P.inv.len ?_;simp
theorem SE.lst{b:List Expr}{d:List DE}{pos:dc}(h:DV C n S b d)(l:d.length<=1048576):SE C n S (.List b pos) (B3 d):=by
 refine⟨fun A e k H j s Q E P p=>?_⟩;refine wpAny_List (AE.then p (fun _ c=>h.go A e k H j s _ E pos P c) ?_);intro x o V m q f g v i;have a:x.length<=1048576:=by refine Ac v.length (Ac (Va f) ?_);exact l
 exact⟨al a (Al rfl),Gv.lst g.inv i x.toArray (by simpa using v)⟩
theorem SE.newL{b:List Expr}{d:List DE}{pos:dc}(h:DV C n S b d)(l:d.length<=1048576):SE C n S (.List b pos) (Di d):=by
 refine⟨fun A e k H j s Q E P p=>?_⟩;refine wpAny_List (AE.then p (fun _ c=>h.go A e k H j s _ E pos P c) ?_);intro x o V m q f g v i;have a:x.length<=1048576:=by refine Ac v.length (Ac (Va f) ?_);exact l
 exact⟨al a (Al rfl),Gv.ref g.inv i x.toArray (by simpa using v)⟩
section values
variable {x y:aC}{v u:AV}
theorem VR.int_inv{β:List aF}{h:aX}{x:aC}{i:Int}(r:VR C β h x (.int i)):∃ t,x=.int i t:=r.inv
theorem kU.typeIs'{s:aE}{a:aF}{items:Array aC}(h:s.heap.IsTuple a items):s.TypeIs (.ref a) "tuple":=let ⟨o,b,H,_⟩:=h;⟨o,b,H⟩
theorem Gw(I:B7 C β s.heap H){x:aC}:∀ {v:AV} {l:List AV},VR C β s.heap x v->listOf? H v=some l->∃ a items,x=.ref a/\s.heap.IsList a items/\Bg C β s.heap items.toList l:=by
 intro v l r h;refine Z2m h (fun e=>?_) fun i e f=>?_
 .subst e;exact BJ r.inv fun _ _ e b _ c=>⟨_,_,e,b,c⟩
 .subst e;exact Ah r.inv fun a e d=>Ah (I.obj i a _ d f) fun items b c=>⟨_,items,e,b.isList,c⟩
theorem Za8(I:B7 C β s.heap H){a b:aF}{xs y:Array aC}{l k:List AV}(x:s.heap.IsList a xs)(t:s.heap.IsList b y)(v:Bg C β s.heap xs.toList l)(V:Bg C β s.heap y.toList k)
  (p:l.length+k.length<=1048576) (r:Gv C β s Q (l++k)):wpAny (model C.prog C.w) A (binaryOp .Add (.ref a) (.ref b)) Q E s:=by
 refine C3 (id x) fun q o i n j=>?_;obtain⟨cls,m,data,u⟩:=q;refine C3 (id t) fun q d h N c=>?_;obtain⟨e,D,data2,S⟩:=q;simp only at i j h c;subst i j h c
 have z:xs.size+y.size<=sizeLine:=by
  have f:=v.length;have g:=V.length;simp only[aR] at f g;refine Ac f (Ac g ?_);exact al p (Al rfl)
 refine jp ⟨_,o,rfl⟩ ⟨_,d,rfl⟩ noFill_list_add seq_list_add PySem.F.slot_list_add PySem.F.entry_list_add (PySem.F.args_list_add_2 _ _) (list_addW a b xs y n N m D u S z) ⟨o,d,?_⟩;exact r (xs++y) (by simpa using v.append V)
end values
end
end Mine
namespace Mine
open PySem PyProof.Rows PySem.Calls PySem.SeqAt
section
variable {C:Cx}{n:Nat}{S:AN}{env:f3}{β β':List aF}{s s' ae:aE}{σ σ':AW}{H H':AH}{A:bY}{E:aC->aE->Prop}{mg mb:aW->Option aC}
def Shk(D:aF->Prop)(f:List aF)(h h':aX):Prop:=∀ b o,h.get? b=some o->¬ D b->(h'.get? b=some o\/(b∈f/\∃ s,h'.get? b=some { o with slots:=s }))
structure Cd(C:Cx)(β:List aF)(D:aF->Prop)(fr:List aF)(h h':aX):Prop where
 shk:Shk D fr h h'
 rec_:∀ b,D b->∀ o,h.get? b=some o->(∃ vs,o.data=.fields vs)/\o.cls≠.type "range"
 same:∀ b,D b->∀ o,h.get? b=some o->∃ o' vs,h'.get? b=some o'/\o'.cls=o.cls/\o'.data=.fields vs/\o'.dict=o.dict
 base:∀ b,D b->C.base.get? b=none
 dict:∀ b∈fr,b∉β/\∀ o,h.get? b=some o->∃ es ep,o.data=.dict es ep
 frB:∀ b∈fr,C.base.get? b=none
theorem Cd.kept{D:aF->Prop}{f:List aF}{h h':aX}(k:Cd C β D f h h'){b:aF}{o:fj}(hb:h.get? b=some o)(a:¬ D b):∃ O,h'.get? b=some O/\Dr o O:=by
 rcases k.shk b o hb a with H|⟨m,s,H⟩
 .exact⟨o,H,.refl _⟩
 .refine Ez ((k.dict b m).2 o hb) fun E e d=>?_;exact⟨_,H,.inr ⟨rfl,rfl,E,e,d⟩⟩
theorem Cd.firm{D:aF->Prop}{f:List aF}{h h':aX}(k:Cd C β D f h h'){b:aF}{o:fj}(hb:h.get? b=some o)(a:¬ D b)(n:∀ E e,o.data≠.dict E e):h'.get? b=some o:=by
 refine Ah (k.kept hb a) fun O H K=>?_;rw[K.same n] at H;exact H
theorem Cd.keeps{D:aF->Prop}{f:List aF}{h h':aX}(k:Cd C β D f h h'){a:aF}{o:fj}(c:h.get? a=some o)(H:(∃ vs n,o.data=.seq vs n)\/o.data=.plain):h'.get? a=some o:=by
 refine k.firm c (fun q=>?_) (fun E e q=>?_)
 .obtain⟨⟨vs,b⟩,_⟩:=k.rec_ _ q o c
  rcases H with ⟨v,n,H⟩|H
  .injection H.symm.trans b
  .injection H.symm.trans b
 .rcases H with ⟨v,n,H⟩|H
  .injection H.symm.trans q
  .injection H.symm.trans q
theorem VR.shake{D:aF->Prop}{F:List aF}{h h':aX}(k:Cd C β D F h h'){v:aC}{d:AV}(r:VR C β h v d):VR C β h' v d :=
 VR.rec (motive_1:=fun v d _=>VR C β h' v d) (motive_2:=fun V s _=>Bg C β h' V s) .none .bool .int .str
  (fun t b _ i=>.tup (by refine C3 t fun o f e n H=>?_;exact⟨o,k.keeps f (.inl ⟨_,_,H⟩),e,n,H⟩) b i) (fun t b _ i=>.lst (by refine C3 t fun o f e n H=>?_;exact⟨o,k.keeps f (.inl ⟨_,_,H⟩),e,n,H⟩) b i)
  .ref (fun g b=>.rng (k.firm g (fun q=>(k.rec_ _ q _ g).2 rfl) (fun j E q=>by injection q)) b) .fn .cls .bi
  (fun {a c o V} f e H b=>by
   by_cases q:D a
   .refine BJ (k.same a q o f) fun O w l m p _=>?_;exact .exc l (m.trans e) p b
   .exact .exc (k.firm f q (fun j E q=>by injection H.symm.trans q)) e H b)
  (fun f e H x u b=>.inst (k.keeps f (.inr H)) e H x u b) .nil (fun _ _ a r=>.cons a r) r
theorem Bg.shake{D:aF->Prop}{f:List aF}{h h':aX}(k:Cd C β D f h h'){vs:List aC}{d:List AV}(r:Bg C β h vs d):Bg C β h' vs d:=r.ind (P:=fun vs d=>Bg C β h' vs d) .nil fun a _ i=>.cons (a.shake k) i
theorem Hu.shake{D:aF->Prop}{f:List aF}{h h':aX}(k:Cd C β D f h h'){v:Option aC}:∀ {d:Option AV},Hu C β h v d->Hu C β h' v d
 | none,e=>e
 | some _,⟨x,e,r⟩=>⟨x,e,r.shake k⟩
def Vb(β:List aF)(H:AH)(D:aF->Prop):Prop:=∀ (i:Nat) (a:aF) (c:Nat) (d:Option Nat),β[i]?=some a->H[i]?=some (.exo c d true)->¬ D a
theorem DR.shake{D:aF->Prop}{f:List aF}{h h':aX}(k:Cd C β D f h h'){a:aF}(c:a∈β){K:Type}[DecidableEq K]{knd:KeyKind C.prog C.w K}{l:List (K×AV)}(this:DR C β h a knd l):DR C β h' a knd l:=by
 refine Bu this fun s Q g v=>Dl Q fun o E e H x d r=>⟨s,⟨o,E,e,?_,x,d,r⟩,g,v.shake k⟩
 rcases k.shk a _ H (fun q=>by obtain⟨⟨V,b⟩,_⟩:=k.rec_ _ q _ H;rw[d] at b;injection b) with q|⟨m,_⟩
 .exact q
 .exact absurd c (k.dict a m).1
theorem B7.shake{D:aF->Prop}{F:List aF}{h h':aX}(k:Cd C β D F h h')(I:B7 C β h H)(z:Vb β H D):B7 C β h' H:=by
 refine⟨I.len,I.nodup,fun i a A j x=>?_,fun b o t=>?_,I.fresh⟩
 .have:=I.obj i a A j x
  cases A with
  | list l =>
   exact Ah this fun s Q w=>aD Q fun m g=>⟨s,⟨m,k.firm g (fun q=>by obtain⟨⟨V,j⟩,_⟩:=k.rec_ _ q _ g;injection j) (fun v E q=>by injection q)⟩,w.shake k⟩
  | dict l=>exact DR.shake k (aV j) this
  | dictN l=>exact DR.shake k (aV j) this
  | dictS l =>
   refine KK this fun X o v E g U r N R S w T=>⟨X,o,v,E,?_,U,r,N,R.shake k,S,w.shake k,T⟩
   rcases k.shk a _ g (fun q=>by obtain⟨⟨V,j⟩,_⟩:=k.rec_ _ q _ g;rw[r] at j;injection j) with q|⟨p,_⟩
   .exact q
   .exact absurd (aV j) (k.dict a p).1
  | attrs l =>
   refine Ah this fun m p M=>⟨m,p.at fun o g=>?_,fun n=>(M n).shake k⟩;refine Do (id p) fun O v E u r _=>?_;rw[g] at u;obtain rfl:=inj u
   rcases k.shk a _ g (fun q=>by obtain⟨⟨V,j⟩,_⟩:=k.rec_ _ q _ g;rw[r] at j;injection j) with q|⟨p,_⟩
   .exact q
   .exact absurd (aV j) (k.dict a p).1
  | exo c d f =>
   refine CZ this fun o V g y r P dl=>?_
   by_cases q:D a
   .refine BJ (k.same a q o g) fun O W G B J K=>?_;refine⟨O,W,G,B.trans y,J,fun e=>?_,by refine Ac K ?_;exact dl⟩;subst e;exact absurd q (z i a c d j x)
   .exact⟨o,V,k.firm g q (fun v E q=>by rw[r] at q;injection q),y,r,P,dl⟩
 .have L:¬ D b:=fun q=>by rw[k.base b q] at t;injection t
  rcases k.shk b o (I.base b o t) L with j|⟨p,_⟩
  .exact j
  .rw[k.frB b p] at t;injection t
theorem Au.shake{X D:aF->Prop}{F:List aF}{u:aX}(k:Cd C β' D F ae.heap u)(A:Au C X β s β' ae H')(d:∀ b,D b->s.heap.get? b=none)(m:Vb β' H' D):Au C X β s β' { ae with heap:=u } H':=by
 refine Ez A.same fun l t e=>⟨⟨⟨A.grow.ext,fun a o c g x=>?_,A.grow.xs⟩,fun a f=>?_⟩,A.inv.shake k m,u,t,by exact Ac e rfl⟩
 .refine Ah (A.grow.keep a o c g x) fun j H i=>?_;exact Ah (k.kept H (fun q=>by rw[d a q] at c;injection c)) fun O h K=>⟨O,h,i.trans K⟩
 .refine Ah (A.grow.xs a f) fun o c _=>?_;exact Bu (A.grow.xlive a f) fun j H S N=>Ah (k.kept H (fun q=>by rw[d a q] at c;injection c)) fun O h K=>⟨O,h,K.slotty S,fun n=>by refine Ac K.data.2 ?_;exact N n⟩
theorem OV.shake{D:aF->Prop}{f:List aF}{h h':aX}(k:Cd C β D f h h'){v:Option aC}:∀ {d:Option AV},OV C β h v d->OV C β h' v d
 | none,_=>trivial
 | some _,⟨x,e,r⟩=>⟨x,e,r.shake k⟩
theorem ER.shake{D:aF->Prop}{F:List aF}{h h':aX}(k:Cd C β D F h h')(e:ER C S env β h σ):ER C S env β h' σ:=by
 have n:∀ a o,h.get? a=some o->(∀ V,o.data≠.fields V)->¬ D a:=fun a o b t q=>by refine AX (k.rec_ a q o b) fun Q _=>?_;obtain⟨V,s⟩:=Q;exact t V s
 refine Ah e.vars fun m p l=>?_;have K:∀ {c v},h.IsCell c v->h'.IsCell c v:=fun d=>jR.kept d fun o b=>k.kept b (n _ o b (by refine Ah d fun O H g=>?_;rw[b] at H;obtain rfl:=inj H;intro V q;rw[g] at q;injection q));refine⟨e.kind,e.globals,e.builtins,e.notL,e.locB,e.glo,e.cap,e.loc,fun x c d=>?_,e.apart,e.slots,m,j7.kept p fun o b=>k.kept b (n _ o b (by refine Do p fun O w E H g _=>?_;rw[b] at H;obtain rfl:=inj H;intro V q;rw[g] at q;injection q)),fun x i u=>?_⟩
 .refine AX (e.cell x c d) fun Q r=>?_;obtain⟨v,l⟩:=Q;exact⟨⟨v,K l⟩,r⟩
 .rcases l x i u with ⟨j,r⟩|⟨j,c,v,d,f,r⟩
  .exact .inl ⟨j,r.shake k⟩
  .exact .inr ⟨j,c,v,d,K f,r.shake k⟩
theorem Fi.shake{D:aF->Prop}{F:List aF}{h h':aX}(k:Cd C β D F h h'):Fi C A β h->Fi C A β h'
 | ⟨l,i,K⟩=>⟨l,i,fun e g=>by
   have f:=K e g;refine aD f.ns fun m c=>⟨f.kind,f.gen,f.co,f.builtins,f.globals,f.loc,f.notL,f.locB,m,j7.kept c fun o a=>k.kept a fun q=>?_⟩;obtain⟨⟨vs,b⟩,_⟩:=k.rec_ _ q o a;refine Do c fun O s E H d _=>?_;rw[a] at H;obtain rfl:=inj H;rw[d] at b;injection b⟩
theorem fj.dict_mapFields(f:Array aC->Array aC)(o:fj):(o.mapFields f).dict=o.dict:=by
 obtain⟨a,b,c,d⟩:=o
 cases c<;>rfl
theorem B7.notTrace{h:aX}(I:B7 C β h H){a:aF}{o:fj}{vs:Array aC}{T:String}(k:h.get? a=some o)(g:o.cls=.type T)(l:o.data=.fields vs):∀ (i:Nat) (c:Nat) (d:Option Nat),β[i]?=some a->H[i]?=some (.exo c d true)->False:=by
 intro i c d f j;obtain⟨O,w,e,b,_⟩:=I.obj i a _ f j;rw[k] at e;obtain rfl:=inj e;rw[g] at b;injection b
theorem Za9{outer:List f3}{L e:aF}{i:fj}{vs:Array aC}{d:aC}{t:Bool}{Q:Unit->aE->Prop}(r:A.frames=some (env::outer))(y:s.heap.FunFrames C.base (env::outer))(K:env.frame=some L)
  (x:s.heap.get? e=some i) (k:i.data=.fields vs) (z:1<vs.size)
  (h:∀ u T,s.heap.get? T=none->T≠e->Shk (fun b=>b=e) ((env::outer).filterMap (·.frame)) s.heap u->u.get? e=some (i.mapFields (·.setIfInBounds 1 (.ref T))) ->
   (∃ O G,u.get? T=some O/\O.cls=.type "traceback"/\O.data=.fields G/\G[3]?=some (rawInt L))->Q () { s with heap:=u }) :
  wpAny (model C.prog C.w) A (do let a <- frameOf env;let p <- entryPlaceOf L t;let b <- ke d a .none (rawInt L) .none p;setField (.ref e) 1 b) Q E s:=by
 have g:e∉(env::outer).filterMap (·.frame):=fun m=>by
  refine PN (y.mem m) fun _ o F n=>?_;rw[x] at F;obtain rfl:=inj F;exact n vs k
 refine aB (wpAny_frameOf_fun r y K fun H B=>?_);refine aB (wpAny_entryPlaceOf fun p l=>?_);unfold ke newFields;refine aB (dW ?_ (l.sizeOk5 _ _ _ _ _));generalize c:({ cls:=.type "traceback",dict:=none,data:=.fields ([d,.ref L,.none,rawInt L,.none]++(if p.isEmpty then aS 6 cQ else p)).toArray }:fj)=O;have D:H.get? e=some i:=(B.2.1 e g).trans x;have q:=aP (h:=H) O D;have f:H.objs.size≠e:=cZ (bX D);have I:=dL k (·.setIfInBounds 1 (cD H.objs.size));refine fF q k z (h _ H.objs.size (dX (by refine Ac B.1 ?_;exact bB _)) f (fun b o v j=>?_) (bM _ q (eK I)) ?_)
 .refine Ac (dA _ _ (ct j)) ?_
  by_cases m:b∈(env::outer).filterMap (·.frame)
  .refine aD (B.2.2 b o v) fun S J=>?_;exact .inr ⟨m,S,aP _ J⟩
  .exact .inl (aP _ ((B.2.1 b m).trans v))
 .refine⟨O,_,?_,by exact BE c rfl,by exact BE c rfl,?_⟩
  .refine Ac (dA _ _ (ct f)) ?_;exact bC H (by refine BE c ?_;rfl)
  .first|(simp;done)|(rcases l with rfl|⟨_,_,_,_,_,_,_,rfl⟩<;>simp)
def Vc(C:Cx)(h h':aX)(fl:aC)(a:aF)(c:Nat):Prop :=
 ∃ O vs T o t,h'.get? a=some O/\O.cls=.ref (C.clv c)/\O.data=.fields vs/\h.get? a=none /\
  vs[1]?=some (.ref T)/\h.get? T=none/\T≠a/\h'.get? T=some o/\o.cls=.type "traceback"/\o.data=.fields t/\t[3]?=some fl
theorem Vc.fly{h h':aX}{fl:aC}{a:aF}{c:Nat}(f:Vc C h h' fl a c):KM C h h' fl a c:=by
 exact Z2j f fun O v T o t H b d e r=>⟨O,v,H,b,d,e,.inr ⟨T,o,t,r⟩⟩
def DD(a:aF)(T:Option aF)(b:aF):Prop:=b=a\/T=some b
theorem Zba{D:aF->Prop}{outer:List f3}{a:aF}{h A:aX}(l:h.FunFrames C.base (env::outer))(H:∀ b∈(env::outer).filterMap (·.frame),b∉β/\∀ o,h.get? b=some o->∃ E e,o.data=.dict E e)
  (s:Shk D ((env::outer).filterMap (·.frame)) h A) (r:∀ b,D b->∀ o,h.get? b=some o->(∃ vs,o.data=.fields vs)/\o.cls≠.type "range") (same:∀ b,D b->∀ o,h.get? b=some o->∃ O vs,A.get? b=some O/\O.cls=o.cls/\O.data=.fields vs/\O.dict=o.dict)
  (base:∀ b,D b->C.base.get? b=none):Cd C β D ((env::outer).filterMap (·.frame)) h A:=⟨s,r,same,base,H,fun b c=>(l.mem c).1⟩
theorem Zbb{X:aF->Prop}{outer:List f3}{L a:aF}{c:Nat}{fl:aC}{Q:Unit->aE->Prop}(Y:A.frames=some (env::outer))(hl:ae.heap.FunFrames C.base (env::outer))(t:∀ b∈(env::outer).filterMap (·.frame),b∉β'/\∀ o,ae.heap.get? b=some o->∃ es ep,o.data=.dict es ep)
  (hf:env.frame=some L) (hB:∀ b,s.heap.get? b=none->C.base.get? b=none) (M:Au C X β s β' ae H') (f:KM C s.heap ae.heap fl a c) (Z:∀ (i:Nat) (c:Nat) (d:Option Nat),β'[i]?=some a->H'[i]?=some (.exo c d true)->False)
  (hq:∀ u D fl',Cd C β' D ((env::outer).filterMap (·.frame)) ae.heap u->Au C X β s β' { ae with heap:=u } H'->Vc C s.heap u fl' a c->Q () { ae with heap:=u }):wpAny (model C.prog C.w) A (noteFrame (.ref a) env) Q E ae:=by
 refine CZ f fun oe vs p V m I hv=>?_;unfold noteFrame;simp only[hf]
 rcases hv with ⟨N,_⟩|⟨T,oT,K,N,F,x,r,y,g,h3⟩
 .refine aB (ek p m N ?_);refine Ac (if_neg (Al rfl)) ?_;have z:=(dM.mp N).1;refine Za9 (C:=C) Y hl hf p m z fun u l j B S P G=>?_;have R:=dL m (·.setIfInBounds 1 (cD l))
  have k:Cd C β' (fun b=>b=a) ((env::outer).filterMap (·.frame)) ae.heap u:=Zba (a:=a) hl t S
   (fun b h o H=>by subst h;rw[p] at H;obtain rfl:=inj H;exact⟨⟨vs,m⟩,by refine Ac V ?_;intro q;injection q⟩)
   (fun b h o H=>by subst h;rw[p] at H;obtain rfl:=inj H;exact⟨_,_,P,cM _ _,R,fj.dict_mapFields _ _⟩)
   (fun b h=>by subst h;exact hB _ I)
  exact hq u _ (rawInt L) k (M.shake k (fun b h=>by subst h;exact I) fun i b c' d' q1 q2 e=>Z i c' d' (e▸q1) q2) (BJ G fun oT K t1 t2 t3 t4=>⟨_,_,l,oT,K,P,(cM _ _).trans V,R,I,by simp[z],M.fresh l j,B,t1,t2,t3,t4⟩)
 .refine aB (ek p m N ?_);refine Ac (if_pos (show (cD T != cQ)=true from by simp)) (aB (ek r g h3 ?_))
  by_cases W:(fl == rawInt L)=true
  .refine Ac (if_pos W) ?_;have k:Cd C β' (fun _=>False) ((env::outer).filterMap (·.frame)) ae.heap ae.heap:=Zba (a:=a) hl t (fun b o H _=>.inl H) (fun b h=>h.elim) (fun b h=>h.elim) (fun b h=>h.elim);exact aH (hq ae.heap _ fl k M ⟨oe,vs,T,oT,K,p,V,m,I,N,F,x,r,y,g,h3⟩)
  refine Ac (if_neg W) (aB (fF r g (dM.mp h3).1 ?_));have z:=(dM.mp N).1;have O:∀ b,b≠T->(ae.heap.update T (dk (·.setIfInBounds 3 cQ))).get? b=ae.heap.get? b:=fun b h=>dA _ _ (ct h);have de:=dL g (·.setIfInBounds 3 cQ);have v:=bM (dk (·.setIfInBounds 3 cQ)) r (eK de)
  have n:∀ b o,ae.heap.get? b=some o->(∀ vs,o.data≠.fields vs)->b≠T:=fun b o h J q=>by
   rw[q,r] at h;obtain rfl:=inj h;exact J K g
  have he':=(O a (ct x)).trans p;have hl':(ae.heap.update T (dk (·.setIfInBounds 3 cQ))).FunFrames C.base (env::outer):=hl.of_keeps fun b o h J=>⟨o,(O b (n b o h J)).trans h,rfl⟩;refine Za9 (C:=C) (s:={ ae with heap:=ae.heap.update T (dk (·.setIfInBounds 3 cQ)) }) Y hl' hf he' m z fun u l j B S P G=>?_;have R:=dL m (·.setIfInBounds 1 (cD l))
  have U:ae.heap.get? l=none:=by
   by_cases q:l=T
   .rw[q] at j;rw[v] at j;injection j
   .refine BE (O l q) ?_;exact j
  have k:Cd C β' (DD a (some T)) ((env::outer).filterMap (·.frame)) ae.heap u:=Zba (a:=a) hl t
   (fun b o H hD=>by
    have hba:b≠a:=fun q=>hD (.inl q);have hbT:b≠T:=fun q=>hD (.inr (by exact Ac q rfl));exact S b o ((O b hbT).trans H) hba)
   (fun b h o H=>by
    rcases h with rfl|h
    .rw[p] at H;obtain rfl:=inj H;exact⟨⟨vs,m⟩,by refine Ac V ?_;intro q;injection q⟩
    .obtain rfl:=inj h;rw[r] at H;obtain rfl:=inj H;exact⟨⟨K,g⟩,by refine Ac y ?_;decide⟩)
   (fun b h o H=>by
    rcases h with rfl|h
    .rw[p] at H;obtain rfl:=inj H;exact⟨_,_,P,cM _ _,R,fj.dict_mapFields _ _⟩
    .obtain rfl:=inj h;rw[r] at H;obtain rfl:=inj H
     rcases S T _ v x with q|⟨_,sl,q⟩
     .exact⟨_,_,q,cM _ _,de,fj.dict_mapFields _ _⟩
     .exact⟨_,_,q,cM _ _,de,fj.dict_mapFields _ _⟩)
   (fun b h=>by
    rcases h with rfl|h
    .exact hB _ I
    .obtain rfl:=inj h;exact hB _ F)
  refine hq u _ (rawInt L) k (M.shake k (fun b h=>by
   rcases h with rfl|h
   .exact I
   .obtain rfl:=inj h;exact F) fun i b c' d' q1 q2 e=>by
    rcases e with rfl|e
    .exact Z i c' d' q1 q2
    .obtain rfl:=inj e;exact M.inv.notTrace r y g i c' d' q1 q2) ?_
  exact BJ G fun oT K t1 t2 t3 t4=>⟨_,_,l,oT,K,P,(cM _ _).trans V,R,I,by simp[z],M.fresh l U,B,t1,t2,t3,t4⟩
theorem Zbc{X:aF->Prop}{fl:aC}{a:aF}{c:Nat}{fo:Option aF}{Q:Unit->aE->Prop}(F:∀ b,s.heap.get? b=none->C.base.get? b=none)(q:Au C X β s β' ae H')(f:Vc C s.heap ae.heap fl a c)
  (K:∀ u D,Cd C β' D [] ae.heap u->Au C X β s β' { ae with heap:=u } H'->Vc C s.heap u (fo.elim cQ fun f=>rawInt f) a c->Q () { ae with heap:=u }):wpAny (model C.prog C.w) A (setFlight (.ref a) fo) Q E ae:=by
 refine UR f fun L V T P x v I t J r n m l g H B=>?_
 .have d:3<x.size:=(dM.mp B).1;have O:∀ b,b≠T->(ae.heap.update T (dk (·.setIfInBounds 3 (fo.elim cQ fun f=>rawInt f)))).get? b=ae.heap.get? b:=fun b h=>dA _ _ (ct h);have p:=dL H (·.setIfInBounds 3 (fo.elim cQ fun f=>rawInt f));have S:=bM (dk (·.setIfInBounds 3 (fo.elim cQ fun f=>rawInt f))) l (eK p);unfold setFlight;refine aB (ek v t r ?_);refine Ac (if_pos (show (cD T != cQ)=true from by simp)) (fF l H d ?_)
  have k:Cd C β' (fun b=>b=T) [] ae.heap (ae.heap.update T (dk (·.setIfInBounds 3 (fo.elim cQ fun f=>rawInt f)))) :=
   ⟨fun b o j G=>.inl ((O b G).trans j),fun b h o j=>by subst h;rw[l] at j;obtain rfl:=inj j;exact⟨⟨x,H⟩,by refine Ac g ?_;decide⟩,
    fun b h o j=>by subst h;rw[l] at j;obtain rfl:=inj j;exact⟨_,_,S,cM _ _,p,fj.dict_mapFields _ _⟩,fun b h=>by subst h;exact F _ n,fun b h=>(nomatch h),fun b h=>(nomatch h)⟩
  exact K _ _ k (q.shake k (fun b h=>by subst h;exact n) fun i b y z M N e=>by subst e;exact q.inv.notTrace l g H i y z M N) ⟨L,V,T,_,_,(O a (ct m)).trans v,I,t,J,r,n,m,S,(cM _ _).trans g,p,by simp[d]⟩
theorem Zbd{X:aF->Prop}{outer:List f3}{L a:aF}{c:Nat}{fl:aC}{Q:Unit->aE->Prop}(H:A.frames=some (env::outer))(r:ae.heap.FunFrames C.base (env::outer))(h:∀ b∈(env::outer).filterMap (·.frame),b∉β'/\∀ o,ae.heap.get? b=some o->∃ m p,o.data=.dict m p)
  (q:env.frame=some L) (B:∀ b,s.heap.get? b=none->C.base.get? b=none) (e:Au C X β s β' ae H') (f:KM C s.heap ae.heap fl a c) (x:∀ (i:Nat) (c:Nat) (d:Option Nat),β'[i]?=some a->H'[i]?=some (.exo c d true)->False)
  (t:∀ u,Au C X β s β' { ae with heap:=u } H'->KM C s.heap u .none a c->Q () { ae with heap:=u }):wpAny (model C.prog C.w) A (leaving env (.ref a)) Q E ae:=by
 unfold leaving;refine aB (Zbb H r h q B e f x fun u D n k g F=>?_);exact Zbc (fo:=none) B g F fun l y v j G=>t l j G.fly
theorem Zbe{h:aX}:∀ {l:List f3},(∀ e∈l,Mb C β h e)->h.FunFrames C.base l
 | [],_=>trivial
 | e::l,k=>by
  have f:=k e (aN ..);exact Dp f.ns fun m o s E a H _=>⟨by refine Ac f.kind ?_;decide,⟨e.locals,o,f.loc,f.locB,a,fun v q=>by rw[H] at q;injection q⟩,Zbe fun x b=>k x (aT _ b)⟩
theorem Zbf{h:aX}{l:List f3}(k:∀ e∈l,Mb C β h e):∀ b∈l.filterMap (·.frame),b∉β/\∀ o,h.get? b=some o->∃ s E,o.data=.dict s E:=by
 intro b c;refine Ah (kx.mp c) fun e g H=>?_;have f:=k e g;rw[f.loc] at H;obtain rfl:=inj H;refine⟨f.notL,fun o i=>?_⟩;refine Dp f.ns fun m O s E a d _=>?_;rw[i] at a;obtain rfl:=inj a;exact⟨s,E,d⟩
theorem Zbg{h h':aX}{l:List f3}(K:∀ e∈l,Mb C β h e)(g:BS (CL env) β h β' h'):h'.FunFrames C.base l/\∀ b∈l.filterMap (·.frame),b∉β'/\∀ o,h'.get? b=some o->∃ s E,o.data=.dict s E:=by
 have one:∀ e∈l,e.locals∉β'/\∃ o s E,h'.get? e.locals=some o/\o.data=.dict s E:=fun e j=>by
  have f:=K e j;refine Dp f.ns fun m o s E c d _=>⟨g.notin c f.notL,?_⟩
  by_cases q:CL env e.locals
  .obtain⟨O,H,_,a⟩:=g.xlive _ q;obtain⟨p,n,a⟩:=a ⟨o,s,E,c,d⟩;exact⟨O,p,n,H,a⟩
  .refine Ah (g.keep _ o c f.notL q) fun O H k=>?_;exact⟨O,s,E,H,by refine Ac k.data.2 ?_;exact d⟩
 constructor
 .clear g
  induction l with
  | nil=>trivial
  | cons e l I =>
   have f:=K e (aN ..);exact Iv (one e (aN ..)) fun _ o s E c d=>⟨by refine Ac f.kind ?_;decide,⟨e.locals,o,f.loc,f.locB,c,fun v q=>by rw[d] at q;injection q⟩,I (fun x r=>K x (aT _ r)) fun x r=>one x (aT _ r)⟩
 .intro b t;refine Ah (kx.mp t) fun e j i=>?_;rw[(K e j).loc] at i;obtain rfl:=inj i;exact Iv (one e j) fun u o s E c d=>⟨u,fun O H=>by rw[c] at H;obtain rfl:=inj H;exact⟨s,E,d⟩⟩
theorem Zbh{outer:List f3}{a:aF}{c:Nat}{fl:aC}{g:List aF}{p:aE}(H:A.frames=some (env::outer))(K:∀ e∈env::outer,Mb C g p.heap e)(z:BS (CL env) g p.heap β' ae.heap)
  (B:∀ b,s.heap.get? b=none->C.base.get? b=none) (d:Au C (CL env) β s β' ae H') (f:KM C s.heap ae.heap fl a c) {x:AV} (l:Lk β' H' a c x)
  (I:∀ u,Au C (CL env) β s β' { ae with heap:=u } H'->XR C s.heap u β' H' (.ref a) x->E (.ref a) { ae with heap:=u }) :
  notedBy (model C.prog C.w) A env (fun e S=>ky (model C.prog C.w) A env E e S) (.ref a) ae:=by
 refine AX (Zbg K z) fun G h=>?_;have y:=(K env (aN ..)).loc;unfold notedBy;refine Zbb (C:=C) H G h y B d f (l.not d.inv.nodup) fun u D F k j i=>?_;unfold ky;refine PM (id i) fun P V T O Q q M t N v r=>aB (ek q t v ?_);exact Ac (if_neg (show ¬ ((cD T == cQ)=true) from by simp)) ((Zbc (fo:=env.frame) B j i fun n L J m o=>I n m ⟨a,c,_,rfl,l,o.fly⟩))
end
end Mine
namespace Mine
open PySem PyProof.Rows PySem.Calls PySem.SeqAt
section
variable {C:Cx}{n:Nat}{S:AN}{β:List aF}{s:aE}{H:AH}{A:bY}{Q:aC->aE->Prop}{E:aC->aE->Prop}
theorem Fi.seer{mg mb:aW->Option aC}(K:Fi C A β s.heap)(n:A.frames≠some [])(B:Dc C mg mb)(I:B7 C β s.heap H):SeerAt (model C.prog C.w) A s.heap:=by
 refine Ah K fun l h k=>?_
 cases l with
 | nil=>exact absurd h n
 | cons e o =>
  have f:=k e aN;exact SeerAt.of (B.seer.keeps I.base) B.tree h f.gen f.co f.builtins f.globals
theorem Zbi(I:B7 C β s.heap H){a b:aF}{xs y:Array aC}{l k:List AV}(B:s.heap.IsTuple a xs)(G:s.heap.IsTuple b y)(J:a∉β)(hb:b∉β)(v:Bg C β s.heap xs.toList l)(V:Bg C β s.heap y.toList k)
  (K:l.length+k.length<=1048576) (p:AE C Bv (VR C) β s (.ok (.tup (l++k)) H) Q E):wpAny (model C.prog C.w) A (binaryOp .Add (.ref a) (.ref b)) Q E s:=by
 refine C3 (id B) fun q o u n x=>?_;obtain⟨cls,D,data,m⟩:=q;refine C3 (id G) fun q h c N e=>?_;obtain⟨t,d,data2,S⟩:=q;simp only at u x c e;subst u x c e;have i:=v.length;have j:=V.length;simp only[aR] at i j;have z:xs.size+y.size<=sizeLine:=by refine Ac i (Ac j ?_);exact al K (Al rfl)
 by_cases f:xs.isEmpty=true
 .have:l=[]:=el (by refine BE i ?_;simpa using f);subst this;refine jp ⟨_,o,rfl⟩ ⟨_,h,rfl⟩ iU kj fG fB (ff _ _) (tuple_addW0 a b xs y n N D d m S f) ⟨o,h,?_⟩;exact p _ s β (.refl I) (.tup G hb V)
 .by_cases g:y.isEmpty=true
  .have:k=[]:=el (by refine BE j ?_;simpa using g);subst this;rw[bS] at p;refine jp ⟨_,o,rfl⟩ ⟨_,h,rfl⟩ iU kj fG fB (ff _ _) (tuple_addW1 a b xs y n N D d m S f g) ⟨o,h,?_⟩;exact p _ s β (.refl I) (.tup B J v)
  .refine jp ⟨_,o,rfl⟩ ⟨_,h,rfl⟩ iU kj fG fB (ff _ _) (tuple_addW2 a b xs y n N D d m S f g z) ⟨o,h,?_⟩;have r:=I.push (s:=s) { cls:=.type "tuple",data:=.seq (xs++y) } s.toks;exact p _ _ _ r (.tup (items:=xs++y) ⟨_,bC _ rfl,rfl,_,rfl⟩ I.new_notin (by simpa using (v.append V).mono r.grow))
noncomputable def Gh.op:Gh->l7
 | .add=>.Add|.sub=>.Sub|.mul=>.Mult|.fdiv=>.FloorDiv|.mod=>.Mod|.pow=>.Pow|.rep=>.Mult
theorem Zbj{b:Int}(h:b.natAbs<2 ^ 60):kf b<=64:=by
 unfold kf
 split
 .decide
 .have H:b.natAbs≠0:=by intro e;simp_all
  have:=(mO H).mpr h;exact aZ (by assumption) (Al rfl)
theorem Vd{f:Int->Int->Option AV}{x y:aC}{v u:AV}(V:VR C β s.heap x v)(a:VR C β s.heap y u){r:AV}(h:E7 f v u=some r):∃ i t j T,x=.int i t/\y=.int j T/\f i j=some r:=by
 cases v<;>first|injection h|(cases u<;>first|injection h|skip)
 refine aD V.int_inv fun t e=>?_;subst e;refine aD a.int_inv fun T e=>?_;subst e;exact⟨_,t,_,T,rfl,rfl,h⟩
theorem GP{r:Option AV}(h:AE C Bv (VR C) β s (DZ H r) Q E):∃ v,r=some v/\AE C Bv (VR C) β s (.ok v H) Q E:=by
 cases r with
 | none=>exact h.elim
 | some v=>exact⟨v,rfl,h⟩
theorem Zbm{v u r:AV}(h:Iw H v u=some r):∃ l k,listOf? H v=some l/\listOf? H u=some k/\l.length+k.length<=1048576/\r=.lst (l++k):=by
 unfold Iw at h
 cases a:listOf? H v with
 | none=>rw[a] at h;injection h
 | some l =>
  cases c:listOf? H u with
  | none=>rw[a,c] at h;injection h
  | some k =>
   rw[a,c] at h;have h:(if l.length+k.length<=1048576 then some (AV.lst (l++k)) else none)=some r:=h
   by_cases b:l.length+k.length<=1048576
   .rw[if_pos b] at h;exact⟨l,k,rfl,rfl,b,(inj h).symm⟩
   .rw[if_neg b] at h;injection h
theorem Zbn{v u r:AV}(h:LW H v u=some r):(∃ i j,v=.int i/\u=.int j/\r=.int (i+j))\/(∃ l k,v=.tup l/\u=.tup k/\l.length+k.length<=1048576/\r=.tup (l++k)) \/
  (∃ l k,listOf? H v=some l/\listOf? H u=some k/\l.length+k.length<=1048576/\r=.lst (l++k)):=by
 cases v with
 | int i=>cases u<;>first|exact .inl ⟨_,_,rfl,rfl,(inj h).symm⟩|injection h
 | tup l =>
  cases u with
  | tup k =>
   have h:(if l.length+k.length<=1048576 then some (AV.tup (l++k)) else none)=some r:=h
   by_cases a:l.length+k.length<=1048576
   .rw[if_pos a] at h;exact .inr (.inl ⟨_,_,rfl,rfl,a,(inj h).symm⟩)
   .rw[if_neg a] at h;injection h
  | _=>injection h
 | _=>exact .inr (.inr (Zbm h))
theorem Zbo(items:Array aC):∀ (n:Nat) (acc:Array aC),(mU (fun x1 x2=>x1++x2) acc (aS n items)).toList=acc.toList++(aS n items.toList).flatten
 | 0,acc=>by simp
 | n+1,acc=>by (refine Ac ef (Ac List.foldl_cons ?_);rewrite [Zbo items n];refine Ac ef (Ac fH (Ac Array.toList_append ?_));rw[cu])
theorem Bg.rep{h:aX}{vs:List aC}{d:List AV}(r:Bg C β h vs d):∀ n:Nat,Bg C β h (aS n vs).flatten (aS n d).flatten
 | 0=>.nil
 | n+1=>by refine Ac ef (Ac ef (Ac fH (Ac fH ?_)));exact r.append (Bg.rep r n)
theorem Zbp(I:B7 C β s.heap H){a:aF}{xs:Array aC}{l:List AV}{j:Int}{t:mM}(x:s.heap.IsList a xs)(v:Bg C β s.heap xs.toList l)
  (b:l.length*j.toNat<=1048576/\-1048576<=j/\j<=1048576) (p:Gv C β s Q (aS j.toNat l).flatten):wpAny (model C.prog C.w) A (binaryOp .Mult (.ref a) (.int j t)) Q E s:=by
 refine C3 (id x) fun q h f n g=>?_;obtain⟨cls,d,data,S⟩:=q;simp only at f g;subst f g;have c:=v.length;simp only[aR] at c;rw[<- c] at b
 have k:Bg C β s.heap (mU (fun x1 x2=>x1++x2) #[] (aS (if xs.isEmpty=true then 0 else j.toNat) xs)).toList (aS j.toNat l).flatten:=by
  rw[Zbo]
  by_cases e:xs.isEmpty=true
  .have o:xs.toList=[]:=by simpa using e
   have i:l=[]:=el (by refine BE c ?_;simpa using e);refine Ac i ?_;simpa [e] using Bg.nil
  .refine Ac (if_neg e) ?_;simpa using v.rep j.toNat
 refine wpAny_binaryOp_repeat_ref (T:="list") (U:="int") (Al rfl) ⟨_,h,rfl⟩ (fun m=>typeIs_int m j t) noFill_list_mul F.fills_int_mul lO repeat_list F.slot_int_index.lookup
  (f4 lO (typeIs_int s j t) F.entry_int_rmul (F.args_int_rmul_2 _ _) (lm_int_rmul_list_any j t a xs n d S)
   ⟨h,rfl,⟨_,h,rfl⟩,f4 F.slot_list_mul ⟨_,h,rfl⟩ F.entry_list_mul (F.args_list_mul_2 _ _)
    (lm_list_mul_any a xs n d S j t (by simp[eU];exact Z00 b) (f0.mpr (al b.1 (Al rfl))) (by simp[fg,sizeLine];exact Z06 b))
    ⟨h,p _ k⟩⟩)
theorem Zbq{v u r:AV}(h:LX H v u=some r):∃ l j,listOf? H v=some l/\u=.int j/\(l.length*j.toNat<=1048576/\-1048576<=j/\j<=1048576)/\r=.lst (aS j.toNat l).flatten:=Bf h fun l a h=>D5 h fun j e h=>B9 h fun b h=>⟨l,j,a,e,b,(inj h).symm⟩
theorem Zbr{mg mb:aW->Option aC}(B:Dc C mg mb)(I:B7 C β s.heap H)(R:Ed n A)(K:Fi C A β s.heap)(S:A.frames≠some []){op:Gh}{x y:aC}{v u:AV}(V:VR C β s.heap x v)(q:VR C β s.heap y u)
  (p:AE C Bv (VR C) β s (DZ H (BN H op v u)) Q E):wpAny (model C.prog C.w) A (binaryOp op.op x y) Q E s:=by
 obtain⟨r,z,p⟩:=GP p
 cases op with
 | add =>
  rcases Zbn z with ⟨i,j,rfl,rfl,rfl⟩|⟨l,k,rfl,rfl,g,rfl⟩|⟨l,k,J,M,g,rfl⟩
  .refine aD V.int_inv fun t m=>?_;subst m;refine aD q.int_inv fun T m=>?_;subst m;exact add_int (p _ _ _ (I.toks _) (.int _ _))
  .refine BJ (VR.inv V) fun _ _ d F N o=>?_;subst d;refine BJ (VR.inv q) fun _ _ d L O D=>?_;subst d;exact Zbi I F L N O o D g p
  .refine B2 (Gw I V J) fun a X d F o=>?_;subst d;refine B2 (Gw I q M) fun b Y d L D=>?_;subst d;exact Za8 I F L o D g (.lst I p)
 | sub =>
  refine Dp (Vd V q z) fun i t j T f c e=>?_;subst f;subst c;obtain rfl:=inj e;exact sub_int' (p _ _ _ (I.toks _) (.int _ _))
 | mul =>
  refine Dp (Vd V q z) fun i t j T f c e=>?_;subst f;subst c;refine B9 e fun g e=>?_;obtain rfl:=inj e;exact P.mul_int (p _ _ _ (I.toks _) (.int _ _)) (g.elim (fun h=>.of_right (Zbj h)) fun h=>.of_left (Zbj h))
 | fdiv =>
  refine Dp (Vd V q z) fun i t j T f c e=>?_;subst f;subst c;refine I5 e fun g e=>?_;obtain rfl:=inj e;exact floordiv_int g (p _ _ _ (I.toks _) (.int _ _)) (.inr (PylongRoom.of (B.nolimit.keeps I.base) (by have:=R.depth;unfold Builtin.pylongFrames;exact Z1d this) (K.seer S B I)))
 | mod =>
  refine Dp (Vd V q z) fun i t j T f c e=>?_;subst f;subst c;refine I5 e fun g e=>?_;obtain rfl:=inj e;exact mod_int' g (p _ _ _ (I.toks _) (.int _ _))
 | pow =>
  refine Dp (Vd V q z) fun i t j T f c e=>?_;subst f;subst c;refine B9 e fun g e=>?_;obtain rfl:=inj e;exact pow_int_small g.1 (Z1l g) (by have:=g.2.2;exact aZ (by assumption) (Al rfl)) (p _ _ _ (I.toks _) (.int _ _))
 | rep =>
  refine BJ (Zbq z) fun l j J G g c=>?_;subst G;subst c;refine B2 (Gw I V J) fun a X d F o=>?_;subst d;refine aD q.int_inv fun t m=>?_;subst m;exact Zbp I F o g (.lst I p)
noncomputable def Mc(H:AH):Option AV->Rs AV
 | some (.lst l)=>.ok (.ref H.length) (H++[.list l])
 | _=>.bad
def EG(op:Gh)(a b:DE):DE:=fun σ H=>(a σ H).bind fun x aa=>(b σ aa).bind fun y A=>Mc A (BN A op x y)
theorem Zbs(I:B7 C β s.heap H){op:Gh}{x y:aC}{v u:AV}(V:VR C β s.heap x v)(B:VR C β s.heap y u)(p:op=.add\/op=.rep)
  (h:AE C Bv (VR C) β s (Mc H (BN H op v u)) Q E):wpAny (model C.prog C.w) A (binaryOp op.op x y) Q E s:=by
 cases f:BN H op v u with
 | none=>rw[f] at h;exact h.elim
 | some r =>
  rw[f] at h
  rcases p with rfl|rfl
  .rcases Zbn f with ⟨i,j,rfl,rfl,rfl⟩|⟨l,k,rfl,rfl,d,rfl⟩|⟨l,k,o,D,d,rfl⟩
   .exact h.elim
   .exact h.elim
   .refine B2 (Gw I V o) fun a X e z c=>?_;subst e;refine B2 (Gw I B D) fun b Y e F q=>?_;subst e;exact Za8 I z F c q d (.ref I h)
  .refine BJ (Zbq f) fun l j o m d n=>?_;subst m;subst n;refine B2 (Gw I V o) fun a X e z c=>?_;subst e;refine aD B.int_inv fun t g=>?_;subst g;exact Zbp I z c d (.ref I h)
end
end Mine
namespace Mine
open PySem PyProof.Rows PySem.Calls PySem.SeqAt
section
variable {C:Cx}{n:Nat}{S:AN}{β:List aF}{s:aE}{H:AH}{A:bY}{Q:aC->aE->Prop}{E:aC->aE->Prop}
theorem Zbt{a c:Type}{f:a->Option c}{x:a}{l:List a}{Y:List c}(h:(x::l).mapM f=some Y):∃ y r,f x=some y/\l.mapM f=some r/\Y=y::r:=by
 rw[dN] at h
 cases b:f x with
 | none=>rw[b] at h;injection h
 | some y =>
  rw[b] at h
  cases H:l.mapM f with
  | none=>rw[H] at h;injection h
  | some r=>rw[H] at h;obtain rfl:=inj h;exact⟨y,r,rfl,rfl,rfl⟩
theorem Zbu{h:aX}{k:Nat}(I:∀ {v:aC} {d:AV} {x:gV},VR C β h v d->data H k d=some x->∃ as,Reads h v x as){vs:List aC}{l:List AV}(r:Bg C β h vs l):∀ {xs:List gV},l.mapM (data H k)=some xs->∃ as,ReadsAll h vs xs as :=
 r.ind (P:=fun vs l=>∀ {xs:List gV},l.mapM (data H k)=some xs->∃ as,ReadsAll h vs xs as) (fun e=>⟨[],inj e▸.nil⟩) fun {_ _ _ _} a _ i {xs} e=>by
  exact B2 (Zbt e) fun y Y c f E=>Ac E (aD (I a c) fun as g=>aD (i f) fun b j=>⟨as++b,.cons g j⟩)
theorem VR.reads{h:aX}(I:B7 C β h H):∀ (k:Nat) {v:aC} {d:AV} {x:gV},VR C β h v d->data H k d=some x->∃ as,Reads h v x as
 | 0,_,_,_,_,e=>by injection e
 | k+1,v,d,x,r,e=>by
  have A:=fun {v:aC} {d:AV} {x:gV}=>VR.reads (v:=v) (d:=d) (x:=x) I k;have V:=r.inv
  cases d with
  | none=>obtain rfl:=inj e;cases V;exact⟨_,.none⟩
  | bool b=>obtain rfl:=inj e;cases V;exact⟨_,.bool b⟩
  | int i=>obtain rfl:=inj e;refine aD V fun t c=>?_;subst c;exact⟨_,.int i t⟩
  | str y=>obtain rfl:=inj e;refine aD V fun t c=>?_;subst c;exact⟨_,.str y t⟩
  | tup l =>
   refine BJ V fun a s E z _ u=>?_;subst E;have e:(l.mapM (data H k)).map e5=some x:=e;refine Ah (aY.mp e) fun X f E=>?_;subst E;exact aD (Zbu (H:=H) A u f) fun as g=>C3 z fun o p j n m=>⟨as,.tuple p j m g⟩
  | lst l =>
   refine BJ V fun a s E z _ u=>?_;subst E;have e:(l.mapM (data H k)).map dY=some x:=e;refine Ah (aY.mp e) fun X f E=>?_;subst E;exact aD (Zbu (H:=H) A u f) fun as g=>C3 z fun o p j n m=>⟨_,.list p j m g⟩
  | ref i =>
   refine Ah V fun a c B=>?_;subst c;have e:(match H[i]? with|some (.list l)=>(l.mapM (data H k)).map dY|_=>Option.none)=some x:=e
   cases q:H[i]? with
   | none=>rw[q] at e;injection e
   | some o=>cases o with
    | list l =>
     rw[q] at e;refine Ah (I.obj i a _ B q) fun s w u=>C3 w.isList fun o p j n m=>Ah (aY.mp e) fun X f E=>?_;subst E;exact aD (Zbu (H:=H) A u f) fun as g=>⟨_,.list p j m g⟩
    | dict l=>rw[q] at e;injection e
    | dictS l=>rw[q] at e;injection e
    | dictN l=>rw[q] at e;injection e
    | attrs l=>rw[q] at e;injection e
    | exo _ _ _=>rw[q] at e;injection e
  | _=>injection e
theorem Ve{a b:AV}{c:Bool}(h:D3 H a b=some c):∃ x y,data H 12 a=some x/\data H 12 b=some y/\shaped x=true/\shaped y=true/\c=ce x y:=Bf h fun x d h=>Bf h fun y e h=>B9 h fun s h=>⟨x,y,d,e,(aL.mp s).1,(aL.mp s).2,(inj h).symm⟩
open Classical in
noncomputable def rd(h:aX)(y:aC):gV:=if q:∃ d,(∃ as,Reads h y d as)/\shaped d=true then choose q else .none
theorem Hv{h:aX}{y:aC}{d:gV}{as:List aF}(r:Reads h y d as)(s:shaped d=true):rd h y=d:=by
 have q:∃ d,(∃ as,Reads h y d as)/\shaped d=true:=⟨d,⟨as,r⟩,s⟩;unfold rd;refine Ac (dif_pos q) (AX (Classical.choose_spec q) fun Q H=>?_);obtain⟨B,b⟩:=Q;exact Reads.unique _ _ _ _ _ (dm H) b r
theorem Zbw(I:B7 C β s.heap H)(R:Ed n A){x:aC}{d:AV}(V:VR C β s.heap x d){vs:List aC}{l:List AV}{b:Bool}(r:Bg C β s.heap vs l)(e:DP H d l=some b) :
  vs.any (fun y=>ce (rd s.heap y) (rd s.heap x))=b/\∀ y∈vs,EqAt A.in1 s y x (ce (rd s.heap y) (rd s.heap x)):=by
 revert b
 refine r.ind (P:=fun vs l=>∀ {b:Bool},DP H d l=some b->vs.any (fun y=>ce (rd s.heap y) (rd s.heap x))=b/\∀ y∈vs,EqAt A.in1 s y x (ce (rd s.heap y) (rd s.heap x))) (fun e=>inj e▸⟨rfl,fun _ h=>absurd h bf⟩) fun {v vs u U} a r t b e=>Bf e fun c m e=>Bf e fun w o e=>?_;obtain rfl:=inj e;refine CZ (Ve m) fun D z j k S i E=>?_;subst E;refine aD (a.reads I 12 j) fun as f=>aD (V.reads I 12 k) fun B g=>AX (t o) fun p q=>⟨by exact Ac List.any_cons (Ac p (Ac (Hv f S) (Ac (Hv g i) rfl))),fun y h=>?_⟩
 rcases aU.mp h with rfl|h
 .refine Ac (Hv f S) (Ac (Hv g i) ?_);exact eqAt_reads _ _ _ _ _ _ _ _ f g (dm S) (dm i) (room_of_shaped S (om0 R.units))
 .exact q y h
noncomputable def F5.op:F5->kW
 | .eq=>.Eq|.ne=>.NotEq|.lt=>.Lt|.le=>.LtE|.gt=>.Gt|.ge=>.GtE|.is=>.Is|.isNot=>.IsNot|.isIn=>.In|.notIn=>.NotIn
theorem Zbx{h:aX}{x y:aC}{v u:AV}{c:Bool}(V:VR C β h x v)(b:VR C β h y u)(e:PO v u=some c):y=.none/\plainIs x .none=true/\((c=true/\x=.none)\/(c=false/\x≠.none)):=by
 have H:u=.none:=by
  cases u<;>first|rfl|injection e
 subst H
 have a:y=.none:=by
  exact b.inv
 refine⟨a,?_⟩
 cases V with
 | none=>obtain rfl:=inj e;exact⟨rfl,.inl ⟨rfl,rfl⟩⟩
 | bi _ _=>injection e
 | _=>obtain rfl:=inj e;exact⟨rfl,.inr ⟨rfl,by intro q;injection q⟩⟩
theorem Zby{f:Int->Int->Bool}{x y:aC}{v u:AV}(V:VR C β s.heap x v)(a:VR C β s.heap y u){r:Bool}(h:Ix f v u=some r):∃ i t j T,x=.int i t/\y=.int j T/\f i j=r:=by
 cases v<;>first|injection h|(cases u<;>first|(cases h;done)|skip)
 refine aD V.int_inv fun t e=>?_;subst e;refine aD a.int_inv fun T e=>?_;subst e;exact⟨_,t,_,T,rfl,rfl,da h⟩
theorem Zbz(I:B7 C β s.heap H)(R:Ed n A){x y:aC}{v u:AV}{c:Bool}(f:VR C β s.heap x v)(V:VR C β s.heap y u)(h:KL H v u=some c) :
  ∃ a items,y=.ref a/\(s.heap.IsTuple a items\/s.heap.IsList a items)/\items.any (fun z=>ce (rd s.heap z) (rd s.heap x))=c/\∀ z∈items,EqAt A.in1 s z x (ce (rd s.heap z) (rd s.heap x)):=by
 have key:∀ {a:aF} {items:Array aC} {l:List AV},Bg C β s.heap items.toList l->DP H v l=some c->y=.ref a->(s.heap.IsTuple a items\/s.heap.IsList a items)->∃ a items,y=.ref a/\(s.heap.IsTuple a items\/s.heap.IsList a items)/\items.any (fun z=>ce (rd s.heap z) (rd s.heap x))=c/\∀ z∈items,EqAt A.in1 s z x (ce (rd s.heap z) (rd s.heap x)):=fun {a items l} b h e t=>by
  exact AX (Zbw I R f b h) fun q Q=>⟨a,items,e,t,by refine BE Array.any_toList ?_;exact q,fun z hz=>Q z (by simpa using hz)⟩
 refine Gs h (fun l e h=>?_) fun h=>Bf h fun l d h=>?_
 .subst e;exact BJ V.inv fun _ _ e t _ b=>key b h e (.inl t)
 .exact B2 (Gw I V d) fun _ _ e d b=>key b h e (.inr d)
theorem Sa(I:B7 C β s.heap H)(R:Ed n A){op:F5}{x y:aC}{v u:AV}{c:Bool}(V:VR C β s.heap x v)(k:VR C β s.heap y u)(h:Bl H op v u=some c)
  (p:Q (.bool c) s):wpAny (model C.prog C.w) A (compareOp op.op x y) Q E s:=by
 have M:A.units+64<cLine:=by have:=R.units;exact om1 this
 cases op with
 | eq =>
  refine CZ (Ve h) fun O U z B S L e=>?_;subst e;exact aD (V.reads I 12 z) fun as J=>aD (k.reads I 12 B) fun N K=>compareEq_shaped J K S L M p
 | ne =>
  refine Ah (aY.mp h) fun b o g=>?_;subst g;refine CZ (Ve o) fun O U z B S L e=>?_;subst e;exact aD (V.reads I 12 z) fun as J=>aD (k.reads I 12 B) fun N K=>compareNe_shaped J K S L M p
 | lt=>refine Dp (Zby V k h) fun i t j T d f e=>?_;subst d;subst f;subst e;exact P.lt_int p
 | le=>refine Dp (Zby V k h) fun i t j T d f e=>?_;subst d;subst f;subst e;exact P.le_int p
 | gt=>refine Dp (Zby V k h) fun i t j T d f e=>?_;subst d;subst f;subst e;exact P.gt_int p
 | ge=>refine Dp (Zby V k h) fun i t j T d f e=>?_;subst d;subst f;subst e;exact P.ge_int p
 | is =>
  obtain⟨rfl,m,⟨rfl,rfl⟩|⟨rfl,D⟩⟩:=Zbx V k h
  .exact wpAny_is_self m p
  .exact wpAny_is_other m D p
 | isNot =>
  refine Ah (aY.mp h) fun b o g=>?_;subst g;obtain⟨rfl,m,⟨rfl,rfl⟩|⟨rfl,D⟩⟩:=Zbx V k o
  .exact wpAny_isNot_self m p
  .exact wpAny_isNot_other m D p
 | isIn =>
  obtain⟨a,l,rfl,G|F,q,r⟩:=Zbz I R V k h
  .exact in_tupleAt _ G r (by refine Ac q ?_;exact p)
  .exact in_listAt _ F r (by refine Ac q ?_;exact p)
 | notIn =>
  refine Ah (aY.mp h) fun b o g=>?_;subst g;obtain⟨a,l,rfl,G|F,q,r⟩:=Zbz I R V k o
  .exact notIn_tupleAt _ G r (by refine Ac q ?_;exact p)
  .exact notIn_listAt _ F r (by refine Ac q ?_;exact p)
end
end Mine
namespace Mine
open PySem PyProof.Rows PySem.Calls PySem.SeqAt
section
variable {C:Cx}{n:Nat}{S:AN}{β:List aF}{s:aE}{H:AH}{A:bY}{Q:aC->aE->Prop}{E:aC->aE->Prop}{mg mb:aW->Option aC}
theorem SE.bin(B:Dc C mg mb){op:Gh}{o:l7}{l r:Expr}{pos:dc}{a b:DE}(m:SE C n S l a)(w:SE C n S r b)(p:op.op=o):SE C n S (.BinOp l o r pos) (Ap op a b):=by
 subst p;refine⟨fun A e c H D s Q E P t=>?_⟩;refine wpAny_BinOp (AE.then t (fun _ h=>m.go A e c H D s _ E P h) ?_);intro x f v d j _ g V i;refine AE.then i (fun _ h=>w.go A e c d j f _ E (P.after g) h) ?_;intro y G u F I _ k z q;exact Zbr B k.inv P.room (((P.after g).after k).stk) P.ne (V.mono k.grow) z q
theorem SE.binN{op:Gh}{o:l7}{l r:Expr}{pos:dc}{a b:DE}(m:SE C n S l a)(z:SE C n S r b)(p:op=.add\/op=.rep)(t:op.op=o):SE C n S (.BinOp l o r pos) (EG op a b):=by
 subst t;refine⟨fun A e c H D s Q E P w=>?_⟩;refine wpAny_BinOp (AE.then w (fun _ h=>m.go A e c H D s _ E P h) ?_);intro x f v d j _ g V i;refine AE.then i (fun _ h=>z.go A e c d j f _ E (P.after g) h) ?_;intro y G u F I _ k B q;exact Zbs k.inv (V.mono k.grow) B p q
theorem Zb1{r:Option Bool}(I:B7 C β s.heap H)(h:AE C Bv (VR C) β s (DZ H (r.map .bool)) Q E):∃ b,r=some b/\Q (.bool b) s:=by
 cases r with
 | none=>exact h.elim
 | some b=>exact⟨b,rfl,h.ok_here I (.bool b)⟩
theorem VR.of_bool{h:aX}{c:Bool}{v:AV}(r:VR C β h (.bool c) v):v=.bool c:=by
 cases r with
 | bool _=>rfl
 | bi k e=>cases k<;>injection e
theorem FA{S:aE}{r:Rs AV}{c:Bool}{Q:Bool->aE->Prop}(q:∃ a H d,r=.ok a H/\Au C Bv β s d S H/\VR C d S.heap (.bool c) a/\AE C Bv BR d S (match a with|.bool b=>Rs.ok b H|_=>.bad) Q E):Q c S:=by
 refine Dl q fun v H d _ a vr h=>?_;have e:=vr.of_bool;subst e;exact h.ok_here a.inv rfl
theorem Zb2{c a:Type}{X:aF->Prop}{R:List aF->aX->c->a->Prop}{v:AV}{f:Bool->Rs a}{Q:c->aE->Prop}(h:AE C X R β s (match v with|.bool b=>f b|_=>.bad) Q E):∃ b,v=.bool b:=by
 cases v<;>first|exact h.elim|exact⟨_,rfl⟩
theorem PU{c a:Type}{X:aF->Prop}{R:List aF->aX->c->a->Prop}{v:AV}{f:Int->Rs a}{Q:c->aE->Prop}(h:AE C X R β s (match v with|.int b=>f b|_=>.bad) Q E):∃ b,v=.int b:=by
 cases v<;>first|exact h.elim|exact⟨_,rfl⟩
theorem Zb3{b a:Type}{X:aF->Prop}{R:List aF->aX->b->a->Prop}{v:AV}{f:Rs a}{Q:b->aE->Prop}(h:AE C X R β s (match v with|.none=>f|_=>.bad) Q E):v=.none:=by
 cases v<;>first|exact h.elim|exact rfl
theorem SE.cmp{op:F5}{o:kW}{l r:Expr}{pos:dc}{a b:DE}(t:SE C n S l a)(F:SE C n S r b)(z:op.op=o)(w:gB o r=false):SE C n S (.Compare l [o] [r] pos) (Aw op a b):=by
 subst z;refine⟨fun A e d H I s Q E P B=>?_⟩;refine wpAny_Compare1 (AE.then B (fun _ h=>t.go A e d H I s _ E P h) ?_) w;intro x g v f m _ i V j;refine AE.then j (fun _ h=>F.go A e d f m g _ E (P.after i) h) ?_;intro y K u J L _ k G q;exact Ah (Zb1 k.inv q) fun c p D=>Sa k.inv P.room (V.mono k.grow) G p D
theorem ST.cmp{op:F5}{o:kW}{l r:Expr}{pos:dc}{a b:DE}(w:SE C n S l a)(F:SE C n S r b)(B:op.op=o)(z:gB o r=false):ST C n S (.Compare l [o] [r] pos) (Aq (Aw op a b)):=by
 subst B;refine⟨fun A e d H I s Q E P p=>?_⟩;have p:=AE.bind (R:=VR C) p;refine fT (AE.then p (fun _ h=>w.go A e d H I s _ E P h) ?_) z;intro x g v f m _ i V j;refine AE.then j (fun _ h=>F.go A e d f m g _ E (P.after i) h) ?_;intro y K u J L _ k G q;exact Ah (Zb1 k.inv q) fun c t D=>Sa k.inv P.room (V.mono k.grow) G t (cN (FA D))
theorem Zb4{x:aC}{b:Bool}{Q:Bool->aE->Prop}(v:VR C β s.heap x (.bool b))(h:Q b s):wpAny (model C.prog C.w) A (truthy x) Q E s:=by
 have e:x=.bool b:=v.inv;exact Ac e (cN h)
theorem ST.val{e:Expr}{a:DE}(h:SE C n S e a)(j:∀ c w,isTrue e c w=(do let v <- w;standAt e.pos;holding [v] (truthy v))):ST C n S e (Aq a):=by
 refine⟨fun A c l H k s Q E P p=>?_⟩;refine wpAny_isTrue_value (AE.then p (fun _ f=>h.go A c l H k s _ E P f) ?_) (j _ _);intro x o v m q _ g V i;refine aD (Zb2 i) fun b d=>?_;subst d;exact Zb4 V (i.ok_here g.inv rfl)
theorem ST.not{e:Expr}{pos:dc}{t:DT}(h:ST C n S e t):ST C n S (.UnaryOp .Not e pos) (BU t):=by
 refine⟨fun A a d H c s Q E P p=>?_⟩;refine wpAny_isTrue_Not (AE.then p (fun _ b=>h.go A a d H c s _ E P b) ?_);intro x j v f k _ g V i
 cases V
 exact i.ok_here g.inv rfl
theorem SE.not{e:Expr}{pos:dc}{a:DE}(h:SE C n S e a):SE C n S (.UnaryOp .Not e pos) (GK (Aq a)):=by
 refine⟨fun A f q H m s Q E P p=>?_⟩;have p:=AE.bind (R:=BR) p;refine wpAny_UnaryOp (AE.then p (fun _ k=>h.go A f q H m s _ E P k) ?_);intro x u v t w _ j l i;refine aD (Zb2 i) fun b d=>?_;subst d;refine Dl (i.ok_here j.inv rfl) fun V r o _ g e c=>?_;rw[<- show b=V from e] at c;exact not_of (Zb4 l (c.ok_here g.inv (.bool _)))
theorem SE.neg{e:Expr}{pos:dc}{a:DE}(h:SE C n S e a):SE C n S (.UnaryOp .USub e pos) (Fe a):=by
 refine⟨fun A c k H j s Q E P p=>?_⟩;refine wpAny_UnaryOp (AE.then p (fun _ f=>h.go A c k H j s _ E P f) ?_);intro x m v l o _ g V d;refine aD (PU d) fun i b=>?_;subst b;refine aD V.int_inv fun t b=>?_;subst b;exact PySem.P.neg_int (d _ _ _ (g.inv.toks _) (.int _ _))
structure HN(C:Cx)(n:Nat)(S:AN)(op:BoolOp)(es:List Expr)(d:DE):Prop where
 go:∀ A env σ H β s Q E pos,DO C n A S env β s σ H->AE C Bv (VR C) β s (d σ H) Q E->wpAny (model C.prog C.w) A (boolOp pos op (evalEach es env)) Q E s
theorem HN.one{op:BoolOp}{e:Expr}{a:DE}(h:SE C n S e a):HN C n S op [e] a:=by
 refine⟨fun A v d H c s Q E b P p=>?_⟩;exact h.go A v d H c s Q E P p
theorem Zb5{E:f3}{pos:dc}{op:BoolOp}{e a:Expr}{s:List Expr}:boolOp pos op (evalEach (e::a::s) E)=(do
  let v <- eval e E
  standAt pos
  let t <- holding [v] (truthy v)
  match op,t with
  | .And,false|.Or,true=>pure v
  | _,_=>boolOp pos op (evalEach (a::s) E)):=rfl
theorem PV{c a:Type}{X:aF->Prop}{R:List aF->aX->c->a->Prop}{v:AV}{f g:Rs a}{Q:c->aE->Prop}(h:AE C X R β s (match v with|.bool true=>f|.bool false=>g|_=>.bad) Q E):v=.bool true\/v=.bool false:=by
 cases v with
 | bool b=>cases b<;>first|exact .inl rfl|exact .inr rfl
 | _=>exact h.elim
theorem Vf{c a:Type}{X:aF->Prop}{R:List aF->aX->c->a->Prop}{v:AV}{f g:Rs a}{Q:c->aE->Prop}(h:AE C X R β s (match v with|.bool false=>f|.bool true=>g|_=>.bad) Q E):v=.bool false\/v=.bool true:=by
 cases v with
 | bool b=>cases b<;>first|exact .inl rfl|exact .inr rfl
 | _=>exact h.elim
theorem HN.and{e d:Expr}{f:List Expr}{a b:DE}(h:SE C n S e a)(r:HN C n S .And (d::f) b):HN C n S .And (e::d::f) (DU a b):=by
 refine⟨fun A c j H t s Q E p P q=>?_⟩;refine Ac Zb5 (aB (AE.then q (fun _ o=>h.go A c j H t s _ E P o) ?_));intro x l v k m _ g V i;refine aB (cW (aB (bN ?_)))
 rcases PV i with e|e<;>subst e<;>refine Zb4 V ?_
 .exact r.go A c j k m l Q E p (P.after g) i
 .exact aH (i.ok_here g.inv V)
theorem HN.or{e d:Expr}{f:List Expr}{a b:DE}(h:SE C n S e a)(r:HN C n S .Or (d::f) b):HN C n S .Or (e::d::f) (UV a b):=by
 refine⟨fun A c j H t s Q E p P q=>?_⟩;refine Ac Zb5 (aB (AE.then q (fun _ o=>h.go A c j H t s _ E P o) ?_));intro x l v k m _ g V i;refine aB (cW (aB (bN ?_)))
 rcases Vf i with e|e<;>subst e<;>refine Zb4 V ?_
 .exact r.go A c j k m l Q E p (P.after g) i
 .exact aH (i.ok_here g.inv V)
theorem SE.boolOp{op:BoolOp}{a:List Expr}{pos:dc}{d:DE}(h:HN C n S op a d):SE C n S (.BoolOp op a pos) d:=by
 refine⟨fun A e c H b s Q E P p=>?_⟩;exact h.go A e c H b s Q E pos P p
structure GB(C:Cx)(n:Nat)(S:AN)(op:BoolOp)(es:List Expr)(d:DT):Prop where
 go:∀ A env σ H β s Q E,DO C n A S env β s σ H->AE C Bv BR β s (d σ H) Q E->wpAny (model C.prog C.w) A (allTrue op es env) Q E s
theorem GB.andOne{e:Expr}{a:DT}(h:ST C n S e a):GB C n S .And [e] a:=by
 refine⟨fun A b f H k s Q E P p=>?_⟩;refine jq (h.go A b f H k s _ E P ?_)
 cases d:a f H with
 | ok v K =>
  rw[d] at p;intro x j c g i;have q:=p x j c g i
  cases x with
  | true=>exact wpAny_allTrue_And_nil q
  | false=>exact q
 | err _ _=>rw[d] at p;exact p
 | bad=>rw[d] at p;exact p
theorem GB.orOne{e:Expr}{a:DT}(h:ST C n S e a):GB C n S .Or [e] a:=by
 refine⟨fun A b f H k s Q E P p=>?_⟩;refine jD (h.go A b f H k s _ E P ?_)
 cases d:a f H with
 | ok v K =>
  rw[d] at p;intro x j c g i;have q:=p x j c g i
  cases x with
  | false=>exact wpAny_allTrue_Or_nil q
  | true=>exact q
 | err _ _=>rw[d] at p;exact p
 | bad=>rw[d] at p;exact p
theorem GB.and{e:Expr}{d:List Expr}{a b:DT}(h:ST C n S e a)(r:GB C n S .And d b):GB C n S .And (e::d) (Gl a b):=by
 refine⟨fun A c f H o s Q E P p=>?_⟩;refine jq (AE.then p (fun _ m=>h.go A c f H o s _ E P m) ?_);intro x k v j l _ g V i
 cases V
 cases x with
 | true=>exact r.go A c f j l k Q E (P.after g) i
 | false=>exact i.ok_here g.inv rfl
theorem GB.or{e:Expr}{d:List Expr}{a b:DT}(h:ST C n S e a)(r:GB C n S .Or d b):GB C n S .Or (e::d) (D8 a b):=by
 refine⟨fun A c f H o s Q E P p=>?_⟩;refine jD (AE.then p (fun _ m=>h.go A c f H o s _ E P m) ?_);intro x k v j l _ g V i
 cases V
 cases x with
 | false=>exact r.go A c f j l k Q E (P.after g) i
 | true=>exact i.ok_here g.inv rfl
theorem ST.boolOp{op:BoolOp}{a:List Expr}{pos:dc}{d:DT}(h:GB C n S op a d):ST C n S (.BoolOp op a pos) d:=by
 refine⟨fun A e c H b s Q E P p=>?_⟩;exact wpAny_isTrue_BoolOp (h.go A e c H b s Q E P p)
theorem Zb6{v S:Expr}{o i:aC}{T id:String}(H:s.TypeIs o T)(l:bE (.type T) "__getitem__"=pure (some (.builtin id)))(h:wpAny (model C.prog C.w) A (getItem o i) Q E s)
  (c:dG S false o i=operate [o,i] (getItem o i)):wpAny (model C.prog C.w) A (iC v S o i) Q E s:=by
 unfold iC;refine aB (Ac (jE H.not_modules) (aB (dQ H l ?_)))
 have f:wpAny (model C.prog C.w) A (dG S false o i) (fun r a=>wpAny (model C.prog C.w) A (gY v o r >>= fun _=>pure r) Q E a) E s:=by
  exact Ac c (lP (bJ h (fun r a b=>aB (jS (aH b))) fun _ _ x=>x))
 first
  | exact aH (aB f)
  | exact aB (aH (aB f))
  | exact aB f
theorem Zb7{l:List AV}{k:Int}{v:AV}(h:Ce l k=some v):-1048576<=k/\k<=1048576/\∃ j,lz k l.length=some j/\l[j]?=some v:=by
 refine B9 h fun a h=>⟨a.1,a.2,Ht h (fun H h=>⟨k.toNat,?_,h⟩) fun H h=>B9 h fun b h=>⟨(k+l.length).toNat,?_,h⟩⟩
 .show (if (decide (0<=(if k<0 then k+l.length else k))&&decide ((if k<0 then k+l.length else k)<l.length))=true then some (if k<0 then k+l.length else k).toNat else none)=_;exact Ac (if_neg (TB H)) (if_pos (aL.mpr ⟨decide_eq_true H,decide_eq_true (Z09 a H (Bm h))⟩))
 .show (if (decide (0<=(if k<0 then k+l.length else k))&&decide ((if k<0 then k+l.length else k)<l.length))=true then some (if k<0 then k+l.length else k).toNat else none)=_;exact Ac (if_pos (PK H)) (if_pos (aL.mpr ⟨decide_eq_true b,decide_eq_true (PJ H)⟩))
theorem Zb8{a:aF}{items:Array aC}{l:List AV}{k:Int}{t:mM}{v:AV}(f:s.heap.IsTuple a items)(c:Bg C β s.heap items.toList l)(h:Ce l k=some v)(q:∀ x,VR C β s.heap x v->Q x s) :
  wpAny (model C.prog C.w) A (getItem (.ref a) (.int k t)) Q E s:=by
 refine UT (Zb7 h) fun d i j e g=>Ah (c.get g) fun x b r=>?_;have H:=c.length;rw[aR] at H;exact l8 f (aO (Al rfl) d) (by exact cF (by assumption) (Al rfl)) (by refine Ac H ?_;exact e) (by simpa using b) (q x r)
theorem Zb9{a:aF}{items:Array aC}{l:List AV}{k:Int}{t:mM}{v:AV}(f:s.heap.IsList a items)(d:Bg C β s.heap items.toList l)(h:Ce l k=some v)(q:∀ x,VR C β s.heap x v->Q x s) :
  wpAny (model C.prog C.w) A (getItem (.ref a) (.int k t)) Q E s:=by
 have H:=d.length;rw[aR] at H;refine B9 h fun e h=>Ht h (fun c h=>?_) fun c h=>B9 h fun g h=>?_
 .refine Ah (d.get h) fun x b r=>?_;exact wpAny_getItem_list f c (cF e.2 (Al rfl)) (by simpa using b) (q x r)
 .refine Ah (d.get h) fun x b r=>?_;exact wpAny_getItem_list_neg f (PK c) (by refine Ac H ?_;exact Z1y g) (aO (Al rfl) e.1) (by refine Ac H ?_;simpa using b) (q x r)
theorem Zca{H:AH}{a i r:AV}(h:Cy H a i=some r):∃ k,i=.int k/\((∃ l,a=.tup l/\Ce l k=some r)\/∃ l,listOf? H a=some l/\Ce l k=some r):=D5 h fun k e h=>⟨k,e,Gs h (fun l e h=>.inl ⟨l,e,h⟩) fun h=>Bf h fun l e h=>.inr ⟨l,e,h⟩⟩
theorem SE.sub{e i:Expr}{pos:dc}{a b:DE}(h:SE C n S e a)(k:SE C n S i b)(D:∀ o v,dG i false o v=operate [o,v] (getItem o v)):SE C n S (.Subscript e i pos) (Aj a b):=by
 refine⟨fun A d G H U s Q E P R=>?_⟩;refine kz (AE.then R (fun _ p=>h.go A d G H U s _ E P p) ?_);intro x K v J N _ L V M;refine AE.then M (fun _ p=>k.go A d G J N K _ E (P.after L) p) ?_;intro y X u W Y _ g T O;have V:=V.mono g.grow;refine Ah (GP O) fun r f B=>Ah (Zca f) fun i c q=>?_;subst c;refine aD T.int_inv fun t c=>?_;subst c
 rcases q with ⟨l,rfl,f⟩|⟨l,j,f⟩
 .refine BJ V.inv fun ad I m F _ w=>?_;subst m;exact Zb6 (kU.typeIs' F) fz.lookup (Zb8 F w f fun x z=>B.ok_here g.inv z) (D _ _)
 .obtain⟨ad,I,rfl,j,w⟩:=Gw g.inv V j;exact Zb6 j.typeIs kX.lookup (Zb9 j w f fun x z=>B.ok_here g.inv z) (D _ _)
end
end Mine
namespace Mine
open PySem PyProof.Rows PySem.Calls PySem.SeqAt
section
variable {C:Cx}{n:Nat}{S:AN}{β:List aF}{s:aE}{H:AH}{A:bY}{Q:aC->aE->Prop}{E:aC->aE->Prop}{mg mb:aW->Option aC}
theorem B7.keeps(I:B7 C β s.heap H){h':aX}(tk:Nat)(k:∀ b o,s.heap.get? b=some o->h'.get? b=some o):Au C Bv β s β { s with heap:=h',toks:=tk } H:=by
 have g:BS Bv β s.heap β h':=⟨⟨⟨[],by simp,fun _ j=>nomatch j⟩,fun a o e _ _=>⟨o,k a o e,.refl _⟩,fun _ h=>h.elim⟩,fun _ h=>h.elim⟩;refine⟨g,⟨I.len,I.nodup,fun i a A d f=>?_,fun a o e=>k _ _ (I.base a o e),I.fresh⟩,h',tk,rfl⟩;exact (I.obj i a A d f).keep g.toGrow0 fun _ c=>k _ _ c
noncomputable def Kd.name:Kd->String
 | .none=>"NoneType"|.bool=>"bool"|.int=>"int"|.str=>"str"|.tuple=>"tuple"|.list=>"list"|.dict=>"dict"
noncomputable def Md:List BI:=[.len,.range,.isinstance,.all,.int,.str,.list,.tuple,.bool,.dict,.valueError]
theorem BI.mem(t:BI):t∈Md:=by cases t<;>decide
def Vg(k:Kd):Bool:=Md.all fun t=>match Iy k t with
 | some b=>jT [] (.type k.name) t.val == some b
 | none=>true
theorem Vh(k:Kd):Vg k=true:=by cases k<;>kernel_rfl
theorem I9{k:Kd}{t:BI}{b:Bool}(h:Iy k t=some b):jT [] (.type k.name) t.val=some b:=by
 have:=aI.mp (Vh k) t t.mem;rw[h] at this;exact beq_iff_eq.mp this
theorem IA(h:aX):mY [] h:=fun _ _ e=>nomatch e
theorem IB(I:B7 C β s.heap H){x:aC}{v:AV}{k:Kd}(r:VR C β s.heap x v)(h:F6 H v=some k):∃ P:aX->Prop,mw [] x (.type k.name) P/\P s.heap/\x≠.builtin "__main__.__loader__#opaque":=by
 have V:=r.inv;have lst:∀ {a:aF} {c:Array aC},s.heap.IsList a c->∃ P:aX->Prop,mw [] (.ref a) (.type "list") P/\P s.heap/\(cD a≠.builtin "__main__.__loader__#opaque"):=fun ⟨o,d,g,_⟩=>⟨_,PySem.W.kitx_list,⟨o,d,g⟩,by intro q;injection q⟩
 cases v with
 | none=>obtain rfl:=inj h;cases V;exact⟨_,PySem.W.kitx_none,trivial,by intro q;injection q⟩
 | bool b=>obtain rfl:=inj h;cases V;exact⟨_,PySem.W.kitx_bool,trivial,by intro q;injection q⟩
 | int i=>obtain rfl:=inj h;refine aD V fun t e=>?_;subst e;exact⟨_,PySem.W.kitx_int,trivial,by intro q;injection q⟩
 | str y=>obtain rfl:=inj h;refine aD V fun t e=>?_;subst e;exact⟨_,PySem.W.kitx_str,trivial,by intro q;injection q⟩
 | tup l=>obtain rfl:=inj h;refine B2 V fun a c E Q _=>?_;subst E;exact Bu Q fun o d g _=>⟨_,PySem.W.kitx_tuple,⟨o,d,g⟩,by intro q;injection q⟩
 | lst l=>obtain rfl:=inj h;refine B2 V fun a c E j _=>?_;subst E;exact lst j
 | ref i =>
  refine Ah V fun a e f=>?_;subst e
  have h:(match H[i]? with
   | some (.list _)=>some Kd.list
   | some (.dict _)=>some .dict
   | some (.dictS _)=>some .dict
   | _=>none)=some k:=h
  cases q:H[i]? with
  | none=>rw[q] at h;injection h
  | some o=>cases o with
   | list l =>
    rw[q] at h;obtain rfl:=inj h;exact Ah (I.obj i a _ f q) fun c j u=>lst j.isList
   | dict l =>
    rw[q] at h;obtain rfl:=inj h;obtain⟨K,⟨o,n,p,d,m,_⟩,_⟩:=I.obj i a _ f q;exact⟨_,kY,⟨_,d,m.1⟩,by intro q;injection q⟩
   | dictS l =>
    rw[q] at h;obtain rfl:=inj h;obtain⟨X,o,n,p,d,m,_⟩:=I.obj i a _ f q;exact⟨_,kY,⟨_,d,m.1⟩,by intro q;injection q⟩
   | dictN l=>rw[q] at h;injection h
   | attrs l=>rw[q] at h;injection h
   | exo _ _ _=>rw[q] at h;injection h
 | _=>injection h
theorem PW(I:B7 C β s.heap H){x:aC}{v:AV}{t:BI}{b:Bool}(V:VR C β s.heap x v)(h:Er H v t=some b)(c:∀ tk,Q (.bool b) { s with toks:=tk }) :
  wpAny (model C.prog C.w) A (call (.builtin "isinstance") [x,t.val]) Q E s:=by
 unfold Er at h
 cases a:F6 H v with
 | none=>rw[a] at h;injection h
 | some k =>
  rw[a] at h;exact Bu (IB I V a) fun P Z p d=>mP Z (IA _) p (I9 h) d c
theorem Zcb:∀ {l:List AV} {b:Bool},allTrue? l=some b->∃ bs:List Bool,l=bs.map .bool/\b=bs.all id
 | [],b,h=>by obtain rfl:=inj h;exact⟨[],rfl,rfl⟩
 | v::r,b,h=>by
  cases v with
  | bool c =>
   refine EF (o:=allTrue? r) h fun d H e=>?_;subst e;refine Ah (Zcb H) fun bs E e=>?_;subst E;subst e;exact⟨c::bs,rfl,rfl⟩
  | _=>injection h
theorem Zcc{h:aX}:∀ {vs:List aC} {bs:List Bool},Bg C β h vs (bs.map .bool)->∀ (i:Nat) (v:aC),vs[i]?=some v->∃ b,bs[i]?=some b/\v=.bool b:=by
 intro vs bs
 induction bs generalizing vs with
 | nil=>intro r i v e;rw[r.nil_inv] at e;injection e
 | cons b bs I =>
  intro r i v e;obtain⟨x,w,rfl,a,r⟩:=r.cons_inv
  cases i with
  | zero=>exact⟨b,rfl,(inj e).symm.trans a.inv⟩
  | succ i=>exact I r i v e
theorem Zcd(bs:List Bool):((eT bs.length).all fun i=>(bs[i]?).getD true)=bs.all id:=by
 rw[lQ,aI,aI];constructor
 .intro h b a;obtain⟨i,H,rfl⟩:=ee a;have:=h i (gZ.mpr H);simpa [H] using this
 .intro h i H;have H:=gZ.mp H;have:=h bs[i] (lA H);simpa [H] using this
theorem Zce{h':aX}{o:fj}(h:∀ b x,b∉[s.heap.objs.size]->(s.heap.push o).get? b=some x->h'.get? b=some x):∀ b x,s.heap.get? b=some x->h'.get? b=some x :=
 fun b x e=>h b x (fun H=>by rw[aJ.mp H] at e;exact dj _ (bX e)) (aP _ e)
theorem Zcf(b:Int):iV 0 b 1=(b.toNat:Int):=by
 show (if (1:Int)>0 then (if 0<b then (b-0-1) / 1+1 else 0) else _)=_;refine (if_pos (Al rfl)).trans ?_
 by_cases h:0<b
 .exact (if_pos h).trans (Ac (mH _) (Ac (Int.sub_zero b) ((gU b 1).trans (bL (c0 h)).symm)))
 .exact (if_neg h).trans (congrArg ls (Int.toNat_of_nonpos (jb.mp h)).symm)
theorem Zcg{b:Int}(h:-1048576<=b/\b<=1048576):kg 0 b 1=true:=by
 have s:=Zcf b
 have f:∀ i:Int,-2000000<=i->i<=2000000->l3 i=true:=by
  exact fun i H a=>PT H a
 unfold kg;rw[s,f 0 (by exact bd _) (by exact bd _),f b (SX h) (SY h),f 1 (by exact bd _) (by exact bd _),f (b.toNat:Int) (by exact bd _) (Z1g h),if_pos (Al rfl),f (b+(1-1)) (Z14 h) (Z15 h)];simp
theorem Zch{h:aX}:∀ {vs:List aC} {l:List AV},vs.length=l.length->(∀ (i:Nat) v d,vs[i]?=some v->l[i]?=some d->VR C β h v d)->Bg C β h vs l
 | [],[],_,_=>.nil
 | [],_::_,e,_=>by simp at e
 | _::_,[],e,_=>by simp at e
 | v::vs,d::l,e,k=>.cons (k 0 v d rfl rfl) (Zch (by simpa using e) fun i x y H a=>k (i+1) x y (by simpa using H) (by simpa using a))
theorem Zci{β:List aF}{h:aX}{acc:Array aC}{b:Int}(H:ItemsOf (fun i v=>∃ t,v=.int (0+i*1) t) acc b.toNat):Bg C β h acc.toList (BP b):=by
 refine Zch (by simp[BP,H.1]) fun i v d c a=>aD (H.2 i v (by simpa using c)) fun t e=>?_;subst e;have f:i<b.toNat:=by have:=(Bm a);simpa [BP] using this
 simp[BP,f] at a;subst a;have:(0:Int)+(i:Int)*1=(i:Int):=by exact TI
 exact Ac this (.int _ _)
theorem IC(I:B7 C β s.heap H){x:aC}{v:AV}{l:List AV}(V:VR C β s.heap x v)(h:listOf? H v=some l\/v=.tup l) :
  ∃ a T o items m,x=.ref a/\(T="list"\/T="tuple")/\s.heap.get? a=some o/\o.cls=.type T/\o.data=.seq items m/\Bg C β s.heap items.toList l:=by
 rcases h with h|rfl
 .refine B2 (Gw I V h) fun a items e q f=>?_;subst e;exact C3 q fun o b c m d=>⟨a,"list",o,items,m,rfl,.inl rfl,b,c,d,f⟩
 .refine BJ V.inv fun a items e q _ f=>?_;subst e;exact C3 q fun o b c m d=>⟨a,"tuple",o,items,m,rfl,.inr rfl,b,c,d,f⟩
theorem Zcj{v r:AV}(h:Gm H v=some r):∃ l:List AV,(listOf? H v=some l\/v=.tup l)/\l.length<=1048576/\r=.int l.length:=Gs h (fun l e h=>B9 h fun a h=>⟨l,.inr e,a,(inj h).symm⟩) fun h=>Bf h fun l e h=>B9 h fun a h=>⟨l,.inl e,a,(inj h).symm⟩
theorem PX(I:B7 C β s.heap H){x:aC}{v r:AV}(V:VR C β s.heap x v)(h:Gm H v=some r)(p:AE C Bv (VR C) β s (.ok r H) Q E):wpAny (model C.prog C.w) A (call (.builtin "len") [x]) Q E s:=by
 refine Bu (Zcj h) fun l k f e=>?_;subst e;refine PM (IC I V k) fun a T o i m b j g c d q=>?_;subst b;have n:=q.length;rw[aR] at n;rw[<- n] at p
 rcases j with rfl|rfl
 .exact len_list ⟨o,g,c,m,d⟩ (z63 n f) (p _ _ _ (I.toks _) (.int _ _))
 .exact len_tuple ⟨o,g,c,m,d⟩ (z63 n f) (p _ _ _ (I.toks _) (.int _ _))
theorem Zck(I:B7 C β s.heap H){x:aC}{v r:AV}(V:VR C β s.heap x v)(h:Zap v=some r)(p:AE C Bv (VR C) β s (.ok r H) Q E):wpAny (model C.prog C.w) A (call (.type "range") [x]) Q E s:=D5 h fun b e g=>B9 g fun _ g=>by
 subst e;obtain rfl:=inj g;refine aD V.inv fun t a=>?_;subst a;exact call_range_1 (p _ _ _ (I.push _ _) (.rng (bC _ rfl) I.new_notin))
theorem PY(I:B7 C β s.heap H)(n:A.handled=none){x:aC}{v r:AV}(V:VR C β s.heap x v)(h:Iz H v=some r)(p:AE C Bv (VR C) β s (.ok r H) Q E):wpAny (model C.prog C.w) A (call (.builtin "all") [x]) Q E s:=by
 unfold Iz at h
 cases f:listOf? H v with
 | none=>rw[f] at h;injection h
 | some l =>
  rw[f] at h;refine Ah (aY.mp h) fun b m d=>?_;subst d;refine Ah (Zcb m) fun B g d=>?_;subst g;subst d;obtain⟨a,c,rfl,f,k⟩:=Gw I V f;have t:a<s.heap.objs.size:=by refine Ah f fun _ e _=>?_;exact bX e
  refine call_all_walk (fI f ?_)
  refine⟨s.heap.objs.size,[s.heap.objs.size,a],[s.heap.objs.size],c.size,_,_,fun i=>(B[i]?).getD true,rfl,mV (A:=A.in1) n _ a (bV t) c,
   ⟨⟨_,bC _ rfl,rfl,rfl⟩,f.push _⟩,fun i v S u q P j=>?_,fun y T o=>?_⟩
  .refine Ah (Zcc k i v (by simpa using P)) fun b e d=>?_;subst d;simp only[e,Option.getD_some] at j;exact cN j
  .have e:((eT c.size).all fun i=>(B[i]?).getD true)=B.all id:=by
    (refine BE aR (Ac k.length ?_);rw[aK]);exact Zcd B
   exact Ac e (p _ _ _ (I.keeps T (Zce o)) (.bool _))
theorem PZ(I:B7 C β s.heap H){x:aC}{v r:AV}(V:VR C β s.heap x v)(h:LY v=some r)(p:AE C Bv (VR C) β s (.ok r H) Q E):wpAny (model C.prog C.w) A (call (.type "int") [x]) Q E s:=by
 cases v with
 | bool b =>
  obtain rfl:=inj h;have e:=V.inv
  cases e
  exact call_int_bool (p _ _ _ (I.toks _) (.int _ _))
 | _=>injection h
theorem Qa(I:B7 C β s.heap H){x:aC}{v r:AV}(V:VR C β s.heap x v)(h:LZ v=some r)(p:AE C Bv (VR C) β s (.ok r H) Q E):wpAny (model C.prog C.w) A (call (.type "str") [x]) Q E s:=D5 h fun i e g=>B9 g fun c g=>by
 subst e;obtain rfl:=inj g;refine aD V.inv fun t a=>?_;subst a;refine PySem.P.str_of_int ?_ (p _ _ _ (I.toks _) (.str _ _))
 by_cases b:i.natAbs=0
 .rw[b];decide
 .have:=(mO b).mpr c;exact aZ (by assumption) (Al rfl)
theorem Zcl{v r:AV}(h:Ec H v=some r):(∃ l:List AV,(listOf? H v=some l\/v=.tup l)/\l.length<=1048576/\r=.lst l)\/∃ b,v=.rng b/\(-1048576<=b/\b<=1048576)/\r=.lst (BP b):=by
 have key:∀ {l:List AV} {o:Option (List AV)},(o=some l\/v=.tup l)->(if l.length<=1048576 then some (AV.lst l) else none)=some r->∃ l:List AV,(o=some l\/v=.tup l)/\l.length<=1048576/\r=.lst l:=fun e h=>B9 h fun c h=>⟨_,e,c,(inj h).symm⟩;have K:(listOf? H v).bind (fun l=>if l.length<=1048576 then some (AV.lst l) else none)=some r->∃ l:List AV,(listOf? H v=some l\/v=.tup l)/\l.length<=1048576/\r=.lst l:=fun h=>Bf h fun l e h=>key (.inl e) h
 revert h key K
 exact @AV.casesOn (fun v=>Ec H v=some r->(∀ {l:List AV} {o:Option (List AV)},(o=some l\/v=.tup l)->(if l.length<=1048576 then some (AV.lst l) else none)=some r->∃ l:List AV,(o=some l\/v=.tup l)/\l.length<=1048576/\r=.lst l)->((listOf? H v).bind (fun l=>if l.length<=1048576 then some (AV.lst l) else none)=some r->∃ l:List AV,(listOf? H v=some l\/v=.tup l)/\l.length<=1048576/\r=.lst l)->(∃ l:List AV,(listOf? H v=some l\/v=.tup l)/\l.length<=1048576/\r=.lst l)\/∃ b,v=.rng b/\(-1048576<=b/\b<=1048576)/\r=.lst (BP b)) v
  (fun h _ k=>.inl (k h)) (fun _ h _ k=>.inl (k h)) (fun _ h _ k=>.inl (k h)) (fun _ h _ k=>.inl (k h)) (fun _ h k _=>.inl (k (.inr rfl) h)) (fun _ h _ k=>.inl (k h)) (fun _ h _ k=>.inl (k h)) (fun b h _ _=>B9 h fun a h=>.inr ⟨b,rfl,a,(inj h).symm⟩) (fun _ h _ k=>.inl (k h)) (fun _ h _ k=>.inl (k h)) (fun _ h _ k=>.inl (k h)) (fun _ _ h _ k=>.inl (k h)) (fun _ h _ k=>.inl (k h))
theorem Zcm(I:B7 C β s.heap H)(J:A.handled=none){x:aC}{v r:AV}(V:VR C β s.heap x v)(h:Ec H v=some r)(u:AE C Bv (VR C) β s (.ok r H) Q E):wpAny (model C.prog C.w) A (call (.type "list") [x]) Q E s:=by
 rcases Zcl h with ⟨l,K,L,rfl⟩|⟨b,rfl,q,rfl⟩
 .refine PM (IC I V K) fun a T o i m j D M F G y=>?_;subst j;have d:=y.length;rw[aR] at d;refine call_list_seq a D M F G (fun B z k c=>?_) (by refine Ac d ?_;exact al L (Al rfl));have f:=I.keeps s.toks k;exact u _ _ _ f (.lst (items:=i) ⟨_,c,rfl,_,rfl⟩ I.new_notin (y.mono f.grow))
 .refine Dp V.inv fun a _ _ _ g p _=>?_;subst g;refine call_list_range (n:=b.toNat) J p (Zcg q) (Zcf b) (al (PI (a:=1048576) q.2) (Al rfl)) (fun B N e z k c t=>?_);have f:=I.keeps N k;exact u _ _ _ f (.lst (items:=e) ⟨_,c,rfl,_,rfl⟩ I.new_notin (Zci t))
theorem Zcn(I:B7 C β s.heap H){x:aC}{v r:AV}(V:VR C β s.heap x v)(h:Hq H v=some r)(p:AE C Bv (VR C) β s (.ok r H) Q E):wpAny (model C.prog C.w) A (call (.type "tuple") [x]) Q E s:=Bf h fun l c h=>B9 h fun d h=>by
 obtain rfl:=inj h;refine B2 (Gw I V c) fun a i e c g=>?_;subst e;have n:=g.length;rw[aR] at n;refine call_tuple_list c (fun j k=>?_) (by refine Ac n ?_;exact al d (Al rfl));have f:=I.keeps s.toks k;have b:=f.inv.push (s:={ s with heap:=j }) { cls:=.type "tuple",data:=.seq i } s.toks;exact p _ _ _ (f.trans b) (.tup (items:=i) ⟨_,bC _ rfl,rfl,_,rfl⟩ f.inv.new_notin ((g.mono f.grow).mono b.grow))
noncomputable def BI.cool:BI->Bool
 | .all=>false
 | .list=>false
 | _=>true
theorem Zco(I:B7 C β s.heap H){k:BI}(g:k.cool=false->A.handled=none){xs:List aC}{vs:List AV}(V:Bg C β s.heap xs vs)
  (p:AE C Bv (VR C) β s (DZ H (BK H k vs)) Q E):wpAny (model C.prog C.w) A (call k.val xs) Q E s:=by
 refine Ah (GP p) fun r h q=>?_;clear p
 match vs,V,h with
 | [],_,h=>injection h
 | [v],V,h =>
   refine Ah V.one_inv fun x d a=>?_;subst d
   cases k
   case len=>exact PX I a h q
   case range=>exact Zck I a h q
   case all=>exact PY I (g rfl) a h q
   case int=>exact PZ I a h q
   case list=>exact Zcm I (g rfl) a h q
   case tuple=>exact Zcn I a h q
   case str=>exact Qa I a h q
   all_goals injection h
 | _::u::_::_,_,h=>cases u<;>injection h
 | [v,u],V,h =>
    refine B2 V.two_inv fun x y e a b=>?_;subst e
    cases u with
    | bi t =>
     have e:=b.inv
     cases e
     cases k
     case isinstance =>
      refine Ah (aY.mp (show (Er H v t).map AV.bool=some r from h)) fun c i f=>?_;subst f;exact PW I a i fun T=>q _ _ _ (I.toks T) (.bool c)
     all_goals injection h
    | _=>injection h
end
end Mine
namespace Mine
open PySem PyProof.Rows PySem.Calls PySem.SeqAt
def Vi(C:Cx)(β:List aF)(h:aX):mF->Fl->Prop
 | .next,.next=>True
 | .ret x,.ret v=>VR C β h x v
 | _,_=>False
def FR(C:Cx)(S:AN)(e:f3)(β:List aF)(h:aX)(f:mF)(p:Fl×AW):Prop:=Vi C β h f p.1/\ER C S e β h p.2
def D9(A:bY)(e:f3):Prop:=(∀ x,e.kindOf x≠some .free)/\∃ outer,A.frames=some (e::outer)
structure SS(C:Cx)(n:Nat)(S:AN)(st:eJ)(d:DS):Prop where
 go:∀ A env σ H β s Q E,D9 A env->DO C n A S env β s σ H->AE C (CL env) (FR C S env) β s (d σ H) Q E->wpAny (model C.prog C.w) A (exec st env) Q E s
structure EH(C:Cx)(n:Nat)(S:AN)(sts:List eJ)(d:DS):Prop where
 go:∀ A env σ H β s Q E,D9 A env->DO C n A S env β s σ H->AE C (CL env) (FR C S env) β s (d σ H) Q E->wpAny (model C.prog C.w) A (execs sts env) Q E s
section
variable {C:Cx}{n:Nat}{S:AN}{env:f3}{β β':List aF}{s s':aE}{σ σ':AW}{H H':AH}{A:bY}{Q:mF->aE->Prop}{E:aC->aE->Prop}{mg mb:aW->Option aC}
theorem Fi.monoS{h h':aX}(K:Fi C A β h)(g:BS (CL env) β h β' h')(e:ER C S env β h σ)(E:ER C S env β' h' σ'):Fi C A β' h':=by
 refine Ah K fun l c k=>⟨l,c,fun x b=>(k x b).mono g fun q=>?_⟩
 rcases q with q|⟨z,hz⟩
 .refine Ac q ?_;exact Ah E.vars fun m f _=>⟨m,f⟩
 .refine Dp ((k x b).ns) fun m o s p i d _=>?_;obtain⟨⟨v,O,a,H⟩,_⟩:=e.cell z _ hz;rw[i] at a;obtain rfl:=inj a;rw[d] at H;injection H
theorem DO.afterS(p:DO C n A S env β s σ H)(a:Au C (CL env) β s β' s' H')(e:ER C S env β' s'.heap σ'):DO C n A S env β' s' σ' H' :=
 ⟨a.inv,e,p.room,p.calm,p.stk.monoS a.grow p.env e,p.ne⟩
theorem DO.own(p:DO C n A S env β s σ H):∀ a,CL env a->a∉β/\∃ o,s.heap.get? a=some o/\Cs o:=p.env.own
theorem EH.nil:EH C n S [] AC:=by
 refine⟨fun A e b H a s Q E F P h=>?_⟩;exact eD (h _ s a ((Au.refl P.inv).weaken P.own) ⟨trivial,P.env⟩)
theorem EH.cons{st:eJ}{d:List eJ}{a b:DS}(h:SS C n S st a)(r:EH C n S d b):EH C n S (st::d) (Ai a b):=by
 refine⟨fun A c w H u s Q E F P t=>?_⟩;refine iW (bJ (h.go A c w H u s _ E F P (AE.bind t)) ?_ fun _ _ e=>e);intro f k Z;refine Dl Z fun q p o _ l j m=>?_;obtain⟨fl,z⟩:=q;refine AX j fun i g=>?_
 cases fl with
 | next =>
  cases f with
  | next=>exact r.go A c z p o k Q E F (P.afterS l g) m
  | _=>exact i.elim
 | ret v =>
  cases f with
  | ret x=>exact m _ k o ((Au.refl l.inv).weaken g.own) ⟨i,g⟩
  | _=>exact i.elim
theorem EH.one{st:eJ}{a:DS}(h:SS C n S st a):EH C n S [st] a:=by
 refine⟨fun A e g H k s Q E F P b=>?_⟩;refine iW (h.go A e g H k s _ E F P ?_)
 cases d:a g H with
 | ok p K =>
  rw[d] at b;intro f j c i r;have q:=b f j c i r
  cases f with
  | next=>exact eD q
  | _=>exact q
 | err _ _=>rw[d] at b;exact b
 | bad=>rw[d] at b;exact b
theorem SS.ret{e:Expr}{pos:dc}{a:DE}(h:SE C n S e a):SS C n S (.Return (some e) pos) (Av a):=by
 refine⟨fun A b k H f s Q E F P p=>?_⟩;refine wpAny_Return_some (AE.thenE P.own p (fun _ d=>h.go A b k H f s _ E P d) ?_);intro x c v l j _ g V i;exact i _ c j ((Au.refl g.inv).weaken (P.after g).own) ⟨V,(P.after g).env⟩
theorem SS.ifs{t:Expr}{b o:List eJ}{pos:dc}{c:DT}{x y:DS}(l:ST C n S t c)(hb:EH C n S b x)(k:EH C n S o y):SS C n S (.If t b o pos) (Bo c x y):=by
 refine⟨fun A e a H m s Q E F P p=>?_⟩;refine wpAny_If (AE.thenE P.own p (fun _ h=>l.go A e a H m s _ E P h) ?_);intro B f v d j _ g V i
 cases V
 cases B with
 | true=>exact hb.go A e a d j f Q E F (P.after g) i
 | false=>exact k.go A e a d j f Q E F (P.after g) i
theorem SS.expr{e:Expr}{pos:dc}{a:DE}(h:SE C n S e a)(d:∀ b,dR e none pos.line b=pure false):SS C n S (.Expr e pos) (Bj a):=by
 refine⟨fun A b k H f s Q E F P p=>?_⟩;refine wpAny_Expr_any (bJ (h.go A b k H f s _ E P (AE.bindE P.own p)) ?_ fun _ _ e=>e) ?_ (d b)
 .intro x c Z;exact Dl Z fun v l j _ g V i=>i _ c j ((Au.refl g.inv).weaken (P.after g).own) ⟨trivial,(P.after g).env⟩
 .unfold interactive;simp[P.env.kind]
theorem B7.ownStore{h':aX}{a:aF}(I:B7 C β s.heap H)(e:ER C S env β s.heap σ)(m:CL env a)(k:dZ a s.heap h')(v:∃ o,h'.get? a=some o/\Cs o/\(Dk s.heap a->∃ l E,o.data=.dict l E))(tk:Nat) :
  Au C (CL env) β s β { s with heap:=h',toks:=tk } H:=by
 have p:a∉β:=(e.own a m).1
 have n:C.base.get? a=none:=by
  rcases m with rfl|⟨x,t⟩
  .exact e.locB
  .exact (e.cell x a t).2.2.1
 have g:BS (CL env) β s.heap β h':=⟨⟨⟨[],by simp,fun _ h=>nomatch h⟩,fun b o w _ t=>⟨o,by refine Ac (k.2 b (fun q=>t (q▸m))) ?_;exact w,.refl _⟩,fun b d=>(e.own b d).2⟩,fun b d=>by
  by_cases q:b=a
  .refine Ac q ?_;exact Bu v fun o c j u=>⟨o,c,j,u⟩
  .refine Ac (k.2 b q) ?_;refine Ah ((e.own b d).2) fun o c j=>?_;exact⟨o,c,j,fun ⟨O,l,E,Q,y⟩=>by rw[c] at Q;obtain rfl:=inj Q;exact⟨l,E,y⟩⟩⟩
 refine⟨g,⟨I.len,I.nodup,fun i b A c j=>?_,fun b o d=>?_,I.fresh⟩,h',tk,rfl⟩
 .have f:b≠a:=fun q=>p (q▸aV c);exact (I.obj i b A c j).keep g.toGrow0 fun _ r=>by refine Ac (k.2 b f) ?_;exact r
 .have f:b≠a:=fun q=>by rw[q,n] at d;injection d
  exact Ac (k.2 b f) (I.base b o d)
theorem Qb{x:aW}{i:Nat}{y:aC}{v:AV}{Q:Unit->aE->Prop}(I:B7 C β s.heap H)(e:ER C S env β s.heap σ)(P:S.Γ.lookup x=some i)(hk:env.kindOf x≠some .free)(vx:VR C β s.heap y v)
  (hq:∀ X,Au C (CL env) β s β X H->ER C S env β X.heap (AM σ i v)->Q () X):wpAny (model C.prog C.w) A (storeName env x y) Q E s:=by
 refine Ah e.vars fun m hm V=>?_;have t:∀ {z:aW} {j:Nat},z≠x->S.Γ.lookup z=some j->j≠i:=fun q hz W=>q (e.slots _ x i (by refine BE W ?_;exact hz) P)
 rcases V x i P with ⟨Z,r⟩|⟨F,c,w,l,M,r⟩
 .refine jF Z hm (fun D G u=>?_) (by refine Ac e.kind ?_;rfl);have p:=I.ownStore e (.inl rfl) u (by refine Do G fun o K J f g _=>?_;exact⟨o,f,.inl ⟨K,J,g⟩,fun _=>⟨K,J,g⟩⟩) (s.toks+1);refine hq _ p ⟨e.kind,e.globals,e.builtins,e.notL,e.locB,e.glo,e.cap,e.loc,fun z c hz=>?_,e.apart,e.slots,_,G,fun z j hz=>?_⟩
  .refine F3 (e.cell z c hz) fun B N O L=>?_;exact Cg B fun w o f g=>⟨⟨w,o,by show D.get? c=_;refine Ac (u.2 c L) ?_;exact f,g⟩,N,O,L⟩
  .rcases V z j hz with ⟨n,R⟩|⟨d,b,Y,a,k,R⟩
   .refine .inl ⟨n,?_⟩
    by_cases q:z=x
    .subst q;rw[P] at hz;obtain rfl:=inj hz
     (rewrite [C2];refine Ac (if_pos rfl) ?_)
     exact⟨y,rfl,vx.mono p.grow⟩
    .refine Ac (if_neg q) (Ac (E6 _ _ (t q hz)) ?_);exact R.mono p.grow
   .have q:z≠x:=fun q=>by subst q;rw[Z] at d;rcases d with h|h<;>cases h
    refine .inr ⟨d,b,Y,a,?_,?_⟩
    .refine Ah k fun o f g=>?_;exact⟨o,by show D.get? b=_;refine Ac (u.2 b (e.cell z b a).2.2.2) ?_;exact f,g⟩
    .refine Ac (E6 _ _ (t q hz)) ?_;exact R.mono p.grow
 .rcases F with F|F
  .refine wpAny_storeName_cell e.kind F l M fun D G u=>?_;have T:=(e.cell x c l).2.2.2;have p:=I.ownStore e (.inr ⟨x,l⟩) u (by refine Ah G fun o f g=>?_;exact⟨o,f,.inr (.inl ⟨_,g⟩),fun ⟨a9,K,J,q1,q2⟩=>by refine Ah M fun bn q3 q4=>?_;rw[q3] at q1;obtain rfl:=inj q1;rw[q4] at q2;injection q2⟩) s.toks
   have U:D.Ns env.locals m:=by
    exact Gg hm fun o K J f hr=>⟨o,K,J,by refine Ac (u.2 _ (ct T)) ?_;exact f,hr⟩
   refine hq _ p ⟨e.kind,e.globals,e.builtins,e.notL,e.locB,e.glo,e.cap,e.loc,fun z b hz=>?_,e.apart,e.slots,m,U,fun z j hz=>?_⟩
   .refine F3 (e.cell z b hz) fun B N O L=>?_;refine Cg B fun w o f g=>?_
    by_cases q:b=c
    .subst q;exact⟨⟨_,G⟩,N,O,L⟩
    .exact⟨⟨w,o,by show D.get? b=_;refine Ac (u.2 b q) ?_;exact f,g⟩,N,O,L⟩
   .rcases V z j hz with ⟨n,R⟩|⟨d,b,Y,a,k,R⟩
    .have q:z≠x:=fun q=>by subst q;rw[F] at n;cases n
     exact Ac (E6 _ _ (t q hz)) (.inl ⟨n,R.mono p.grow⟩)
    .by_cases q:z=x
     .subst q;rw[P] at hz;obtain rfl:=inj hz;rw[l] at a;obtain rfl:=inj a;rw[C2];exact .inr ⟨d,c,_,l,G,y,rfl,vx.mono p.grow⟩
     .refine Ac (E6 _ _ (t q hz)) ?_;refine .inr ⟨d,b,Y,a,?_,R.mono p.grow⟩;exact Ah k fun o f g=>⟨o,by show D.get? b=_;refine Ac (u.2 b (fun W=>q (e.apart z x c (W▸a) l))) ?_;exact f,g⟩
  .exact absurd F hk
theorem SS.asg{x:aW}{p:dc}{e:Expr}{pos:dc}{i:Nat}{a:DE}(h:SE C n S e a)(m:S.Γ.lookup x=some i)(l:∀ b,dR e (some (.Name x p)) pos.line b=pure false):SS C n S (.Assign [.Name x p] e pos) (AG i a):=by
 refine⟨fun A b t H q s Q E F P k=>?_⟩;refine k6 (AE.thenE P.own k (fun _ d=>h.go A b t H q s _ E P d) ?_) (l b);intro y w v u j _ g V c;exact Qb g.inv (P.after g).env m (F.1 x) V fun o f r=>c _ o j f ⟨trivial,r⟩
end
end Mine
namespace Mine
open PySem PyProof.Rows PySem.Calls PySem.SeqAt
section
variable {C:Cx}{n:Nat}{S:AN}{env:f3}{β β':List aF}{s s':aE}{σ σ':AW}{H H':AH}{A:bY}{E:aC->aE->Prop}{mg mb:aW->Option aC}
structure Fs(C:Cx)(A:bY)(β:List aF)(h:aX)(src:AH->Option (List AV))(I:aF)(fp:List aF)(St:Nat->aX->Prop):Prop where
 item:∀ i (s:aE) (X:aF->Prop) β' H l d (Q:Option aC->aE->Prop) (E:aC->aE->Prop),B7 C β' s.heap H->BS X β h β' s.heap->St i s.heap->src H=some l->l[i]?=some d ->
  (∀ v h' tk,VR C β' s.heap v d->St (i+1) h'->(∀ b o,b∉[I]->s.heap.get? b=some o->h'.get? b=some o)->Q (some v) { s with heap:=h',toks:=tk })->wpAny (model C.prog C.w) A (pyNext (.ref I)) Q E s
 done:∀ i (s:aE) (X:aF->Prop) β' H l (Q:Option aC->aE->Prop) (E:aC->aE->Prop),B7 C β' s.heap H->BS X β h β' s.heap->St i s.heap->src H=some l->l.length=i ->
  (∀ h' tk,(∀ b o,b∉[I]->s.heap.get? b=some o->h'.get? b=some o)->Q none { s with heap:=h',toks:=tk })->wpAny (model C.prog C.w) A (pyNext (.ref I)) Q E s
 self:∀ i (s:aE) (Q:aC->aE->Prop) (E:aC->aE->Prop),St i s.heap->Q (.ref I) s->wpAny (model C.prog C.w) A (pyIter (.ref I)) Q E s
 frame:∀ i h h',St i h->(∀ b∈fp,∀ o,h.get? b=some o->h'.get? b=some o)->St i h'
 new:h.get? I=none
 foot:∀ b∈fp,b≠I->b∉β/\(∃ o,h.get? b=some o)/\∀ i h' o,St i h'->h'.get? b=some o->∃ vs m,o.data=.seq vs m
 obj:∀ i h',St i h'->∃ o T,h'.get? I=some o/\o.cls=.type T/\(∃ vs,o.data=.fields vs)/\T∈["list_iterator","tuple_iterator","range_iterator"]
theorem Fs.of{β:List aF}{h:aX}{l:List AV}{J:aF}{f:List aF}{P:Nat->aC->Prop}{St:Nat->aX->Prop}(W:Walks C.prog C.w A J f [J] l.length P St)(new:h.get? J=none)(V:∀ i v d,P i v->l[i]?=some d->VR C β h v d)
  (foot:∀ b∈f,b≠J->b∉β/\(∃ o,h.get? b=some o)/\∀ i h' o,St i h'->h'.get? b=some o->∃ vs m,o.data=.seq vs m)
  (obj:∀ i h',St i h'->∃ o T,h'.get? J=some o/\o.cls=.type T/\(∃ vs,o.data=.fields vs)/\T∈["list_iterator","tuple_iterator","range_iterator"]):Fs C A β h (fun _=>some l) J f St where
 item:=fun i s X c H L d Q E _ g st a e q=>by
  obtain rfl:=inj a;exact W.item i s Q E (Bm e) st fun v h' t j S n=>q v h' t ((V i v d j e).mono g) S n
 done:=fun i s X c H L Q E _ g st a k q=>by
  obtain rfl:=inj a;subst k;exact W.done s Q E st q
 self:=W.self
 frame:=W.frame
 new:=new
 foot:=foot
 obj:=obj
theorem Zcq{x:aC}{v:AV}{l:List AV}{Q:aC->aE->Prop}(I:B7 C β s.heap H)(U:A.handled=none)(vx:VR C β s.heap x v)(D:iter? v=some l)
  (W:∀ J Z St P,Au C Bv β s β P H->Fs C A β s.heap (fun _=>some l) J Z St->St 0 P.heap->J∉β->Q (.ref J) P):wpAny (model C.prog C.w) A (pyIter x) Q E s:=by
 have g:s.heap.get? s.heap.objs.size=none:=by
  cases q:s.heap.get? s.heap.objs.size with
  | none=>rfl
  | some Y=>exact absurd (bX q) (dj _)
 cases vx with
 | @tup a e l' k O M =>
  obtain rfl:=inj D;have h:=M.length;rw[aR] at h;have z:a≠s.heap.objs.size:=by refine Ah k fun o c _=>?_;exact bV (bX c)
  refine wpAny_pyIter_tuple k ?_;have F:=I.push (s:=s) { cls:=.type "tuple_iterator",data:=.fields #[.ref a,.int 0 0] } s.toks;refine W _ _ _ _ F (Fs.of (h▸Walks.tuple U s.heap.objs.size a z e) g (fun i v d G n=>?_) (fun b p f=>?_) (fun i N st=>?_)) ⟨⟨_,bC _ rfl,rfl,rfl⟩,?_⟩ I.new_notin
  .refine Ah (M.get n) fun v' K S=>?_;rw[jG,G] at K;obtain rfl:=inj K;exact S
  .simp only[aU,bf,or_false] at p
   rcases p with rfl|rfl
   .exact absurd rfl f
   .exact⟨O,(by refine Ah k fun o c _=>?_;exact⟨o,c⟩),fun i N o st c=>by refine Iu st fun _ Y j _ m y=>?_;rw[c] at j;obtain rfl:=inj j;exact⟨_,m,y⟩⟩
  .refine AX st fun B _=>?_;obtain⟨o,c,T,y⟩:=B;exact⟨o,_,c,T,⟨_,y⟩,by simp⟩
  .refine Ah k fun o c r=>?_;exact⟨o,aP _ c,r⟩
 | @lst a e l' k O M =>
  obtain rfl:=inj D;have h:=M.length;rw[aR] at h;have z:a≠s.heap.objs.size:=by refine Ah k fun o c _=>?_;exact bV (bX c)
  refine fI k ?_;have F:=I.push (s:=s) { cls:=.type "list_iterator",data:=.fields #[.ref a,.int 0 0] } s.toks;refine W _ _ _ _ F (Fs.of (h▸mV U s.heap.objs.size a z e) g (fun i v d G n=>?_) (fun b p f=>?_) (fun i N st=>?_)) ⟨⟨_,bC _ rfl,rfl,rfl⟩,?_⟩ I.new_notin
  .refine Ah (M.get n) fun v' K S=>?_;rw[jG,G] at K;obtain rfl:=inj K;exact S
  .simp only[aU,bf,or_false] at p
   rcases p with rfl|rfl
   .exact absurd rfl f
   .exact⟨O,(by refine Ah k fun o c _=>?_;exact⟨o,c⟩),fun i N o st c=>by refine Iu st fun _ Y j _ m y=>?_;rw[c] at j;obtain rfl:=inj j;exact⟨_,m,y⟩⟩
  .refine AX st fun B _=>?_;obtain⟨o,c,T,y⟩:=B;exact⟨o,_,c,T,⟨_,y⟩,by simp⟩
  .refine Ah k fun o c r=>?_;exact⟨o,aP _ c,r⟩
 | @rng a b t u w hr O =>
  refine B9 (show (if -1048576<=b/\b<=1048576 then some (BP b) else none)=some l from D) fun p V=>?_
  .obtain rfl:=inj V;have X:=Zcf b;refine wpAny_pyIter_range hr (Zcg p) ?_;have F:=I.push (s:=s) { cls:=.type "range_iterator",data:=.fields #[rawInt 0,rawInt (iV 0 b 1),rawInt 1] } s.toks;have h:(BP b).length=b.toNat:=by simp[BP]
   refine W _ _ _ _ F (Fs.of (Walks.range U s.heap.objs.size 0 1 (BP b).length) g (fun i v d G n=>?_) (fun b' L f=>?_) (fun i N st=>?_)) ?_ I.new_notin
   .refine aD G fun t R=>?_;subst R;have D:i<b.toNat:=by have:=(Bm n);simpa [BP] using this
    simp[BP,D] at n;subst n;have:(0:Int)+(i:Int)*1=(i:Int):=by exact TI
    exact Ac this (.int _ _)
   .simp only[aU,bf,or_false] at L;exact absurd L f
   .exact⟨_,_,st,rfl,⟨_,rfl⟩,by simp⟩
   .show IsRangeIter _ _ _ _ _;refine Ac h (Ac (show ((0:Int)+((0:Nat):Int)*1)=0 by simp) (Ac (show ((b.toNat:Int)-((0:Nat):Int))=(b.toNat:Int) by simp) (BE X ?_)));exact bC _ rfl
 | _=>injection D
theorem Zcr{x:aC}{k:Nat}{l:List AV}{Q:aC->aE->Prop}(I:B7 C β s.heap H)(hh:A.handled=none)(W:VR C β s.heap x (.ref k))(hl:listOf? H (.ref k)=some l)
  (B:∀ J fp St F,Au C Bv β s β F H->Fs C A β s.heap (fun H=>listOf? H (.ref k)) J fp St->St 0 F.heap->J∉β->Q (.ref J) F):wpAny (model C.prog C.w) A (pyIter x) Q E s:=by
 have z:s.heap.get? s.heap.objs.size=none:=by
  cases q:s.heap.get? s.heap.objs.size with
  | none=>rfl
  | some o'=>exact absurd (bX q) (dj _)
 refine B2 (Gw I W hl) fun a T G U hv=>?_;subst G
 have y:β[k]?=some a:=by
  refine Ah (VR.inv W) fun _ e9 h=>?_
  cases e9
  exact h
 have hne:a≠s.heap.objs.size:=by refine Ah U fun o N _=>?_;exact bV (bX N)
 refine fI U ?_;have af:=I.push (s:=s) { cls:=.type "list_iterator",data:=.fields #[.ref a,.int 0 0] } s.toks;refine B _ [s.heap.objs.size] (fun i h=>h.IsListIter s.heap.objs.size a i) _ af ⟨?_,?_,?_,?_,z,?_,?_⟩ ⟨_,bC _ rfl,rfl,rfl⟩ I.new_notin
 .intro i S X p Y l' d Q E D g st f L B;have V:VR C p S.heap (.ref a) (.ref k):=(VR.ref y).mono g;refine B2 (Gw D V f) fun Z c e j m=>?_
  cases e
  exact Ah (m.get L) fun v P R=>jr st j (x:=v) (by simpa using P) fun t u O=>B v t S.toks R u fun b o r e=>O.extBut b o (fun h=>r (by simp[h])) e
 .intro i S X p Y l' Q E D g st f hi B;have V:VR C p S.heap (.ref a) (.ref k):=(VR.ref y).mono g;refine B2 (Gw D V f) fun Z c e j m=>?_
  cases e
  have n:=m.length;rw[aR] at n;exact jH hh st j (by simp;exact Z1x hi n) fun t M=>B t S.toks fun b o r e=>M b o (fun h=>r (by simp[h])) e
 .intro i S Q E st hQ;exact wpAny_pyIter_listiter st hQ
 .intro i h t st hk;exact st.at fun o e=>hk _ (by simp) o e
 .intro b r K;simp only[aU,bf,or_false] at r;exact absurd r K
 .intro i t st;exact Bu st fun o N hc L=>⟨o,_,N,hc,⟨_,L⟩,by simp⟩
theorem Fs.grow{src:AH->Option (List AV)}{J:aF}{F:List aF}{St:Nat->aX->Prop}{B h h':aX}{w:List aF}{i j:Nat}(T:Fs C A w B src J F St)(g:St i h)(l:St j h')(m:∀ b o,b∉[J]->h.get? b=some o->h'.get? b=some o) :
  BS (fun a=>a=J) β h β h':=by
 have s:∀ {i h},St i h->∃ o,h.get? J=some o/\Cs o:=fun st=>by
  refine BJ (T.obj _ _ st) fun o t H e q c=>aD q fun v f=>⟨o,H,.inr (.inr ⟨v,f,?_,t,e⟩)⟩;refine Ac e ?_;simp only[aU,bf,or_false] at c
  rcases c with rfl|rfl|rfl<;>decide
 exact⟨⟨⟨[],by simp,fun _ h=>nomatch h⟩,fun a o H _ x=>⟨o,m a o (by simpa using x) H,.refl _⟩,fun a d=>by refine Ac d ?_;exact s g⟩,fun a d=>by
  refine Ac d (Ah (s l) fun o H n=>BJ (T.obj _ _ g) fun p t D e q c=>aD q fun v f=>?_);exact⟨o,H,n,fun ⟨r,u,E,Q,k⟩=>by rw[D] at Q;obtain rfl:=inj Q;rw[f] at k;injection k⟩⟩
theorem Fs.grow0{src:AH->Option (List AV)}{J:aF}{f:List aF}{St:Nat->aX->Prop}{B h h':aX}{c:List aF}{i:Nat}(T:Fs C A c B src J f St)(H:St i h)(k:∀ b o,b∉[J]->h.get? b=some o->h'.get? b=some o) :
  Grow0 (fun a=>a=J) β h β h' :=
 ⟨⟨[],by simp,fun _ h=>nomatch h⟩,fun a o g _ x=>⟨o,k a o (by simpa using x) g,.refl _⟩,fun a d=>by refine Ac d ?_;exact (T.grow (β:=β) H H fun _ _ _ e=>e).xs J rfl⟩
theorem B7.grow{X:aF->Prop}{h h':aX}(I:B7 C β h H)(g:Grow0 X β h β h')(hb:∀ a∈β,∀ o,h.get? a=some o->h'.get? a=some o)(b:∀ a o,C.base.get? a=some o->h.get? a=some o->h'.get? a=some o):B7 C β h' H :=
 ⟨I.len,I.nodup,fun i a A c d=>(I.obj i a A c d).keep g (hb a (aV c)),fun a o e=>b a o e (I.base a o e),I.fresh⟩
def TG(C:Cx)(S:AN)(e:Expr)(t:Tg):Prop :=
 ∀ (A:bY) (a:f3) (σ σ':AW) (H:AH) (β:List aF) (s:aE) (y:aC) (v:AV) (Q:Unit->aE->Prop) (E:aC->aE->Prop),A.handled=none->D9 A a->B7 C β s.heap H->ER C S a β s.heap σ->VR C β s.heap y v->t.bind v σ=some σ' ->
  (∀ b,Au C (CL a) β s β b H->ER C S a β b.heap σ'->Q () b)->wpAny (model C.prog C.w) A (assign e a y) Q E s
def LG(e:Expr):Prop:=∀ (prog:cB) (w:eL) (A:bY) (J:aF) (y:aC) (s:aE) (Q:Unit->aE->Prop) (E:aC->aE->Prop),(∃ o T,s.heap.get? J=some o/\o.cls=.type T/\(∃ vs,o.data=.fields vs)/\T∈["list_iterator","tuple_iterator","range_iterator"])->Q () s ->
  wpAny (model prog w) A (lR e (.ref J) y) Q E s
theorem LG.name{x:aW}{p:dc}:LG (.Name x p):=fun _ _ _ _ _ _ _ _ _ h=>aH h
theorem LG.tuple{e:List Expr}{k:Nat}{p:dc}:LG (.Tuple e k p):=by
 intro P w A J y s Q E b H;refine BJ b fun o T f c q h=>aD q fun v d=>?_;unfold lR
 cases y with
 | ref a =>
  refine aB (wpAny_load f ?_);refine Ac c (Ac d ?_);simp only[aU,bf,or_false] at h
  rcases h with rfl|rfl|rfl<;>exact aH H
 | _=>exact aH H
theorem TG.one{x:aW}{p:dc}{i:Nat}(a:S.Γ.lookup x=some i):TG C S (.Name x p) (.one i):=by
 try refine⟨?_⟩
 intro A e d b H c s y v Q E _ F I r V h q;obtain rfl:=inj h;exact eO (Qb I r a (F.1 x) V q)
theorem Au.poke{X:aF->Prop}{h':aX}{J:aF}{tk:Nat}(A:Au C X β s β' s' H')(g:Grow0 (fun a=>a=J) β' s'.heap β' h')(i:∀ b o,b∉[J]->s'.heap.get? b=some o->h'.get? b=some o)(l:s.heap.get? J=none)(d:J∉β')
  (B:C.base.get? J=none):Au C X β s β' { s' with heap:=h',toks:=tk } H':=by
 have j:¬ X J:=fun h=>by refine Ah (A.grow.xs J h) fun o H _=>?_;rw[l] at H;injection H
 have n:∀ {a},a≠J->a∉[J]:=fun h=>by simpa using h
 refine Ez A.same fun r t e=>⟨⟨⟨A.grow.ext,fun a o H p x=>?_,A.grow.xs⟩,fun a f=>?_⟩,?_,h',tk,by exact Ac e rfl⟩
 .refine Ah (A.grow.keep a o H p x) fun O c k=>?_;exact⟨O,i a O (n (fun q=>by rw[q,l] at H;injection H)) c,k⟩
 .refine Bu (A.grow.xlive a f) fun O c S N=>?_;exact⟨O,i a O (n (fun q=>j (q▸f))) c,S,N⟩
 .exact A.inv.grow g (fun a f o H=>i a o (n (fun q=>d (q▸f))) H) fun a o m H=>i a o (n (fun q=>by rw[q,B] at m;injection m)) H
theorem Fs.stays{X:aF->Prop}{src:AH->Option (List AV)}{J:aF}{f:List aF}{St:Nat->aX->Prop}{B h h':aX}{w j:List aF}{i:Nat}(T:Fs C A w B src J f St)(st:St i h)(g:Grow0 X β h j h')(n:¬ X J)(l:J∉β)
  (r:∀ b o,B.get? b=some o->b∉w->b∉β):St i h':=by
 refine T.frame i h h' st fun b p o a=>?_
 by_cases q:b=J
 .subst q;refine BJ (T.obj i h st) fun O t H _ c _=>aD c fun v d=>?_;rw[a] at H;obtain rfl:=inj H;exact g.fields a l d (.inr n)
 .refine GH (T.foot b p q) fun e Q k=>?_;exact aD Q fun O H=>Ez (k i h o st a) fun v m d=>g.seq a (r b O H e) d
structure LI(C:Cx)(S:AN)(env:f3)(β:List aF)(s:aE)(St:Nat->aX->Prop)(J:aF)(k:Nat)(σ':AW)(H':AH)(β':List aF)(s':aE):Prop where
 af:Au C (CL env) β s β' s' H'
 er:ER C S env β' s'.heap σ'
 st:St k s'.heap
 jn:J∉β'
theorem AE.to{b a:Type}{X:aF->Prop}{R:List aF->aX->b->a->Prop}{Q:b->aE->Prop}{r r':Rs a}(h:AE C X R β s r Q E)(e:r=r'):AE C X R β s r' Q E:=e▸h
theorem LI.turn{t:Tg}{b:DS}{src:AH->Option (List AV)}{J:aF}{F:List aF}{St:Nat->aX->Prop}{Q:mF->aE->Prop}{m k:Nat}{σ':AW}{g:AH}{j:List aF}{e:aE}{q:Option aC->aE->Prop}{x:aC->aE->Prop}(T:Fs C A β s.heap src J F St)(L:LI C S env β s St J k σ' g j e)
  (c:AE C (CL env) (FR C S env) β s (BF t b src m k σ' g) Q E)
  (i:∀ u d v h' tk z,m=u+1->t.bind d σ'=some z->VR C j e.heap v d->St (k+1) h'->(∀ b o,b∉[J]->e.heap.get? b=some o->h'.get? b=some o)->AE C (CL env) (FR C S env) β s ((b z g).bind fun p aa=>match p with
   | (.next,B)=>BF t b src u (k+1) B aa
   | (.ret w,B)=>.ok (.ret w,B) aa) Q E->q (some v) { e with heap:=h',toks:=tk })
  (D:∀ h' tk,(∀ b o,b∉[J]->e.heap.get? b=some o->h'.get? b=some o)->AE C (CL env) (FR C S env) β s (.ok (.next,σ') g) Q E->q none { e with heap:=h',toks:=tk }):wpAny (model C.prog C.w) A (pyNext (.ref J)) q x e:=by
 cases m with
 | zero=>exact c.elim
 | succ m =>
 cases h:src g with
 | none=>exact (c.to (Zav h)).elim
 | some l =>
 cases n:l[k]? with
 | some d =>
  have c:=c.to (Zaw h n)
  cases H:t.bind d σ' with
  | none=>exact (c.to (r':=.bad) (Ac H rfl)).elim
  | some z=>exact T.item k e _ _ _ _ d _ _ L.af.inv L.af.grow L.st h n fun v h' tk y r a=>i m d v h' tk z rfl H y r a (c.to (Ac H rfl))
 | none =>
  have c:=c.to (GL h n)
  by_cases f:l.length=k
  .exact T.done k e _ _ _ _ _ _ L.af.inv L.af.grow L.st h f fun h' tk a=>D h' tk a (c.to (if_pos f))
  .exact (c.to (if_neg f)).elim
theorem AE.two{l d i c:Type}{X g:aF->Prop}{R:List aF->aX->l->i->Prop}{f:List aF->aX->d->c->Prop}{b:List aF}{S:aE}{r:Rs i}{F:i->AH->Rs c}{Q:l->aE->Prop}{q:d->aE->Prop}{j:aC->aE->Prop}(h:AE C g f β s (r.bind F) q E)
  (K:∀ v aa,AE C g f β s (F v aa) q E->∀ x a A,Au C X b S A a aa->R A a.heap x v->Q x a)
  (k:∀ x aa,AE C g f β s (.err x aa) q E->∀ e a A,Au C X b S A a aa->XR C S.heap a.heap A aa e x->j e a):AE C X R b S r Q j:=by
 cases r with
 | ok v aa=>exact K v aa h
 | err x aa=>exact k x aa h
 | bad=>exact h
theorem Zcs{i:Expr}{t:Tg}{B:List eJ}{b:DS}{src:AH->Option (List AV)}{J:aF}{fp:List aF}{St:Nat->aX->Prop}{Q:mF->aE->Prop}
  (hS:S.calm=true) (ht:TG C S i t) (hlg:LG i) (hb:EH C n S B b) (F:D9 A env) (I:DO C n A S env β s σ H) {am:aE} (Z:Au C Bv β s β am H) (T:Fs C A β s.heap src J fp St) (N:Nat) (st:St 0 am.heap) (hJ:J∉β)
  (l:AE C (CL env) (FR C S env) β s (BF t b src N 0 σ H) Q E) :
  codeAny (model C.prog C.w) A (.forLoop i (.ref J) B [] env) (fun r W=>match r with|.ok f=>Q f W|.error e=>ky (model C.prog C.w) A env E e W) am:=by
 have u:¬ CL env J:=fun h=>by
  refine PN (I.own J h) fun _ o G _=>?_;rw[T.new] at G;injection G
 have R:=I.inv.noB J T.new
 refine codeAny_forLoop_any (fun m W=>∃ k z M j,LI C S env β s St J k z M j W/\AE C (CL env) (FR C S env) β s (BF t b src m k z M) Q E) ?_ N
  ⟨0,σ,H,β,⟨Z.weaken I.own,(I.after Z).env,st,hJ⟩,l⟩
 clear l;intro m W hZ;refine UQ hZ fun k z M j L l=>?_;clear hZ;refine L.turn T l (fun cc d v h' Y az em K hv X g l=>?_) fun h' Y g l=>?_
 .have P:=T.grow0 (β:=j) L.st g;have dh:=L.af.poke (tk:=Y) P g T.new L.jn R;refine hlg _ _ _ _ _ _ _ _ (T.obj _ _ X) (ht A env z az M j _ v d _ _ (I.calm hS) F dh.inv (L.er.mono' P fun a ha q=>u (q▸ha)) (hv.mono0 P) K fun a8 D dq=>?_);have eo:=T.stays X D.grow.toGrow0 u L.jn fun b o G hn=>dh.grow.notin G hn;have D:=dh.trans D;have gc:DO C n A S env j a8 az M:=I.afterS D dq;refine hb.go A env az M j a8 _ _ F gc (AE.two l (fun p ac l f bv cf O y=>?_) fun x ac l e bv cf O hx=>?_)
  .obtain⟨fl,bo⟩:=p;have bw:=D.trans O
   cases fl with
   | next =>
    cases f with
    | next=>exact⟨cc,em▸cp _,k+1,bo,ac,cf,⟨bw,y.2,T.stays eo O.grow.toGrow0 u L.jn fun b o G hn=>D.grow.notin G hn,by refine Cg (T.obj _ _ eo) fun o _ G _=>?_;exact O.grow.notin G L.jn⟩,l⟩
    | _=>exact y.1.elim
   | ret w =>
    cases f with
    | ret x=>exact l _ bv cf bw y
    | _=>exact y.1.elim
  .refine Do hx fun ea c fl eZ3 lk fly=>?_;subst eZ3;refine mae F fun _ outer U=>Ah gc.stk fun l' V kk=>?_;rw[U] at V;obtain rfl:=inj V;exact Zbh U kk O.grow I.inv.noB (D.trans O) (fly.older D.fresh) lk fun au Z ia=>l _ _ cf Z ia
 .have P:=T.grow0 (β:=j) L.st g;exact eD (l _ _ j (L.af.poke (tk:=Y) P g T.new L.jn R) ⟨trivial,L.er.mono' P fun a ha q=>u (q▸ha)⟩)
theorem SS.for_{a iter:Expr}{B:List eJ}{pos:dc}{t:Tg}{d:DE}{b:DS}(o:TG C S a t)(h:LG a)(w:SE C n S iter d)(hb:EH C n S B b)(c:S.calm=true)(z:∀ e x,c9 iter e x=pure x) :
  SS C n S (.For a iter B [] pos) (Da t d b):=by
 refine⟨fun A e G H D s Q E F P y=>?_⟩;refine wpAny_For (AE.thenE P.own y (fun _ u=>w.go A e G H D s _ E P u) ?_) (z e);intro x I v p K _ g V i
 cases m:iter? v with
 | none =>
  rw[m] at i;dsimp only at i
  cases v with
  | ref k =>
   dsimp only at i
   cases L:listOf? p (.ref k) with
   | none=>rw[Zav L] at i;exact i.elim
   | some l=>exact Zcr g.inv (P.calm c) V L fun J r St q f T st j=>Zcs c o h hb F (P.after g) f T 20000 st j i
  | _=>exact i.elim
 | some l =>
  rw[m] at i;dsimp only at i;exact Zcq g.inv (P.calm c) V m fun J r St q f T st j=>Zcs c o h hb F (P.after g) f T (l.length+1) st j i
theorem AE.twoB{g c d a:Type}{X f:aF->Prop}{R:List aF->aX->g->d->Prop}{e:List aF->aX->c->a->Prop}{b:List aF}{S:aE}{r:Rs d}{F:d->AH->Rs a}{Q:g->aE->Prop}{q:c->aE->Prop}{i:aC->aE->Prop}(h:AE C f e β s (r.bindB F) q E)
  (k:∀ v aa,AE C f e β s (F v aa) q E->∀ x A j,Au C X b S j A aa->R j A.heap x v->Q x A):AE C X R b S r Q i:=by
 cases r with
 | ok v aa=>exact k v aa h
 | err x aa=>exact h.elim
 | bad=>exact h
theorem Zct{t:Expr}{c:DT}{B:List eJ}{b:DS}{Q:mF->aE->Prop}(R:ST C n S t c)(hb:EH C n S B b)(F:D9 A env)(k:DO C n A S env β s σ H)(N:Nat)
  (h:AE C (CL env) (FR C S env) β s (UW c b N σ H) Q E) :
  codeAny (model C.prog C.w) A (.whileLoop t B [] env) (fun r i=>match r with|.ok f=>Q f i|.error e=>ky (model C.prog C.w) A env E e i) s:=by
 refine codeAny_whileLoop (fun m i=>∃ a j d,Au C (CL env) β s d i j/\ER C S env d i.heap a/\AE C (CL env) (FR C S env) β s (UW c b m a j) Q E) ?_ N ⟨σ,H,β,(Au.refl k.inv).weaken k.own,k.env,h⟩;clear h;intro m i Z;refine Do Z fun a j d u O h=>?_;clear Z;have P:DO C n A S env d i a j:=k.afterS u O
 cases m with
 | zero=>exact h.elim
 | succ m =>
  refine R.go A env a j d i _ _ P (AE.twoB (r:=c a j) h fun v o h x q y D l=>?_);have l:x=v:=l;subst l;have I:=u.trans (D.weaken P.own)
  cases x with
  | true =>
   refine hb.go A env a o y q _ _ F (P.after D) (AE.twoB (r:=b a o) h fun p J h f L G M g=>?_);have z:=I.trans M;obtain⟨fl,K⟩:=p
   cases fl with
   | next =>
    cases f with
    | next=>exact⟨m,cp _,K,J,G,z,g.2,h⟩
    | _=>exact g.1.elim
   | ret w =>
    cases f with
    | ret x=>exact h _ L G z g
    | _=>exact g.1.elim
  | false=>exact eD (h _ q y I ⟨trivial,(P.after D).env⟩)
theorem SS.while_{t:Expr}{B:List eJ}{pos:dc}{c:DT}{b:DS}(h:ST C n S t c)(hb:EH C n S B b):SS C n S (.While t B [] pos) (E8 c b):=by
 refine⟨fun A e d H a s Q E F P p=>?_⟩;exact wpAny_While (Zct h hb F P 20000 p)
end
end Mine
namespace Mine
open PySem PyProof.Rows PySem.Calls PySem.SeqAt
section
variable {C:Cx}{n:Nat}{S:AN}{env:f3}{β β':List aF}{s s':aE}{σ σ':AW}{H H':AH}{A:bY}{E:aC->aE->Prop}{mg mb:aW->Option aC}
theorem Zcu{x:AV}{f:List AV->Option (List AV)}(h:BO H x f=some H'):∃ i l l',x=.ref i/\H[i]?=some (.list l)/\f l=some l'/\H'=H.set i (.list l'):=Dq h fun i e h=>GN h fun l b h=>EF h fun l' a h=>⟨i,l,l',e,b,a,h.symm⟩
theorem B7.setList(I:B7 C β s.heap H){i:Nat}{a:aF}{h':aX}{items:Array aC}{l l':List AV}(hb:β[i]?=some a)(u:H[i]?=some (.list l))(n:dZ a s.heap h')(x:h'.PlainList a items)(y:Bg C β s.heap items.toList l')(tk:Nat) :
  Au C Bv β s β { s with heap:=h',toks:=tk } (H.set i (.list l')):=by
 have p:a∈β:=aV hb;have g:BS Bv β s.heap β h':=⟨⟨⟨[],by simp,fun _ h=>nomatch h⟩,fun b o w v _=>⟨o,by refine Ac (n.2 b (fun q=>v (q▸p))) ?_;exact w,.refl _⟩,fun _ h=>h.elim⟩,fun _ h=>h.elim⟩;refine⟨g,⟨by refine Ac bZ ?_;exact I.len,I.nodup,fun j b A f k=>?_,fun b o d=>?_,I.fresh⟩,h',tk,rfl⟩
 .by_cases q:j=i
  .subst q;rw[hb] at f;obtain rfl:=inj f;rw[bR (Bm u)] at k;obtain rfl:=inj k;exact⟨items,x,y.mono g⟩
  .rw[bI (ct q)] at k
   have c:b≠a:=fun e=>by
    subst e;have r:=(bp.mp f);have t:=(bp.mp hb);exact q ((dH I.nodup).mp (r.2.trans t.2.symm))
   exact (I.obj j b A f k).keep g.toGrow0 fun _ m=>by refine Ac (n.2 b c) ?_;exact m
 .have c:b≠a:=fun q=>by have:=I.fresh a p;rw[<- q,d] at this;injection this
  exact Ac (n.2 b c) (I.base b o d)
theorem Zcv{H:AH}{v:AV}(h:I1 H v=true):∃ i l,v=.ref i/\H[i]?=some (.list l):=by
 revert h
 refine @AV.casesOn (fun v=>I1 H v=true->∃ i l,v=.ref i/\H[i]?=some (.list l)) v nb (fun _=>nb) (fun _=>nb) (fun _=>nb) (fun _=>nb) (fun _=>nb) (fun i h=>?_) (fun _=>nb) (fun _=>nb) (fun _=>nb) (fun _=>nb) (fun _ _=>nb) (fun _=>nb);have h:(match H[i]? with|some (.list _)=>true|_=>false)=true:=h
 cases q:H[i]? with
 | none=>rw[q] at h;injection h
 | some o=>rw[q] at h;cases o<;>first|exact⟨i,_,rfl,q⟩|injection h
theorem Zcw{Q:aC->aE->Prop}{r:Option AH}(h:AE C Bv (VR C) β s (toH r) Q E):∃ H,r=some H/\AE C Bv (VR C) β s (.ok .none H) Q E:=by
 cases r with
 | none=>exact h.elim
 | some v=>exact⟨v,rfl,h⟩
def Ee(C:Cx)(n:Nat)(id:String)(f:List AV->List AV->Option (List AV)):Prop :=
 ∀ {A:bY} {β:List aF} {s:aE} {H:AH} {a:aF} {items:Array aC} {l l':List AV} {y:List aC} {us:List AV} {Q:aC->aE->Prop} {E:aC->aE->Prop},B7 C β s.heap H->Ed n A->s.heap.PlainList a items->Bg C β s.heap items.toList l->Bg C β s.heap y us ->
  f us l=some l'->(∀ h' i tk,dZ a s.heap h'->h'.PlainList a i->Bg C β s.heap i.toList l'->Q .none { s with heap:=h',toks:=tk })->wpAny (model C.prog C.w) A (call (.builtin id) (.ref a::y)) Q E s
theorem SE.meth{o:Expr}{name:aW}{j pos:dc}{e:Expr}{g:List Expr}{id:String}{ds:List DE}{d:DE}{f:List AV->List AV->Option (List AV)}
  (B:Slot "list" name id) (T:typeOf (.builtin id)=pure (.type "method_descriptor")) (p:Ee C n id f) (ho:SE C n S o d) (ha:DV C n S (e::g) ds)
  (k:∀ c,gC o name c (eval o c)=eval o c)
  (t:∀ c,((backTo pos (starEach (e::g) c)).all (fun x=>!x.1)&&(backToKw pos (cz [] c)).all (fun x=>x.1.isSome)&&decide ((e::g).length+([]:List fJ).length+(if ([]:List fJ).isEmpty then 0 else 1)<30))=true)
  (r:∀ c,starEach (e::g) c=(false,eval e c)::starEach g c)
  (h:∀ c,(backTo pos (starEach (e::g) c)).any (·.1)=false)
  (q:(j.endLine == pos.line)=true) :
  SE C n S (.Call (.Attribute o name j) (e::g) [] pos) (Cq f d ds):=by
 refine⟨fun A c σ H β s Q E P hp=>?_⟩;refine k7 (k c) (t c) q iY B T (AE.then hp (fun _ G=>ho.go A c σ H β s _ E P G) ?_);intro x X v aa Z _ Y vx J
 split at J
 .rename_i hL;refine Cg (Zcv hL) fun i l L hl=>?_;subst L;refine Ah vx.inv fun a e0 N=>?_;subst e0;refine Ah (Y.inv.obj i a _ N hl) fun V W hv=>aD W fun m u=>⟨⟨_,u,rfl⟩,fun b O=>by cases O;exact⟨_,u,rfl⟩,?_⟩
  have key:wpAny (model C.prog C.w) A (spliced (backTo pos (starEach (e::g) c))) (fun vs am=>wpAny (model C.prog C.w) A (call (.builtin id) ([.ref a]++vs)) Q E am) E X:=by
   refine AE.then J (fun _ G=>ha.go A c σ aa Z X _ E pos (P.after Y) G) ?_;intro ys am us ac aw _ D vy aq;refine Ah (Zcw aq) fun an z ay=>Dl (Zcu z) fun i' l₂ ib e1 d6 hf M=>?_;subst M
   cases e1
   refine Ah D.grow.ext fun ν K _=>?_;subst K;have gj:(Z++ν)[i]?=some a:=by refine Ac (aM (Bm N)) ?_;exact N
   exact Ah (D.inv.obj i a _ gj d6) fun jc ie et=>p D.inv P.room ie et vy hf fun G I tk hs R U=>ay _ _ _ (D.inv.setList gj d6 hs R U tk) .none
  have y:=h c;rw[r c] at key y ⊢;exact cH y (bU key)
 .exact J.elim
theorem Zcx:Ee C n "list.append" CV:=by
 intro A p s H a i l L Y u Q E I R d f V k q;refine I6 k fun v e g=>B9 g fun b G=>?_;subst e;refine Ah V.one_inv fun y e o=>?_;subst e;obtain rfl:=inj G;have h:=f.length;rw[aR] at h;refine wpAny_list_append_plain d (fun j c m=>q j _ s.toks m c ?_) (by refine Ac h ?_;exact al b (Al rfl));simpa using f.append (.cons o .nil)
set_option tactic.hygienic true in
theorem Zcy:Ee C n "list.insert" PS:=by
 intro A o s H a i l L Y U Q E I R c k V w B;refine I7 w fun p v r g=>D5 g fun j q g=>B9 g fun h G=>?_;subst r q;obtain⟨x,y,rfl,D,J⟩:∃ x y,Y=[x,y]/\VR C o s.heap x (.int j)/\VR C o s.heap y v:=V.two_inv;obtain rfl:=inj G;refine aD D.int_inv fun t f=>?_;subst f;have b:=k.length;rw[aR] at b;obtain⟨m,c⟩:=c
 have d:¬ (!Builtin.List.listFitsIndex j)=true:=by
  have u:eU j=true:=by
   exact PT (aO (Al rfl) h.2.1) (aO h.2.2 (bF.mpr (al h.1 (Al rfl))))
  refine Ac u ?_;decide
 refine f4 iD ⟨_,c,rfl⟩ PySem.F.entry_list_insert (PySem.F.args_list_insert_3 _ _ _) (AutoSeq1.list_insert_list_int_val_1 a i m j t y d (by refine Ac b ?_;exact al h.1 (Al rfl))) ⟨c,?_⟩;refine B _ _ s.toks (dy ..) ⟨_,bM _ c rfl⟩ ?_
 have z:(if j<0 then (j+(i.size:Int)).toNat else min j.toNat i.size)=j.toNat:=by
  refine Ac (if_neg (Z1v h)) (Ac b ?_);exact gI (PI h.2.2)
 have e:((i.extract 0 j.toNat).push y++i.extract j.toNat).toList=i.toList.take j.toNat++y::i.toList.drop j.toNat:=by
  simp[Array.toList_extract];exact cI (by simp)
 show Bg C o s.heap ((i.extract 0 (if j<0 then (j+(i.size:Int)).toNat else min j.toNat i.size)).push y++i.extract (if j<0 then (j+(i.size:Int)).toNat else min j.toNat i.size)).toList _;refine Ac z (Ac e ?_);exact (k.take _).append (.cons J (k.drop _))
set_option tactic.hygienic true in
theorem Zcz{a:aF}{items:Array aC}{l l':List AV}{x y:aC}{p v:AV}{Q:Unit->aE->Prop}(n:s.heap.PlainList a items)(F:Bg C β s.heap items.toList l)(M:VR C β s.heap x p)(N:VR C β s.heap y v)(L:Fg p v l=some l')
  (D:∀ h' I,dZ a s.heap h'->h'.PlainList a I->Bg C β s.heap I.toList l'->Q () { s with heap:=h' }):wpAny (model C.prog C.w) A (setItem (.ref a) x y) Q E s:=by
 refine D5 L fun j G g=>B9 g fun H J=>?_;subst G;obtain rfl:=inj J;refine aD M.int_inv fun t q=>?_;subst q;have h:=F.length;rw[aR] at h;have B:=n.isList;refine aD (id n) fun m o=>?_
 have e:eU j=true:=by
  exact PT (aO (Int.neg_le_neg (bF.mpr (al H.1 (Al rfl)))) H.2.1) (c0 (di H.2.2 (bF.mpr (al H.1 (Al rfl)))))
 have d:lz j items.size=some (if 0<=j then j.toNat else (j+l.length).toNat):=by
  unfold lz;refine Ac h ?_
  by_cases b:0<=j
  .simp only[show ¬ j<0 by exact TB b,if_false,b,decide_true,mx,decide_eq_true_eq,if_true];exact Ac (if_pos (Z1w H h)) rfl
  .simp only[show j<0 by exact PK b,if_true,b,if_false,show 0<=j+(l.length:Int) by exact TM H h,decide_true,mx,decide_eq_true_eq];exact Ac (if_pos (PJ b)) rfl
 generalize hK:(if 0<=j then j.toNat else (j+l.length).toNat)=K at d D
 have u:K<items.size:=by
  refine BE hK (Ac h ?_)
  by_cases b:0<=j
  .exact Ac (if_pos b) (JS b H.2.2)
  .exact Ac (if_neg b) (JS (TM H h) (PJ b))
 have c:items[K]?=some items[K]:=hV u
 have f:Q () { s with heap:=s.heap.update a (kC (·.setIfInBounds K y)) }:=by
  refine D _ (items.setIfInBounds K y) (dy ..) ⟨_,bM _ o rfl⟩ ?_;simpa using F.set K N
 unfold setItem
 try with_reducible refine bN ?_
 first|refine aB (aH ?_)|skip
 refine aB (k8 B.typeIs (Al rfl) ?_)
 refine aB (fC (name:=aA "__setitem__") B.typeIs k9
  (f5 k9 B.typeIs entry_list_setitem ?_ (args_list_setitem _ _ _)))
 show wpAny _ _ (l4 (.int j t) >>= _) _ _ s;refine aB (wpAny_listSubscript_int e ?_)
 cases j with
 | ofNat k =>
  have z:k=K:=by refine BE hK ?_;simp
  subst z;show wpAny _ _ ((seqItemAt a k >>= fun r=>pure (r.map (k,·))) >>= _) _ _ s;refine aB (aB (wpAny_seqItemAt o rfl (aH ?_)));refine Ac c ?_;show wpAny _ _ (setSeqItemAt a k y >>= _) _ _ s;refine aB (kD o rfl ?_)
  first
   | exact aB (aH (aH ⟨.none,rfl,aH f⟩))
   | exact aH ⟨.none,rfl,aH f⟩
 | negSucc k =>
  show wpAny _ _ ((mI (.ref a) >>= fun X=>pure ((lz (Int.negSucc k) X.size).bind fun i=>X[i]?.map (i,·))) >>= _) _ _ s;refine aB (aB ?_);show wpAny _ _ (seqItems? (.ref a) >>= _) _ _ s;refine aB (jU o rfl (aH (aH ?_)));refine Ac d ?_;simp only[Option.bind_some,c,jz];show wpAny _ _ (setSeqItemAt a K y >>= _) _ _ s;refine aB (kD o rfl ?_)
  first
   | exact aB (aH (aH ⟨.none,rfl,aH f⟩))
   | exact aH ⟨.none,rfl,aH f⟩
theorem SS.store{o i e:Expr}{p pos:dc}{a b c:DE}(ho:SE C n S o a)(hi:SE C n S i b)(he:SE C n S e c)(hs:∀ d,dR e (some (.Subscript o i p)) pos.line d=pure false):SS C n S (.Assign [.Subscript o i p] e pos) (Cb a b c):=by
 refine⟨fun A d M H β s Q E F P hp=>?_⟩;refine fK (AE.thenE P.own hp (fun _ f=>he.go A d M H β s _ E P f) ?_) (hs d);intro y Z v X aj _ ag L ai;have r:=P.after ag;refine AE.thenE r.own ai (fun _ f=>ho.go A d M X aj Z _ E r f) ?_;intro x am u Y aw _ O V aq;have B:=r.after O;refine AE.thenE B.own aq (fun _ f=>hi.go A d M Y aw am _ E B f) ?_;intro k W q an bh _ g vk m;have R:=B.after g;have V:=V.mono g.grow;have L:=(L.mono O.grow).mono g.grow
 cases h:BO an u (Fg q v) with
 | none=>rw[h] at m;exact m.elim
 | some bj =>
  rw[h] at m;refine Dl (Zcu h) fun j l l' t U hf w=>?_;subst t;subst w;refine Ah V.inv fun ad e0 T=>?_;subst e0;refine Ah (g.inv.obj j ad _ T U) fun K D hv=>Zcz D hv vk L hf fun f I G z J=>?_;have N:=g.inv.setList T U G z J W.toks;exact m _ _ _ (N.weaken R.own) ⟨trivial,(R.after N).env⟩
end
end Mine
namespace Mine
open PySem PyProof.Rows PySem.Calls PySem.SeqAt
def FS(C:Cx)(a:As)(n:Nat):Prop :=
 ∀ (A:bY) (k:Nat) (xs:List aC) (vs:List AV) (H:AH) (β:List aF) (s:aE) (Q:aC->aE->Prop) (E:aC->aE->Prop),Ed n A->(C.hot k=false->A.handled=none)->Fi C A β s.heap->B7 C β s.heap H->Bg C β s.heap xs vs->AE C Bv (VR C) β s (a k vs H) Q E ->
  (∃ o fd,C.base.get? (C.fnv k)=some o/\o.data=.func fd)/\wpAny (model C.prog C.w) A (call (.ref (C.fnv k)) xs) Q E s
theorem FS.up{C:Cx}{a:As}{n:Nat}(h:FS C a n):FS C a (n+1):=fun A k x v H b s Q E R=>h A k x v H b s Q E ⟨by have:=R.depth;exact cC (by assumption),by have:=R.units;exact Z1a this⟩
section
variable {C:Cx}{n:Nat}{S:AN}{env:f3}{β β':List aF}{s s':aE}{σ σ':AW}{H H':AH}{A:bY}{E:aC->aE->Prop}{mg mb:aW->Option aC}{Φ:As}
theorem Zc0{v:AV}{G:Prop}(a:Zaq v=false->G)(b:(∃ k,v=.fn k)\/(∃ b,v=.bi b)->G):G:=by
 cases v with
 | fn k=>exact b (.inl ⟨k,rfl⟩)
 | bi n=>exact b (.inr ⟨n,rfl⟩)
 | _=>exact a rfl
theorem Zc1{e:Expr}{a:List Expr}{pos:dc}{v:f3}{f:aF}(b:(backTo pos (starEach (e::a) v)).any (·.1)=false)(H:starEach (e::a) v=(false,eval e v)::starEach a v)
  (key:wpAny (model C.prog C.w) A (spliced (backTo pos (starEach (e::a) v))) (fun y m=>(∃ o fd,C.base.get? f=some o/\o.data=.func fd)/\m.heap.get? f=C.base.get? f/\wpAny (model C.prog C.w) A (call (.ref f) y) Q E m) E s) :
  wpAny (model C.prog C.w) A (callWith pos (.ref f) [] (backTo pos (starEach (e::a) v)) (backToKw pos (cz [] v))) Q E s:=by
 rw[H] at key ⊢
 by_cases x:∃ o fd,C.base.get? f=some o/\o.data=.func fd
 .refine Cg x fun o fd c d=>?_
  exact h8 (o:=o) (fd:=fd) (bU (bJ key (fun y m h=>by
   exact⟨⟨by refine Ac h.2.1 ?_;exact c,d⟩,h.2.2⟩) fun _ _ e=>e))
 .exact h8 (o:=default) (fd:=default) (bU (bJ key (fun y m h=>absurd h.1 x) fun _ _ e=>e))
theorem Zc2{e:Expr}{a:List Expr}{pos:dc}{v:f3}{b:BI}(h:(backTo pos (starEach (e::a) v)).any (·.1)=false)(H:starEach (e::a) v=(false,eval e v)::starEach a v)
  (key:wpAny (model C.prog C.w) A (spliced (backTo pos (starEach (e::a) v))) (fun y m=>wpAny (model C.prog C.w) A (call b.val y) Q E m) E s) :
  wpAny (model C.prog C.w) A (callWith pos b.val [] (backTo pos (starEach (e::a) v)) (backToKw pos (cz [] v))) Q E s:=by
 rw[H] at key h ⊢
 cases b
 case len=>exact cH h (bU key)
 case all=>exact cH h (bU key)
 case isinstance=>exact cH h (bU key)
 all_goals exact g8 h (bU key)
def GQ(C:Cx)(S:AN)(d:DE):Prop:=S.calm=true\/(∃ k,d=Am (.fn k)/\C.hot k=true)\/∃ b:BI,d=Am (.bi b)/\b.cool=true
theorem GQ.fn{d:DE}{k:Nat}{aa:AH}(h:GQ C S d)(P:DO C n A S env β s σ H)(e:d σ H=.ok (.fn k) aa):C.hot k=false->A.handled=none:=fun c=>by
 rcases h with h|⟨j,rfl,a⟩|⟨b,rfl,_⟩
 .exact P.calm h
 .injection e with e _;injection e with e;rw[e,c] at a;injection a
 .injection e with e _;injection e
theorem GQ.bi{d:DE}{k:BI}{aa:AH}(h:GQ C S d)(P:DO C n A S env β s σ H)(e:d σ H=.ok (.bi k) aa):k.cool=false->A.handled=none:=fun c=>by
 rcases h with h|⟨j,rfl,f⟩|⟨b,rfl,a⟩
 .exact P.calm h
 .injection e with e _;injection e
 .injection e with e _;injection e with e;rw[e,c] at a;injection a
theorem SE.callF{f e:Expr}{c:List Expr}{pos:dc}{d:DE}{F:List DE}(N:FS C Φ n)(R:SE C n S f d)(J:DV C n S (e::c) F)
  (O:∀ a,eval (.Call f (e::c) [] pos) a=(do callWith pos (<- eval f a) [] (backTo pos (starEach (e::c) a)) (backToKw pos (cz [] a))))
  (r:∀ a,starEach (e::c) a=(false,eval e a)::starEach c a)
  (g:∀ a,(backTo pos (starEach (e::c) a)).any (·.1)=false) (I:GQ C S d) :
  SE C n S (.Call f (e::c) [] pos) (Cz Φ d F):=by
 refine⟨fun A a t H X s Q E P T=>?_⟩;refine l9 (AE.then T (fun _ M=>R.go A a t H X s _ E P M) ?_) (O a);intro x y v u z G l L j;refine Zc0 (v:=v) (fun e=>?_) fun q=>?_
 .rw[e] at j;exact j.elim
 rcases q with ⟨k,rfl⟩|⟨b,rfl⟩
 .have h:=J.go A a t u z y _ E pos (P.after l) (AE.bind j);have p:x=.ref (C.fnv k):=L.inv;refine Ac p (Zc1 (g a) (r a) (bJ h ?_ fun _ _ e=>e));intro Y B Z;exact Dl Z fun U w D _ i V m=>AX (N A k Y U w D B Q E P.room (I.fn P G) ((P.after l).after i).stk i.inv V m) fun q W=>⟨q,by refine Cg q fun o fd K _=>?_;refine Ac K ?_;exact i.inv.base _ _ K,W⟩
 .have h:=J.go A a t u z y _ E pos (P.after l) (AE.bind j);have p:x=b.val:=L.inv;refine Ac p (Zc2 (g a) (r a) (bJ h ?_ fun _ _ e=>e));intro Y B Z;exact Dl Z fun U w D _ i V m=>Zco i.inv (I.bi P G) V m
theorem Zc3{h:aX}{m k:Nat}{b:List aF}(I:∀ {v:aC} {d x:AV},VR C (β++b) h v d->AR m H k d=some x->VR C β h v x){vs:List aC}{l:List AV}(r:Bg C (β++b) h vs l):∀ {xs:List AV},l.mapM (AR m H k)=some xs->Bg C β h vs xs :=
 r.ind (P:=fun vs l=>∀ {xs:List AV},l.mapM (AR m H k)=some xs->Bg C β h vs xs) (fun e=>inj e▸.nil) fun {_ _ _ _} a _ i {xs} e=>by
  exact B2 (Zbt e) fun y Y c f E=>Ac E (.cons (I a c) (i f))
set_option tactic.hygienic true in
theorem Zc4{h:aX}{B:List aF}(I:B7 C (β++B) h H):∀ (k:Nat) {v:aC} {d x:AV},VR C (β++B) h v d->AR β.length H k d=some x->VR C β h v x
 | 0,_,_,_,_,e=>by injection e
 | k+1,v,d,x,r,e=>by
  have A:=fun {v:aC} {d x:AV}=>Zc4 (v:=v) (d:=d) (x:=x) I k;have V:=r.inv
  cases d with
  | none=>obtain rfl:=inj e;cases V;exact .none
  | bool b=>obtain rfl:=inj e;cases V;exact .bool b
  | int i=>obtain rfl:=inj e;refine aD V fun t c=>?_;subst c;exact .int i t
  | str y=>obtain rfl:=inj e;refine aD V fun t c=>?_;subst c;exact .str y t
  | tup l =>
   refine BJ V fun a s E z n g=>?_;subst E;have e:(l.mapM (AR β.length H k)).map AV.tup=some x:=e;refine Ah (aY.mp e) fun X f E=>?_;subst E;exact .tup z (fun q=>n (bD _ q)) (Zc3 A g f)
  | lst l =>
   refine BJ V fun a s E z n g=>?_;subst E;have e:(l.mapM (AR β.length H k)).map AV.lst=some x:=e;refine Ah (aY.mp e) fun X f E=>?_;subst E;exact .lst z (fun q=>n (bD _ q)) (Zc3 A g f)
  | ref i =>
   refine Ah V fun a c m=>?_;subst c
   refine Ht (show (if i<β.length then some (.ref i) else match H[i]? with
    | some (.list l)=>(l.mapM (AR β.length H k)).map .lst
    | _=>none)=some x from e) (fun p e=>?_) fun p e=>GN e fun l G e=>EF e fun X f E=>?_
   .obtain rfl:=inj e;rw[aM p] at m;exact .ref m
   .subst E
    .skip
     refine Ah (I.obj i a _ m G) fun s w g=>.lst w.isList (fun q=>?_) (Zc3 A g f);obtain⟨j,u,e⟩:=ee q;have D:=bp.mp m;have F:(β++B)[j]'(by simp;exact Z1p u)=a:=by refine Ac (List.getElem_append_left u) ?_;exact e
     have:j=i:=(dH I.nodup).mp (F.trans D.2.symm);exact Z1q p u this
  | rng b=>obtain rfl:=inj e;refine Dp V fun _ _ _ _ o J n=>?_;subst o;exact .rng J fun q=>n (bD _ q)
  | fn k=>obtain rfl:=inj e;cases V;exact .fn k
  | cls k=>obtain rfl:=inj e;cases V;exact .cls k
  | bi b=>obtain rfl:=inj e;exact .bi b V
  | _=>injection e
theorem Au.leave{c:aE}(k:∀ b o,s.heap.get? b=some o->c.heap.get? b=some o)(l:∃ h tk,c={ s with heap:=h,toks:=tk })(H:∀ a,CL env a->s.heap.get? a=none)(A:Au C (CL env) β c β' s' H'):Au C Bv β s β' s' H':=by
 refine Ah A.grow.ext fun m f j=>⟨⟨⟨⟨m,f,fun a i=>?_⟩,fun a o d n _=>A.grow.keep a o (k a o d) n fun q=>?_,fun _ h=>h.elim⟩,fun _ h=>h.elim⟩,A.inv,?_⟩
 .cases q:s.heap.get? a with
  | none=>rfl
  | some o=>have:=k a o q;rw[j a i] at this;injection this
 .rw[H a q] at d;injection d
 .refine Ez l fun h tk e=>?_;subst e;refine Ez A.same fun g t e=>?_;subst e;exact⟨g,t,rfl⟩
noncomputable def GR(m:Nat):Nat->AV->Bool
 | 0,_=>false
 | n+1,v=>match v with
  | .tup l=>l.all (GR m n)
  | .lst l=>l.all (GR m n)
  | .ref i=>decide (i<m)
  | .inst _ j=>decide (j<m)
  | _=>true
theorem Sb{h:aX}{b:List aF}{n:Nat}(I:∀ {v:aC} {d:AV},VR C (β++b) h v d->GR β.length n d=true->VR C β h v d){vs:List aC}{l:List AV}(r:Bg C (β++b) h vs l):l.all (GR β.length n)=true->Bg C β h vs l :=
 r.ind (P:=fun vs l=>l.all (GR β.length n)=true->Bg C β h vs l) (fun _=>.nil) fun a _ i e=>by
  rw[eI,cV] at e;exact .cons (I a e.1) (i e.2)
theorem Qc{h:aX}{z:List aF}:∀ (n:Nat) {v:aC} {d:AV},VR C (β++z) h v d->GR β.length n d=true->VR C β h v d
 | 0,_,_,_,e=>nomatch e
 | n+1,v,d,r,e=>by
  have V:=r.inv
  cases d with
  | none=>cases V;exact .none
  | bool b=>cases V;exact .bool b
  | int i=>refine aD V fun t E=>?_;subst E;exact .int i t
  | str x=>refine aD V fun t E=>?_;subst E;exact .str x t
  | tup l=>refine BJ V fun _ _ a u H R=>?_;subst a;exact .tup u (fun q=>H (bD _ q)) (Sb (Qc n) R e)
  | lst l=>refine BJ V fun _ _ a u H R=>?_;subst a;exact .lst u (fun q=>H (bD _ q)) (Sb (Qc n) R e)
  | ref i=>refine Ah V fun _ E g=>?_;subst E;exact .ref (by rw[aM (of_decide_eq_true e)] at g;exact g)
  | rng b=>refine Dp V fun _ _ _ _ m w H=>?_;subst m;exact .rng w fun q=>H (bD _ q)
  | fn k=>cases V;exact .fn k
  | cls k=>cases V;exact .cls k
  | bi b=>exact .bi b V
  | exc c=>refine GI V fun _ _ _ f s o p H=>?_;subst f;exact .exc s o p fun q=>H (bD _ q)
  | inst c j =>
   refine It V fun _ _ _ f s o p y g H=>?_;subst f;exact .inst s o p y (by rw[aM (of_decide_eq_true e)] at g;exact g) fun q=>H (bD _ q)
theorem Zc7{h:aX}{v:aC}{d:AV}(r:VR C β h v d):∃ n,∀ k,n<=k->GR β.length k d=true:=by
 have one:∀ {d:AV},(∀ k,GR β.length (k+1) d=true)->∃ n,∀ k,n<=k->GR β.length k d=true:=fun h=>⟨1,fun k H=>match k,H with
  | k+1,_=>h k⟩
 have two:∀ {d:AV} {p:Nat->Bool},(∀ k,GR β.length (k+1) d=p k)->(∃ n,∀ k,n<=k->p k=true)->∃ n,∀ k,n<=k->GR β.length k d=true:=fun h q=>by
  refine aD q fun n a=>?_
  exact⟨n+1,fun k H=>match k,H with
   | k+1,H=>(h k).trans (a k (c8 H))⟩
 exact VR.rec (motive_1:=fun _ d _=>∃ n,∀ k,n<=k->GR β.length k d=true) (motive_2:=fun _ l _=>∃ n,∀ k,n<=k->l.all (GR β.length k)=true) (one fun _=>rfl) (fun _=>one fun _=>rfl) (fun _ _=>one fun _=>rfl) (fun _ _=>one fun _=>rfl)
  (fun _ _ _ i=>two (fun _=>rfl) i) (fun _ _ _ i=>two (fun _=>rfl) i) (fun b=>one fun _=>decide_eq_true (Bm b)) (fun _ _=>one fun _=>rfl) (fun _=>one fun _=>rfl) (fun _=>one fun _=>rfl) (fun _ _=>one fun _=>rfl) (fun _ _ _ _=>one fun _=>rfl)
  (fun _ _ _ _ b _=>one fun _=>decide_eq_true (Bm b)) ⟨0,fun _ _=>rfl⟩
  (fun _ _ I e=>by
   refine aD I fun n a=>aD e fun m c=>?_;exact⟨n+m,fun k H=>by refine Ac eI (Ac (a k (al (aQ _ _) H)) (Ac (c k (al (fv _ _) H)) ?_));rfl⟩) r
theorem Zc8{h:aX}{vs:List aC}{l:List AV}(r:Bg C β h vs l):∃ n,∀ k,n<=k->l.all (GR β.length k)=true :=
 r.ind (P:=fun _ l=>∃ n,∀ k,n<=k->l.all (GR β.length k)=true) ⟨0,fun _ _=>rfl⟩ fun a _ i=>by
  exact aD (Zc7 a) fun n c=>aD i fun m b=>⟨n+m,fun k H=>by refine Ac eI (Ac (c k (al (aQ _ _) H)) (Ac (b k (al (fv _ _) H)) ?_));rfl⟩
theorem DR.drop{h h':aX}{f:List aF}{a:aF}{K:Type}[DecidableEq K]{knd:KeyKind C.prog C.w K}{l:List (K×AV)}(H:DR C (β++f) h' a knd l)(d:DR C β h a knd l):DR C β h' a knd l:=by
 exact Bu H fun k D c v=>Bu d fun _ _ _ b=>aD (Zc8 b) fun m e=>⟨k,D,c,Sb (Qc m) v (e m (bB m))⟩
theorem Au.drop{U:List aF}{aa:AH}(I:B7 C β s.heap H)(A:Au C Bv β s (β++U) s' aa)(hH:aa.take H.length=H):Au C Bv β s β s' H:=by
 refine⟨⟨⟨⟨[],by simp,fun _ h=>nomatch h⟩,fun a o z v _=>A.grow.keep a o z v id,fun _ h=>h.elim⟩,fun _ h=>h.elim⟩,⟨I.len,I.nodup,fun i a B g t=>?_,A.inv.base,I.fresh⟩,A.same⟩;have S:=(Bm g);have K:i<H.length:=I.len▸S;have V:(β++U)[i]?=some a:=by refine Ac (aM S) ?_;exact g
 have W:aa[i]?=some B:=by exact BE t (BE hH (Ac (List.getElem?_take) (Ac (if_pos K) rfl)))
 have w:=A.inv.obj i a B V W;have b:=I.obj i a B g t
 cases B with
 | list l =>
  exact Ah w fun q P Q=>Ah b fun E _ p=>aD (Zc8 p) fun n v=>⟨q,P,Sb (Qc n) Q (v n (bB n))⟩
 | dict l=>exact DR.drop w b
 | dictN l=>exact DR.drop w b
 | dictS l =>
  refine KK w fun T o Z Y z hx J he D u Q v=>KK b fun X _ _ _ _ _ _ _ L M p _=>?_
  have e:(T.map fun x=>CO x.1)=X.map fun x=>CO x.1:=by
   have:=congrArg (mQ CO) (u.trans M.symm);rw[dt,dt] at this;exact this
  rw[e] at D;refine aD (Zc8 L) fun n O=>aD (Zc8 p) fun m N=>⟨T,o,Z,Y,z,hx,J,he,?_,u,Sb (Qc m) Q (N m (bB m)),v⟩;exact Ac e (Sb (Qc n) D (O n (bB n)))
 | attrs l =>
  refine Ah w fun m N ha=>Ah b fun m' _ G=>⟨m,N,fun n=>?_⟩;have g:=ha n;have t:=G n
  cases u:l.lookup n with
  | none=>rw[u] at g;exact g
  | some d =>
   rw[u] at g t;exact Ah g fun x e r=>Ah t fun x' _ R=>aD (Zc7 R) fun k D=>⟨x,e,Qc k r (D k (bB k))⟩
 | exo c d f =>
  refine CZ w fun o vs z hc J hf dl=>CZ b fun o' vs' _ _ _ _ F=>⟨o,vs,z,hc,J,hf,?_⟩
  cases d with
  | none=>exact dl
  | some j =>
   refine Ah dl fun y e r=>Ah F fun y' _ R=>⟨y,e,?_⟩;rw[aM (Bm R)] at r;exact r
theorem Zc9{k:aW->Option eE}{x:aW}:∀ {bs:List (aW×aC)} {m:aW->Option aC},x∉bs.map (·.1)->bindL k bs m x=m x
 | [],_,_=>rfl
 | (y,v)::r,m,h=>by
  simp only[ci,aU,not_or] at h
  (rewrite [bindL];refine Ac (Zc9 h.2) ?_)
  split
  .exact if_neg h.1
  .rfl
theorem Zda{k:aW->Option eE}{x:aW}:∀ {bs:List (aW×aC)} {m:aW->Option aC},x∉bs.map (·.1)->bindC k bs m x=m x
 | [],_,_=>rfl
 | (y,v)::r,m,h=>by
  simp only[ci,aU,not_or] at h
  (rewrite [bindC];refine Ac (Zda h.2) ?_)
  split
  .rfl
  .exact if_neg h.1
theorem Zdb{K:aW->Option eE}{x:aW}{v:aC}(k:K x=some .local):∀ {bs:List (aW×aC)} {m:aW->Option aC},(bs.map (·.1)).Nodup->(x,v)∈bs->bindL K bs m x=some v
 | [],_,_,h=>nomatch h
 | (y,w)::r,m,H,h=>by
  simp only[ci,fx] at H;rw[bindL]
  rcases aU.mp h with e|h
  .cases e
   rw[Zc9 H.1,if_pos k,if_pos rfl]
  .exact Zdb k H.2 h
theorem Zdc{K:aW->Option eE}{x:aW}{v:aC}(k:K x≠some .local):∀ {bs:List (aW×aC)} {m:aW->Option aC},(bs.map (·.1)).Nodup->(x,v)∈bs->bindC K bs m x=some v
 | [],_,_,h=>nomatch h
 | (y,w)::r,m,H,h=>by
  simp only[ci,fx] at H;rw[bindC]
  rcases aU.mp h with e|h
  .cases e
   rw[Zda H.1,if_neg k,if_pos rfl]
  .exact Zdc k H.2 h
theorem Zdd:∀ {vs:List AV} {k i:Nat} {d:AV},BL vs k i=some d->k<=i/\vs[i-k]?=some d
 | [],_,_,_,h=>by injection h
 | v::r,k,i,d,h=>by
  have h:(if i=k then some v else BL r (k+1) i)=some d:=h
  by_cases e:i=k
  .rw[if_pos e] at h
   (refine Ac e ?_;rw[jo])
   exact⟨bB _,h⟩
  .rw[if_neg e] at h;have q:=Zdd h;exact Ac (Zal q.1) ⟨cC q.1,q.2⟩
theorem Zde{h:aX}:∀ {w:mF} {fl:Fl},Vi C β h w fl->VR C β h (match w with|.ret v=>v|_=>.none) fl.val
 | .next,.next,_=>.none
 | .ret _,.ret _,H=>H
 | .next,.ret _,H=>H.elim
 | .ret _,.next,H=>H.elim
 | .brk,.next,H=>H.elim
 | .brk,.ret _,H=>H.elim
 | .cont,.next,H=>H.elim
 | .cont,.ret _,H=>H.elim
structure Gx where
 o:fj
 fd:iQ
 body:List eJ
 ps:List aW
 S:AN
structure ID(C:Cx)(k:Nat)(f:CK)(d:Gx):Prop where
 ho:C.base.get? (C.fnv k)=some d.o
 hd:d.o.data=.func d.fd
 hbody:d.fd.body=.stmts d.body
 hclo:d.fd.closure=[]
 hcd:C.base.CodeRec d.fd.code d.fd.qualname
 hkind:d.fd.scope.kind=.function
 hgen:d.fd.scope.isGenerator=false
 hco:d.fd.scope.isCoroutine=false
 hglob:d.fd.globals=cy
 hblt:d.fd.builtins=gW
 hlen:d.ps.length=f.params
 hnd:d.ps.Nodup
 hbind:∀ vals,vals.length=d.ps.length->bindArgs d.fd ⟨vals,[]⟩=pure (d.ps.zip vals)
 hps:∀ x∈d.ps,d.fd.scope.names.lookup x=some .local\/d.fd.scope.names.lookup x=some .cell
 hΓ:∀ x i,d.S.Γ.lookup x=some i->d.fd.scope.names.lookup x=some .local\/d.fd.scope.names.lookup x=some .cell
 hinj:∀ x y i,d.S.Γ.lookup x=some i->d.S.Γ.lookup y=some i->x=y
 hslot:∀ i x,d.ps[i]?=some x->d.S.Γ.lookup x=some i
 hG:∀ x∈d.S.G,d.fd.scope.names.lookup x=some .globalImplicit
 hK:∀ x∈d.S.K,d.fd.scope.names.lookup x=some .cell
 hLo:∀ x∈d.S.L,d.fd.scope.names.lookup x=some .local
 hfree:∀ x,d.fd.scope.names.lookup x≠some .free
 hsound:∀ n Φ,FS C Φ n->EH C (n+1) d.S d.body (f.body Φ)
 hcalm:d.S.calm=true->C.hot k=false
structure EI(C:Cx)(k:Nat)(f:CK):Prop where
 ex:∃ d,ID C k f d
structure Eu(C:Cx)(β:List aF)(h:aX)(d:Gx)(a:aF)(env:f3):Prop where
 eq:callEnvC d.fd h.objs.size a=env
 own:∀ b,CL env b->h.get? b=none
theorem Eu.kind{d:Gx}{h:aX}{a:aF}{e:f3}(c:Eu C β h d a e)(x:aW):e.kindOf x=d.fd.scope.names.lookup x:=by refine BE c.eq ?_;rfl
theorem Eu.of{d:Gx}{h h₁:aX}{a:aF}{E:f3}(e:callEnvC d.fd h.objs.size a=E)(ab:∀ x c,E.cells.lookup x=some c->h.objs.size<c):Eu C β h d a E:=by
 refine⟨e,fun b H=>?_⟩
 have H:h.objs.size<=b:=by
  rcases H with rfl|⟨x,f⟩
  .refine BE e ?_;exact bB _
  .exact cC (ab x b f)
 cases q:h.get? b with
 | none=>rfl
 | some o=>exact absurd (bX q) (f0.mpr H)
theorem Zdf{k:Nat}{f:CK}{d:Gx}(D:ID C k f d){h:aX}{xs:List aC}{vs:List AV}(H:xs.length=d.ps.length)(V:Bg C β h xs vs){x:aW}{i:Nat}(e:d.S.Γ.lookup x=some i){u:AV}(c:BL vs 0 i=some u):∃ y,(x,y)∈d.ps.zip xs/\VR C β h y u:=by
 have v:=(Zdd c).2;rw[Nat.sub_zero] at v;refine Ah (V.get v) fun y a r=>?_;have b:i<d.ps.length:=by refine BE H ?_;exact (Bm a)
 refine⟨y,aV (i:=i) ?_,r⟩;rw[hX];have hz:=bK b;exact BE (D.hinj _ x i (D.hslot i _ hz) e) ⟨hz,a⟩
theorem IE{k:Nat}{f:CK}{d:Gx}(D:ID C k f d){h:aX}{xs:List aC}{vs:List AV}(H:xs.length=d.ps.length)(V:Bg C β h xs vs){x:aW}{i:Nat}(c:d.S.Γ.lookup x=some i){v:Option aC}(b:∀ y,(x,y)∈d.ps.zip xs->v=some y):OV C β h v (BL vs 0 i):=by
 cases a:BL vs 0 i with
 | none=>trivial
 | some u =>
  exact Ah (Zdf D H V c a) fun y e r=>⟨y,b y e,r⟩
theorem Zdg{k:Nat}{f:CK}{d:Gx}(D:ID C k f d){A:aE}{xs:List aC}{vs:List AV}{a:aF}{e:f3}(b:Eu C β s.heap d a e)(I:B7 C β s.heap H)(m:xs.length=d.ps.length)(u:Au C Bv β s β A H)(v:Bg C β s.heap xs vs)
  (r:InCallC s e.locals (bindL e.kindOf (d.ps.zip xs) fun _=>none) e.cells (bindC e.kindOf (d.ps.zip xs) fun _=>none) A):ER C d.S e β A.heap (BL vs 0):=by
 have p:∀ a,CL e a->a∉β:=fun a t w=>by refine aD (I.live a w) fun O n=>?_;rw[b.own a t] at n;injection n
 have g:∀ a,CL e a->C.base.get? a=none:=fun a t=>by
  cases q:C.base.get? a with
  | none=>rfl
  | some O=>have:=I.base a O q;rw[b.own a t] at this;injection this
 have z:((d.ps.zip xs).map (·.1)).Nodup:=by refine Ac (List.map_fst_zip (bW m.symm)) ?_;exact D.hnd
 have v:=v.mono u.grow
 refine⟨by refine BE b.eq ?_;exact D.hkind,by refine BE b.eq ?_;exact D.hglob,by refine BE b.eq ?_;exact D.hblt,p _ (.inl rfl),g _ (.inl rfl),fun x j=>(b.kind x).trans (D.hG x j),fun x j=>.inl ((b.kind x).trans (D.hK x j)),fun x j=>(b.kind x).trans (D.hLo x j),fun x c l=>⟨⟨_,r.cell x c l⟩,p _ (.inr ⟨x,l⟩),g _ (.inr ⟨x,l⟩),cZ (r.above x c (mem_of_lookup l))⟩,
  fun x y c j o=>name_of_addr r.apart (mem_of_lookup j) (mem_of_lookup o),D.hinj,_,r.toInCall.ns,fun x i j=>?_⟩
 rcases D.hΓ x i j with h|h
 .exact .inl ⟨(b.kind x).trans h,IE D m v j fun y o=>Zdb ((b.kind x).trans h) z o⟩
 .refine aD (d3.mp (js (x:=x) d.fd.scope.names (s.heap.objs.size+1) [] (.inl h))) fun c l=>?_;have l:e.cells.lookup x=some c:=by refine BE b.eq ?_;exact l
  exact .inr ⟨.inl ((b.kind x).trans h),c,_,l,r.cell x c l,IE D m v j fun y o=>Zdc (by (rewrite [b.kind];refine Ac h ?_);decide) z o⟩
theorem Zdh{k:Nat}{f:CK}{d:Gx}(D:ID C k f d){A:bY}{a:aF}{E:f3}{σ:AW}(c:Eu C β s.heap d a E){b:aE}(g:Au C Bv β s β b H)(r:ER C d.S E β b.heap σ)(R:Ed (n+2) A)(p:C.hot k=false->A.handled=none)(K:Fi C A β s.heap):DO C (n+1) (A.deeper E) d.S E β b σ H:=by
 refine Ah (K.mono g.grow) fun l i u=>⟨g.inv,r,⟨?_,?_⟩,fun o=>p (D.hcalm o),⟨E::l,eV i,fun e h=>?_⟩,by refine Ac (eV i) ?_;exact fun q=>nomatch q⟩
 .have:=R.depth;show A.depth+1+(n+1)+110<gX;exact Z1f this
 .have:=R.units;show A.units+3+8*(n+1)+200<cLine;exact Z1c this
 .rcases aU.mp h with j|h
  .refine Ac j ?_;exact Ah r.vars fun m t _=>⟨r.kind,by refine BE c.eq ?_;exact D.hgen,by refine BE c.eq ?_;exact D.hco,r.builtins,r.globals,by refine BE c.eq ?_;rfl,r.notL,r.locB,m,t⟩
  .exact u e h
open Classical in
theorem Zdi{Q:aC->aE->Prop}{e S:aE}{c:List aF}{aa:AH}{F:Bool}{x:aC}{v:AV}(I:B7 C β s.heap H)(k:∀ b o,s.heap.get? b=some o->e.heap.get? b=some o)(j:∃ h tk,e={ s with heap:=h,toks:=tk })(w:∀ a,CL env a->s.heap.get? a=none)(i:Au C (CL env) β e c S aa)
  (r:VR C c S.heap x v) (p:AE C Bv (VR C) β s (if F then (if aa.take H.length=H then (match AR H.length aa 12 v with|some V=>.ok V H|none=>.bad) else .bad) else .ok v aa) Q E):Q x S:=by
 have A:=Au.leave k j w i
 cases F with
 | false=>exact p _ S c A r
 | true =>
  rw[if_pos rfl] at p
  by_cases g:aa.take H.length=H
  .rw[if_pos g] at p
   cases d:AR H.length aa 12 v with
   | none=>rw[d] at p;exact p.elim
   | some V =>
    rw[d] at p;refine Ah A.grow.ext fun l f _=>?_;subst f;rw[<- I.len] at d;exact p _ S β (A.drop I g) (Zc4 A.inv 12 r d)
  .rw[if_neg g] at p;exact p.elim
theorem Zdj{A:bY}{S:AN}{σ:AW}{k g:aE}{d:List aF}{aa:AH}{e:aC}{x:AV}(I:B7 C β s.heap H)(K:Fi C A β s.heap)(T:Au C Bv β s β k H)(X:∀ b o,s.heap.get? b=some o->k.heap.get? b=some o)(hs:∃ h tk,k={ s with heap:=h,toks:=tk })(n:∀ a,CL env a->s.heap.get? a=none)
  (i:env.frame=some env.locals) (r:ER C S env β k.heap σ) (u:Au C (CL env) β k d g aa) (hx:XR C k.heap g.heap d aa e x) (Z:∀ e g d,Au C Bv β s d g aa->XR C s.heap g.heap d aa e x->E e g):wpAny (model C.prog C.w) (A.deeper env) (leaving env e) (fun _ j=>E e j) (fun y j=>E y j) g:=by
 have v:=Au.leave X hs n u;refine Ah (K.mono v.grow) fun l M P=>?_
 obtain⟨⟨O,f,F,B,L⟩,Y⟩:(∃ O,g.heap.get? env.locals=some O/\∃ F B,O.data=.dict F B)/\env.locals∉d:=by
  exact Ah r.vars fun m Q _=>Do Q fun om G D p J _=>Bu (u.grow.xlive env.locals (.inl rfl)) fun O f _ L=>⟨⟨O,f,L ⟨om,G,D,p,J⟩⟩,u.grow.notin p r.notL⟩
 have W:=I.noB;refine Do hx fun a c fl z R fly=>?_;subst z;refine Zbd (C:=C) (outer:=l) (eV M) ⟨by refine Ac r.kind ?_;decide,⟨env.locals,O,i,r.locB,f,fun vs q=>by rw[L] at q;injection q⟩,Zbe P⟩ (fun b t=>?_) i W v (fly.older T.fresh) (R.not v.inv.nodup) fun au U V=>Z _ _ d U ⟨a,c,_,rfl,R,V⟩;rw[List.filterMap_cons,i] at t
 rcases aU.mp t with y|t
 .refine Ac y ?_;exact⟨Y,fun o N=>by rw[f] at N;obtain rfl:=inj N;exact⟨F,B,L⟩⟩
 .exact Zbf P b t
set_option tactic.hygienic true in
theorem Zdk(B:Dc C mg mb){k:Nat}{f:CK}(D:EI C k f){y:As}(O:FS C y n){A:bY}{xs:List aC}{vs:List AV}{Q:aC->aE->Prop}(R:Ed (n+2) A)(P:C.hot k=false->A.handled=none)(K:Fi C A β s.heap)(I:B7 C β s.heap H)(V:Bg C β s.heap xs vs)
  (g:AE C Bv (VR C) β s (f.run y vs H) Q E):codeAny (model C.prog C.w) A (.call (.ref (C.fnv k)) ⟨xs,[]⟩) (fun r S=>match r with|.ok (.ret v)=>Q v S|.ok _=>False|.error e=>E e S) s:=by
 obtain⟨d,D⟩:=D.ex;unfold CK.run at g
 by_cases a:vs.length=f.params
 rotate_left
 .rw[if_neg a] at g;exact g.elim
 rw[if_pos a] at g;have j:xs.length=d.ps.length:=by exact Ac V.length (Ac a (Ac D.hlen rfl))
 refine codeAny_call_cells (by have:=R.depth;exact Z1n this) (I.base _ _ D.ho) D.hd (B.nolimit.keeps I.base) (D.hcd.keeps I.base) D.hbody (D.hbind xs j) D.hclo (fun x L=>?_) (fun o m=>?_) D.hco D.hgen D.hkind
 .rcases D.hps x.1 (List.of_mem_zip (show (x.1,x.2)∈_ from L)).1 with h|h
  .exact .inl h
  .exact .inr ⟨h,js _ _ _ (.inl h)⟩
 generalize b:callEnvC d.fd s.heap.objs.size (C.fnv k)=env at m ⊢;have t:Eu C β s.heap d (C.fnv k) env:=Eu.of (h₁:=o.heap) b fun x c X=>by have:=m.above x c (mem_of_lookup X);rw[<- b] at this;exact this
 have G:=m.toInCall.keep;have q:=m.toInCall.same
 have F:Au C Bv β s β o H:=by
  obtain⟨u,jd,q⟩:=q;have:=I.keeps (s:=s) (h':=o.heap) o.toks G;rw[q] at this ⊢;exact this
 have N:=Zdg D t I j F V m
 have T:D9 (A.deeper env) env:=by
  exact Ah K fun l Y _=>⟨fun x=>by rw[t.kind];exact D.hfree x,l,eV Y⟩
 refine (D.hsound n y O).go (A.deeper env) env _ H β o _ _ T (Zdh D t F N R P K) ?_;have i:=t.own;have J:env.frame=some env.locals:=by refine BE b ?_;rfl
 clear T b t m O D R P V j a
 revert g
 cases f.body y (BL vs 0) H with
 | bad=>exact id
 | ok p U =>
  intro g w S M z Z;exact Zdi I G q i z (Zde Z.1) g
 | err x U =>
  intro g e S M z L;exact Zdj I K F G q i J N z L g
set_option tactic.hygienic true in
theorem IF(B:Dc C mg mb)(t:Nat->Option CK)(b:∀ k f,t k=some f->EI C k f):∀ n,FS C (AF t n) (2*n)
 | 0=>fun A k xs vs H β s Q E _ _ _ _ _ h=>h.elim
 | n+1=>fun A k xs vs H β s Q E R c K I v h=>by
  have h:AE C Bv (VR C) β s (match t k with|some f=>f.run (AF t n) vs H|none=>.bad) Q E:=h
  cases a:t k with
  | none=>rw[a] at h;exact h.elim
  | some f =>
   rw[a] at h;have D:=b k f a;refine⟨?_,kE (Zdk B D (IF B t b n) (by rw[show 2*(n+1)=2*n+2 by exact Z16] at R;exact R) c K I v h)⟩;obtain⟨d,D⟩:=D.ex;exact⟨d.o,d.fd,D.ho,D.hd⟩
end
end Mine
namespace Mine
open PySem PyProof.Rows PySem.Calls PySem.SeqAt
section
variable {C:Cx}{n:Nat}{S S':AN}{env:f3}{β β':List aF}{s s':aE}{σ σ':AW}{H H':AH}{A:bY}{E:aC->aE->Prop}{mg mb:aW->Option aC}{Φ:As}
structure CW(S S':AN)(scope:ec)(x:aW)(k:Nat):Prop where
 kind:scope.kind=.function
 nocell:∀ y∈scope.names,y.2≠.cell
 loc:scope.names.lookup x=some .local
 names:∀ y∈scope.names,y.2=.local->scope.names.lookup y.1=some .local
 slot:S'.Γ.lookup x=some k
 vars:∀ y i,S'.Γ.lookup y=some i->(y=x/\i=k)\/(scope.names.lookup y=some .free/\S.Γ.lookup y=some i/\i≠k)
 inj:∀ y z i,S'.Γ.lookup y=some i->S'.Γ.lookup z=some i->y=z
 glo:∀ y∈S'.G,scope.names.lookup y=some .globalImplicit
 cap:∀ y∈S'.K,scope.names.lookup y=some .free
 free:∀ y∈scope.names,y.2=.free->y.1∈S.K/\∃ i,S.Γ.lookup y.1=some i
 nol:S'.L=[]
theorem Zdl{n:List (aW×eE)}{f:aW×eE->Bool}{x:aW}:(n.map fun p=>if f p then (p.1,NameKind.cell) else p).lookup x=(n.lookup x).map fun k=>if f (x,k) then .cell else k:=by
 induction n with
 | nil=>rfl
 | cons p r i =>
  obtain⟨y,k⟩:=p;simp only[ci]
  cases H:x == y with
  | true =>
   have:=beq_iff_eq.mp H;subst this
   split<;>rename_i h
   .simp[cq,h]
   .simp[cq,h]
  | false =>
   split<;>simp only[cq,H,i]
theorem Vj{scope:ec}{x:aW}:(relabel scope env).names.lookup x=(scope.names.lookup x).map fun k=>if (k == .free&&env.scope.kind == .function&&env.kindOf x == some .cell) then .cell else k :=
 Zdl (f:=fun p=>p.2 == .free&&env.scope.kind == .function&&env.kindOf p.1 == some .cell)
noncomputable def Dd(c:aW->aF):List (aW×eE)->List (aW×aF)->List (aW×aF)
 | [],acc=>acc
 | (y,k)::r,acc=>Dd c r (if k == .free then (y,c y)::acc else acc)
theorem Zdn{scope:ec}(c:aW->aF)(f:∀ y∈scope.names,y.2=.free->env.cells.lookup y.1=some (c y.1)):closureFor scope env=pure (Dd c scope.names []):=by
 have go:∀ (l:List (aW×eE)) (A:List (aW×aF)),(∀ y∈l,y.2=.free->env.cells.lookup y.1=some (c y.1)) ->
   (forIn l A fun (x:aW×eE) (r:List (aW×aF))=>(if x.2 == .free then (do let a <- cellOf env x.1;pure (eF ((x.1,a)::r))) else pure (eF r):Sem _))=pure (Dd c l A):=by
  intro l
  induction l with
  | nil=>intro A _;rfl
  | cons p r i =>
   intro A h;obtain⟨y,k⟩:=p;rw[List.forIn_cons]
   by_cases b:k=.free
   .subst b;have d:cellOf env y=pure (c y):=by unfold cellOf;exact Ac (h (y,.free) aN rfl) rfl
    simp only[beq_self_eq_true,if_true,d];exact i _ fun z hz=>h z (aT _ hz)
   .have H:(k == iE)=false:=by simpa using b
    simp only[H,cv,if_false]
    (rewrite [Dd];refine Ac H ?_)
    exact i _ fun z hz=>h z (aT _ hz)
 unfold closureFor;have:=go scope.names [] f;have e:(forIn scope.names ([]:List (aW×aF)) fun (x:aW×eE) (r:List (aW×aF))=>(match x with|(name,kind)=>(if kind == .free then (do let a <- cellOf env name;pure (eF ((name,a)::r))) else pure (eF r)):Sem _))=pure (Dd c scope.names []):=this
 first
  | exact (congrArg (fun m:Sem (List (aW×aF))=>m >>= fun r=>pure r) e)
  | (rw[e];rfl)
  | (trace_state;fail "shape")
theorem Zdo(c:aW->aF):∀ (l:List (aW×eE)) (acc:List (aW×aF)) (y:aW) (a:aF),(Dd c l acc).lookup y=some a->a=c y\/acc.lookup y=some a
 | [],acc,y,a,h=>.inr h
 | (z,k)::r,acc,y,a,h=>by
  rw[Dd] at h
  rcases Zdo c r _ y a h with h|h
  .exact .inl h
  .split at h
   .rw[cq] at h
    cases hz:y == z with
    | true=>rw[hz] at h;obtain rfl:=inj h;exact Ac (beq_iff_eq.mp hz) (.inl rfl)
    | false=>rw[hz] at h;exact .inr h
   .exact .inr h
theorem Zdp(c:aW->aF):∀ (l:List (aW×eE)) (acc:List (aW×aF)) (y:aW),((y,iE)∈l\/(acc.lookup y).isSome=true)->((Dd c l acc).lookup y).isSome=true
 | [],acc,y,h=>h.elim (fun h=>nomatch h) id
 | (z,k)::r,acc,y,h=>by
  rw[Dd];refine Zdp c r _ y ?_
  rcases h with h|h
  .rcases aU.mp h with e|h
   .cases e;right;simp[cq]
   .exact .inl h
  .right
   split
   .refine Ac cq ?_;split<;>simp_all
   .exact h
theorem ER.comp{scope:ec}{x:aW}{k:Nat}{c:aW->aF}{K:aF}{m:aW->Option aC}{y:aC}{v:AV}{h:aX}(s:CW S S' scope x k)(e:ER C S env β h σ)(D:∀ z∈scope.names,z.2=.free->env.cells.lookup z.1=some (c z.1))
  (hK:K∉β) (B:C.base.get? K=none) (o:h.Ns K m) (O:m x=some y) (V:VR C β h y v) (n:∀ z a,env.cells.lookup z=some a->a≠K):ER C S' (compEnvC scope (Dd c scope.names []) K env) β h (AM σ k v):=by
 have M:∀ z,scope.names.lookup z=some .free->(z,iE)∈scope.names:=fun z hz=>mem_of_lookup hz
 have d:∀ z a,(Dd c scope.names []).lookup z=some a->scope.names.lookup z=some .free\/True->a=c z:=fun z a hz _=>by
  rcases Zdo c _ _ z a hz with h|h
  .exact h
  .injection h
 have I:∀ (l:List (aW×eE)) (A:List (aW×aF)) (z:aW) (a:aF),(Dd c l A).lookup z=some a->(z,iE)∈l\/A.lookup z=some a:=by
  intro l
  induction l with
  | nil=>intro A z a h;exact .inr h
  | cons p r R =>
   intro A z a h;obtain⟨w,U⟩:=p;rw[Dd] at h
   rcases R _ z a h with h|h
   .exact .inl (aT _ h)
   .split at h
    .rename_i j;rw[cq] at h
     cases hz:z == w with
     | true =>
      refine Ac (beq_iff_eq.mp hz) (Ac (beq_iff_eq.mp j) ?_);exact .inl aN
     | false=>rw[hz] at h;exact .inr h
    .exact .inr h
 have H:∀ z a,(Dd c scope.names []).lookup z=some a->env.cells.lookup z=some a:=fun z a hz=>by
  rcases I _ _ z a hz with h|h
  .refine Ac (d z a hz (.inr trivial)) ?_;exact D _ h rfl
  .injection h
 refine⟨s.kind,e.globals,e.builtins,hK,B,fun z hz=>?_,fun z hz=>?_,(fun z hz=>by rw[s.nol] at hz;exact (nomatch hz)),fun z a hz=>?_,fun z w a hz q=>e.apart z w a (H z a hz) (H w a q),s.inj,m,o,fun z i hz=>?_⟩
 .show (relabel scope env).names.lookup z=_;refine Ac Vj (Ac (s.glo z hz) ?_);rfl
 .show (relabel scope env).names.lookup z=_\/(relabel scope env).names.lookup z=_;refine Ac Vj (Ac (s.cap z hz) ?_);simp only[jz]
  split
  .exact .inl rfl
  .exact .inr rfl
 .refine F3 (e.cell z a (H z a hz)) fun F G J _=>?_;exact⟨F,G,J,n z a (H z a hz)⟩
 .rcases s.vars z i hz with ⟨rfl,rfl⟩|⟨E,t,g⟩
  .refine .inl ⟨?_,?_⟩
   .show (relabel scope env).names.lookup z=_;refine Ac Vj (Ac s.loc ?_);rfl
   .rw[C2];exact⟨y,O,V⟩
  .refine .inr ⟨?_,?_⟩
   .show (relabel scope env).names.lookup z=_\/(relabel scope env).names.lookup z=_;refine Ac Vj (Ac E ?_);simp only[jz]
    split
    .exact .inl rfl
    .exact .inr rfl
   .have b:=M z E;have L:=D _ b rfl;refine aD (d3.mp (Zdp c scope.names [] z (.inl b))) fun a u=>?_;have:=H z a u;refine Ah e.vars fun W _ Q=>Ac (E6 _ _ g) ?_
    rcases Q z i t with ⟨N,_⟩|⟨_,T,w,f,q,P⟩
    .rcases e.cap z (s.free _ b rfl).1 with h|h<;>rw[N] at h<;>cases h
    .rw[this] at f;obtain rfl:=inj f;exact⟨a,w,u,q,P⟩
structure Gy(C:Cx)(n:Nat)(S:AN)(ifs:List Expr)(d:DT):Prop where
 go:∀ A env σ H β s Q E,DO C n A S env β s σ H->AE C Bv BR β s (d σ H) Q E ->
  wpAny (model C.prog C.w) A (forIn ifs true fun c r=>if r=true then do let ok <- isTrue c env (eval c env);pure (eF ok) else pure (eF r)) Q E s
theorem Gy.none:Gy C n S [] Ch:=by
 refine⟨fun A e b H a s Q E P h=>?_⟩;exact wpAny_tests_nil (h.ok_here P.inv rfl)
theorem Gy.one{e:Expr}{t:DT}(h:ST C n S e t):Gy C n S [e] t:=by
 refine⟨fun A v b H a s Q E P p=>?_⟩;exact wpAny_tests_one (h.go A v b H a s Q E P p)
theorem FB{K:aF}{m:aW->Option aC}{h h':aX}(n:h.Ns K m)(s:dZ K h h'):Grow0 (fun a=>a=K) β h β h' :=
 ⟨⟨[],by simp,fun _ h=>nomatch h⟩,fun a o H _ x=>⟨o,by refine Ac (s.2 a x) ?_;exact H,.refl _⟩,fun a b=>by
  subst b;refine Do n fun o E e H d _=>?_;exact⟨o,H,.inl ⟨E,e,d⟩⟩⟩
structure CI(C:Cx)(β:List aF)(s:aE)(St:Nat->aX->Prop)(K D J:aF)(i:Nat)(j:Nat)(H':AH)(β':List aF)(s':aE):Prop where
 af:Au C Bv β s β' s' H'
 st:St j s'.heap
 ns:∃ m,s'.heap.Ns K m
 d:β'[i]?=some D
 jn:J∉β'
 kn:K∉β'
theorem CI.go{src:AH->Option (List AV)}{J D K:aF}{F:List aF}{St:Nat->aX->Prop}{i j:Nat}{n g:AH}{k f:List aF}{l S:aE}(T:Fs C A β s.heap src J F St)(c:CI C β s St K D J i j n k l)(a:Au C Bv k l f S g):CI C β s St K D J i j g f S where
 af:=c.af.trans a
 st:=T.stays c.st a.grow.toGrow0 (fun q=>q.elim) c.jn fun b o H p=>c.af.grow.notin H p
 ns:=c.ns.elim fun m h=>⟨m,j7.kept h fun o H=>a.grow.keep K o H c.kn id⟩
 d:=by
  refine Ah a.grow.ext fun r e _=>?_;subst e;exact Ac (aM (Bm c.d)) c.d
 jn:=by refine Cg (T.obj _ _ c.st) fun o _ H _=>?_;exact a.grow.notin H c.jn
 kn:=by refine aD c.ns fun m h=>?_;exact Gg h fun o _ _ H _=>a.grow.notin H c.kn
def CG(C:Cx)(β:List aF)(s:aE)(i:Nat)(D K:aF)(R:kF->aE->Prop):Rs Unit->Prop
 | .ok _ A=>∀ S a,Au C Bv β s a S A->a[i]?=some D->(∃ m,S.heap.Ns K m)->K∉a->R (.ok .next) S
 | _=>False
theorem CI.turn{src:AH->Option (List AV)}{J D K:aF}{F:List aF}{St:Nat->aX->Prop}{R:kF->aE->Prop}{d:DE}{t:DT}{k i j m:Nat}{n:AH}{q:List aF}{S:aE}{Q:Option aC->aE->Prop}(T:Fs C A β s.heap src J F St)(f:CI C β s St K D J i j n q S)
  (g:CG C β s i D K R (E5 d t k σ i src m j n))
  (I:∀ r e v h' tk,m=r+1->VR C q S.heap v e->St (j+1) h'->(∀ b o,b∉[J]->S.heap.get? b=some o->h'.get? b=some o)->CG C β s i D K R ((t (AM σ k e) n).bindB fun c aa=>if c then (d (AM σ k e) aa).bindB fun x y=>match BO y (.ref i) (Ff x) with
   | some z=>E5 d t k σ i src r (j+1) z
   | none=>.bad
  else E5 d t k σ i src r (j+1) aa)->Q (some v) { S with heap:=h',toks:=tk })
  (p:∀ h' tk,(∀ b o,b∉[J]->S.heap.get? b=some o->h'.get? b=some o)->CG C β s i D K R (.ok () n)->Q none { S with heap:=h',toks:=tk }):wpAny (model C.prog C.w) A (pyNext (.ref J)) Q E S:=by
 cases m with
 | zero=>exact g.elim
 | succ m =>
 cases h:src n with
 | none=>exact ((congrArg (CG C β s i D K R) (Zax h)).mp g).elim
 | some l =>
 cases u:l[j]? with
 | some e=>exact T.item j S _ _ _ _ e _ _ f.af.inv f.af.grow f.st h u fun v h' tk G B H=>I m e v h' tk rfl G B H ((congrArg (CG C β s i D K R) (Zay h u)).mp g)
 | none =>
  have g:=(congrArg (CG C β s i D K R) (GM h u)).mp g
  by_cases a:l.length=j
  .exact T.done j S _ _ _ _ _ _ f.af.inv f.af.grow f.st h a fun h' tk H=>p h' tk H ((congrArg (CG C β s i D K R) (if_pos a)).mp g)
  .exact ((congrArg (CG C β s i D K R) (if_neg a)).mp g).elim
theorem AE.cg{c b:Type}{X:aF->Prop}{l:List aF->aX->c->b->Prop}{R:kF->aE->Prop}{D K:aF}{i:Nat}{a:List aF}{S:aE}{r:Rs b}{F:b->AH->Rs Unit}{Q:c->aE->Prop}(g:CG C β s i D K R (r.bindB F))
  (k:∀ v aa,CG C β s i D K R (F v aa)->∀ x A j,Au C X a S j A aa->l j A.heap x v->Q x A):AE C X l a S r Q E:=by
 cases r with
 | ok v aa=>exact k v aa g
 | err=>exact g.elim
 | bad=>exact g.elim
theorem CG.set{R:kF->aE->Prop}{D K:aF}{i:Nat}{o:Option AH}{F:AH->Rs Unit}(g:CG C β s i D K R (match o with|some a=>F a|none=>.bad)):∃ a,o=some a/\CG C β s i D K R (F a):=by
 cases o with
 | none=>exact g.elim
 | some a=>exact⟨a,rfl,g⟩
theorem CI.store{src:AH->Option (List AV)}{J D:aF}{I:List aF}{St:Nat->aX->Prop}{i j:Nat}{z:AH}{c:List aF}{S:aE}{x:aW}{v:aC}{a:f3}{tk:Nat}{h':aX}{Q:Unit->aE->Prop}(T:Fs C A β s.heap src J I St)(f:CI C β s St a.locals D J i j z c S)(r:a.locals≠J)(p:s.heap.get? a.locals=none)(n:C.base.get? J=none)(K:C.base.get? a.locals=none)(t:a.locals∉I)
  (h:∀ b o,b∉[J]->S.heap.get? b=some o->h'.get? b=some o) (L:St (j+1) h') (P:a.kindOf x=some .local) (R:(a.scope.kind == .class || (a.scope.kind == .module&&a.locals != a.globals))=false)
  (U:∀ g m,m x=some v->CI C β s St a.locals D J i (j+1) z c { S with heap:=g,toks:=tk+1 }->g.Ns a.locals m->(∀ {u:aC} {e:AV},VR C c S.heap u e->VR C c g u e)->Q () { S with heap:=g,toks:=tk+1 }):wpAny (model C.prog C.w) A (storeName a x v) Q E { S with heap:=h',toks:=tk }:=by
 refine aD f.ns fun M H=>?_
 have F:h'.Ns a.locals M:=by
  exact Gg H fun o O N k V=>⟨o,O,N,h _ o (by simpa using r) k,V⟩
 have B:=T.grow0 (β:=c) f.st h;refine jF (m:=M) P F (fun g G l=>?_) R;exact U g _ (if_pos rfl) ⟨(f.af.poke (tk:=tk) B h T.new f.jn n).poke (tk:=tk+1) (FB (β:=c) F l) (fun b o y k=>Ac (l.2 b (by simpa using y)) k) p f.kn K,T.frame _ _ _ L fun b y o k=>Ac (l.2 b (fun q=>t (q▸y))) k,⟨_,G⟩,f.d,f.jn,f.kn⟩ G fun W=>(W.mono0 B).mono0 (FB (β:=c) F l)
theorem Zdq{E iter:Expr}{x:aW}{px pos:dc}{ifs:List Expr}{scope:ec}{k:Nat}{d:DE}{t:DT}{c:aW->aF}{src:AH->Option (List AV)}{J D K:aF}{fp:List aF}{St:Nat->aX->Prop}{R:kF->aE->Prop}
  (hS:S.calm=true) (Y:CW S S' scope x k) (he:SE C n S' E d) (ht:Gy C n S' ifs t) (r:DO C n A S env β s σ H) (hc:∀ z∈scope.names,z.2=.free->env.cells.lookup z.1=some (c z.1)) (T:Fs C A β s.heap src J fp St) (N:Nat)
  {O:aE} {m₀:aW->Option aC} (bz:Au C Bv β s (β++[D]) O (H++[.list []])) (st:St 0 O.heap) (hns:O.heap.Ns K m₀) (hJ:J∉β++[D]) (hK:K∉β++[D]) (l:s.heap.get? K=none) (F:K≠J) (hKf:K∉fp)
  (hR:CG C β s H.length D K R (E5 d t k σ H.length src N 0 (H++[.list []]))) :
  codeAny (model C.prog C.w) A (.compLoop (.ListComp E [⟨.Name x px,iter,ifs,0⟩] scope pos) 0 (.ref J) (.ref D) (compEnvC scope (Dd c scope.names []) K env)) R O:=by
 refine codeAny_compLoop_tests (fun m s'=>∃ j B f,CI C β s St K D J H.length j B f s'/\CG C β s H.length D K R (E5 d t k σ H.length src m j B)) ?_ N
  ⟨0,_,_,⟨bz,st,⟨_,hns⟩,by refine BE r.inv.len ?_;simp,hJ,hK⟩,hR⟩
 clear hR;intro m s' hZ;refine Gg hZ fun j B f i g=>?_;clear hZ;refine i.turn T g (fun cc e v h' X em hv d7 h g=>?_) fun h' X h g=>?_
 .refine eO (i.store T F l (r.inv.noB J T.new) (r.inv.noB K l) hKf h d7 ?_ ?_ fun au m' hm U ew ig=>?_)
  .show (relabel scope env).names.lookup x=_;refine Ac Vj (Ac Y.loc ?_);rfl
  .have hk:(compEnvC scope (Dd c scope.names []) K env).scope.kind=ScopeKind.function:=Y.kind;refine Ac hk ?_;rfl
  have P:DO C n A S' (compEnvC scope (Dd c scope.names []) K env) f { s' with heap:=au,toks:=X+1 } (AM σ k e) B:=⟨U.af.inv,ER.comp Y (r.env.mono U.af.grow) hc i.kn (r.inv.noB K l) ew hm (ig hv) (fun z a hz q=>by
   subst q;refine AX (r.env.cell z a hz) fun qZ0 _=>?_;obtain⟨_,o,V,_⟩:=qZ0;rw[l] at V;injection V),r.room,fun _=>r.calm hS,r.stk.mono U.af.grow,r.ne⟩
  refine ht.go A _ _ B f _ _ _ P (AE.cg g fun b aa g b' a8 bh bq p=>?_);have p:b'=b:=p;subst p;have gk:=U.go T bq
  cases b' with
  | true =>
   refine he.go A _ _ aa bh a8 _ _ (P.after bq) (AE.cg g fun u ac g y dw ii Q hy=>?_);have Z:=gk.go T Q;refine Ah (CG.set g) fun an L g=>Dl (Zcu L) fun i' l₂ ib e1 d6 hf e6=>?_
   cases e1
   exact Ah (Q.inv.obj _ _ _ Z.d d6) fun items hpl hvs=>Zcx (n:=n) (us:=[u]) Q.inv r.room hpl hvs (.cons hy .nil) hf fun je W im hsb I M=>⟨cc,em▸cp _,j+1,_,ii,Z.go T (Q.inv.setList Z.d d6 hsb I M im),e6▸g⟩
  | false=>exact⟨cc,em▸cp _,j+1,_,bh,gk,g⟩
 .refine g _ f (i.af.poke (tk:=X) (T.grow0 (β:=f) i.st h) h T.new i.jn (r.inv.noB J T.new)) i.d (i.ns.elim fun m' G=>⟨m',?_⟩) i.kn;exact Gg G fun o es ep V hr=>⟨o,es,ep,h K o (by simpa using F) V,hr⟩
theorem Zdr{scope:ec}{x:aW}{k:Nat}(b:CW S S' scope x k)(P:DO C n A S env β s σ H):∃ c:aW->aF,∀ z∈scope.names,z.2=.free->env.cells.lookup z.1=some (c z.1):=by
 refine⟨fun z=>(env.cells.lookup z).getD 0,fun z hz g=>?_⟩;refine mae (b.free z hz g) fun d i e=>Ah P.env.vars fun m _ v=>?_
 rcases v z.1 i e with ⟨j,_⟩|⟨_,a,w,f,_⟩
 .rcases P.env.cap z.1 d with h|h<;>rw[j] at h<;>cases h
 .simp[f]
theorem Zds{d:DE}{t:DT}{k:Nat}{y:aC}{v:AV}(e:A.handled=none)(I:B7 C β s.heap H)(V:VR C β s.heap y v)(hb:Ca d t k σ v H≠.bad):∃ (src:AH->Option (List AV)) (N:Nat),Ca d t k σ v H=E5 d t k σ H.length src N 0 (H++[.list []]) /\
  ∀ (Q:aC->aE->Prop) (E:aC->aE->Prop),(∀ J F St m,Au C Bv β s β m H->Fs C A β s.heap src J F St->St 0 m.heap->J∉β->Q (.ref J) m)->wpAny (model C.prog C.w) A (pyIter y) Q E s:=by
 unfold Ca at hb ⊢
 cases f:iter? v with
 | none =>
  rw[f] at hb;dsimp only at hb ⊢
  cases v with
  | ref j =>
   dsimp only at hb ⊢
   cases h:listOf? (H++[.list []]) (.ref j) with
   | none=>exact absurd (Zax h) hb
   | some l =>
    refine Ah (VR.inv V) fun a i g=>?_
    have c:j<H.length:=by
     have:=(Bm g);rw[I.len] at this;exact this
    have b:listOf? H (.ref j)=some l:=by
     unfold listOf? at h ⊢;dsimp only at h ⊢;rw[aM c] at h;exact h
    exact⟨_,20000,rfl,fun Q E q=>Zcr I e V b q⟩
  | _=>exact absurd rfl hb
 | some l =>
  exact⟨fun _=>some l,l.length+1,rfl,fun Q E q=>Zcq I e V f q⟩
theorem Zdt{r iter:Expr}{x:aW}{px pos:dc}{ifs:List Expr}{scope:ec}{k:Nat}{d:DE}{t:DT}{c:aW->aF}{use:Option (aC->Sem Unit)}{Q:aC->aE->Prop}{y:aC}{v:AV}(hS:S.calm=true)(X:CW S S' scope x k)(he:SE C n S' r d)(ht:Gy C n S' ifs t)(W:DO C n A S env β s σ H)(hc:∀ z∈scope.names,z.2=.free->env.cells.lookup z.1=some (c z.1))(vy:VR C β s.heap y v)
  (R:match Ca d t k σ v H with
   | .ok _ V=>∀ P M D K m,Au C Bv β s M P V->M[H.length]?=some D->P.heap.Ns K m->K∉M->s.heap.get? K=none->compPost (model C.prog C.w) A E use Q (.ref D) K (.ok .next) P
   | _=>False) :
  wpAny (model C.prog C.w) A (pyIter y) (fun it a=>wpAny (model C.prog C.w) A (newList []) (fun acc a8=>wpAny (model C.prog C.w) A (newFunctionEnv scope env.globals (Dd c scope.names []) [] env.qual none .none (some env)) (fun l bv=>codeAny (model C.prog C.w) A (.compStart (.ListComp r [⟨.Name x px,iter,ifs,0⟩] scope pos) 0 it acc { l with scope:=relabel scope env }) (compPost (model C.prog C.w) A E use Q acc l.locals) bv) E a8) E a) E s:=by
 have hnb:Ca d t k σ v H≠.bad:=fun q=>by rw[q] at R;exact R
 refine Cg (Zds (W.calm hS) W.inv vy hnb) fun src N eS B=>?_;rw[eS] at R;refine B _ _ fun J fp St a U T st hJ=>?_
 have p:=U.inv.alloc (s:=a) (o:={ cls:=.type "list",dict:=none,data:=.seq ([]:List aC).toArray }) (ao:=.list []) a.toks rfl
  (fun β' h' g hg=>⟨#[],⟨_,hg⟩,.nil⟩)
 refine dW (wpAny_newFunctionEnv X.nocell (by intro y hy;simp at hy) (fun i F I=>?_) X.kind);dsimp only at F I ⊢;generalize hH3:a.heap.push { cls:=.type "list",dict:=none,data:=.seq ([]:List aC).toArray }=bc at p F I ⊢;have h:∀ b o,bc.get? b=some o->b≠bc.objs.size:=fun b o e=>bV (bX e)
 have gl:∀ b o,bc.get? b=some o->i.get? b=some o:=fun b o e=>by
  exact Ac (I.2 b (h b o e)) (aP _ e)
 have bg:=p.inv.keeps (s:={ a with heap:=bc,toks:=a.toks }) (h':=i) (a.toks+([]:List (aW×aC)).length) gl;have io:=(U.trans p).trans bg
 have gm:bc.get? bc.objs.size=none:=by
  cases q:bc.get? bc.objs.size with
  | none=>rfl
  | some o=>exact absurd rfl (h _ o q)
 have Z:s.heap.get? bc.objs.size=none:=by
  cases q:s.heap.get? bc.objs.size with
  | none=>rfl
  | some o =>
   exfalso
   by_cases j:bc.objs.size∈β
   .refine aD ((U.trans p).inv.live _ (bD _ j)) fun o' G=>?_;exact h _ o' G rfl
   .obtain⟨o',G,_⟩:=(U.trans p).grow.keep _ o q j id;exact h _ o' G rfl
 have fk:∃ o,a.heap.get? J=some o:=by obtain⟨o,_,f,_⟩:=T.obj _ _ st;exact⟨o,f⟩
 have ip:J∉β++[a.heap.objs.size]:=by
  exact aD fk fun o f=>p.grow.notin f hJ
 have Y:∀ b o,a.heap.get? b=some o->bc.get? b=some o:=fun b o e=>by refine BE hH3 ?_;exact aP _ e
 have O:bc.objs.size∉β++[a.heap.objs.size]:=fun j=>by
  exact aD (p.inv.live _ j) fun o f=>h _ o f rfl
 have hKf:bc.objs.size∉fp:=fun j=>by
  by_cases q:bc.objs.size=J
  .refine aD fk fun o f=>?_;exact h _ o (Y _ o f) q.symm
  .obtain⟨h1,⟨o,f⟩,_⟩:=T.foot _ j q;rw[Z] at f;injection f
 have hKJ:bc.objs.size≠J:=fun q=>by
  exact aD fk fun o f=>h _ o (Y _ o f) q.symm
 have gp:St 0 i:=T.frame _ _ _ st fun b _ o f=>gl b o (Y b o f)
 have L:codeAny (model C.prog C.w) A (.compLoop (.ListComp r [⟨.Name x px,iter,ifs,0⟩] scope pos) 0 (.ref J) (.ref a.heap.objs.size) (compEnvC scope (Dd c scope.names []) bc.objs.size env))
   (compPost (model C.prog C.w) A E use Q (.ref a.heap.objs.size) bc.objs.size) { a with heap:=i,toks:=a.toks+([]:List (aW×aC)).length }:=by
  refine Zdq hS X he ht W hc T N io gp F ip O Z hKJ hKf ?_
  revert R
  cases E5 d t k σ H.length src N 0 (H++[.list []]) with
  | ok u V=>exact fun R P M af hD j d8=>j.elim fun m j=>R P M _ _ m af hD j d8 Z
  | err z V=>exact id
  | bad=>exact id
 exact codeAny_compStart_list L (T.self 0 _ _ _ gp L)
structure Hw(C:Cx)(fin:AH->Rs Unit->Rs AV):Prop where
 bad:∀ H r,(∀ u ac,r≠.ok u ac)->fin H r=.bad
 ok:∀ {β aw:List aF} {s s':aE} {H ac:AH} {D:aF} {u:Unit},B7 C β s.heap H->Au C Bv β s aw s' ac->aw[H.length]?=some D->fin H (.ok u ac)=.bad\/∃ bh an w,fin H (.ok u ac)=.ok w an/\Au C Bv β s bh s' an/\VR C bh s'.heap (.ref D) w/\∀ a,a∉aw->a∉bh
set_option tactic.hygienic true in
theorem Vk:Hw C Zas:=by
 refine⟨fun H r h=>?_,fun {g i s S H A D u} I f c=>?_⟩
 .cases r with
  | ok u A=>exact absurd rfl (h u A)
  | err _ _=>rfl
  | bad=>rfl
 .unfold Zas;rw[Rs.bindB_ok]
  split
  .rename_i d
   cases b:AR H.length A 12 (.ref H.length) with
   | none=>exact .inl rfl
   | some w =>
    refine .inr ⟨g,H,w,rfl,?_⟩;refine Ah f.grow.ext fun j e _=>?_;subst e;rw[<- I.len] at b;exact⟨f.drop I d,Zc4 f.inv 12 (.ref (by refine Ac I.len ?_;exact c)) b,fun a h q=>h (bD _ q)⟩
  .exact .inl rfl
noncomputable def Vl(aa:AH)(r:Rs Unit):Rs AV:=r.bindB fun _ a=>.ok (.ref aa.length) a
theorem Z2n:Hw C Vl:=by
 refine⟨fun H r h=>?_,fun {c w s S H a D u} I A b=>.inr ⟨w,a,.ref H.length,rfl,A,.ref b,fun _ h=>h⟩⟩
 cases r with
 | ok u a=>exact absurd rfl (h u a)
 | err _ _=>rfl
 | bad=>rfl
theorem SE.compK{f iter:Expr}{x:aW}{px pos:dc}{ifs:List Expr}{scope:ec}{k:Nat}{d it:DE}{t:DT}{F:AH->Rs Unit->Rs AV}(l:Hw C F)(W:SE C n S iter it)(g:CW S S' scope x k)(V:SE C n S' f d)(ht:Gy C n S' ifs t)(T:S.calm=true)(Z:∀ e x,c9 iter e x=pure x) :
  SE C n S (.ListComp f [⟨.Name x px,iter,ifs,0⟩] scope pos) (fun σ H=>(it σ H).bind fun v aa=>F aa (Ca d t k σ v aa)):=by
 refine⟨fun A e σ H G s Q E P Y=>?_⟩;rw[eval_ListComp];refine aD (Zdr g P) fun c r=>iF (use:=none) rfl (Z e) (Zdn c r) g.kind g.names ?_;show wpAny _ A (eval iter e) _ _ s;refine AE.then Y (fun _ p=>W.go A e σ H G s _ E P p) ?_;intro y ae v aa aj _ j vy a;refine Zdt T g V ht (P.after j) r vy ?_
 revert a
 cases Ca d t k σ v aa with
 | ok u I =>
  intro a s' L D K m J R B O hK;refine⟨m,B,fun p h=>?_⟩;have i:=J.poke (tk:=s'.toks) (FB (β:=L) B h) (fun b o U X=>by refine Ac (h.2 b (by simpa using U)) ?_;exact X) hK O (j.inv.noB K hK)
  rcases l.ok (u:=u) j.inv i R with q|⟨M,an,w,q,N,vw,_⟩
  .rw[q] at a;exact a.elim
  .rw[q] at a;exact a _ _ M N vw
 | err z I=>refine Ac (l.bad _ _ (fun _ _ q=>by injection q)) ?_;exact id
 | bad=>refine Ac (l.bad _ _ (fun _ _ q=>by injection q)) ?_;exact id
theorem SE.comp{e iter:Expr}{x:aW}{p pos:dc}{ifs:List Expr}{scope:ec}{k:Nat}{d it:DE}{t:DT}(i:SE C n S iter it)(c:CW S S' scope x k)(H:SE C n S' e d)(a:Gy C n S' ifs t)(h:S.calm=true)(s:∀ E x,c9 iter E x=pure x) :
  SE C n S (.ListComp e [⟨.Name x p,iter,ifs,0⟩] scope pos) (Cl d t k it):=SE.compK Vk i c H a h s
end
end Mine
namespace Mine
open PySem PyProof.Rows PySem.Calls PySem.SeqAt
theorem Zdu{a:Type}{l:List (aW×a)}{p:aW×a->Bool}(h:l.all p=true){x:aW}{i:a}(H:l.lookup x=some i):p (x,i)=true:=aI.mp h _ (mem_of_lookup H)
theorem Zdv{Γ:List (aW×Nat)}(h:(Γ.map (·.2)).Nodup){x y:aW}{i:Nat}(k:Γ.lookup x=some i)(l:Γ.lookup y=some i):x=y:=by
 have H:=mem_of_lookup k;have c:=mem_of_lookup l;obtain⟨a,d,E⟩:=ee H;obtain⟨b,g,e⟩:=ee c
 have:a=b:=by
  have f:a<(Γ.map (·.2)).length:=by simpa using d
  have j:b<(Γ.map (·.2)).length:=by simpa using g
  have q:(Γ.map (·.2))[a]=(Γ.map (·.2))[b]:=by simp[E,e]
  exact (dH h).mp q
 subst this;rw[E] at e;exact (mR e).1
noncomputable def Zdw(S s:AN)(scope:ec)(x:aW)(k:Nat):Bool :=
 decide (scope.kind=.function)&&scope.names.all (fun y=>decide (y.2≠.cell))&&decide (scope.names.lookup x=some .local)&&scope.names.all (fun y=>decide (y.2=.local->scope.names.lookup y.1=some .local))&&decide (s.Γ.lookup x=some k) &&
 s.Γ.all (fun p=>decide ((p.1=x/\p.2=k)\/(scope.names.lookup p.1=some .free/\S.Γ.lookup p.1=some p.2/\p.2≠k)))&&decide (s.Γ.map (·.2)).Nodup&&s.G.all (fun y=>decide (scope.names.lookup y=some .globalImplicit))&&s.K.all (fun y=>decide (scope.names.lookup y=some .free))&&s.L.isEmpty &&
 scope.names.all (fun y=>decide (y.2=.free->y.1∈S.K/\(S.Γ.lookup y.1).isSome=true))
theorem CW.of{S s:AN}{scope:ec}{x:aW}{k:Nat}(h:Zdw S s scope x k=true):CW S s scope x k:=by
 simp only[Zdw,cV] at h;refine AX h fun q a=>?_;obtain⟨⟨⟨⟨⟨⟨⟨⟨⟨c,d⟩,e⟩,f⟩,g⟩,j⟩,l⟩,m⟩,n⟩,b⟩:=q
 exact⟨of_decide_eq_true c,fun y H=>of_decide_eq_true (aI.mp d y H),of_decide_eq_true e,fun y H=>of_decide_eq_true (aI.mp f y H),of_decide_eq_true g,fun y i H=>of_decide_eq_true (Zdu j H),
  fun y z i H hz=>Zdv (of_decide_eq_true l) H hz,fun y H=>of_decide_eq_true (aI.mp m y H),fun y H=>of_decide_eq_true (aI.mp n y H),
  fun y H o=>by
   refine AX (of_decide_eq_true (aI.mp a y H) o) fun Q p=>?_;exact⟨Q,d3.mp p⟩,List.isEmpty_iff.mp b⟩
noncomputable def Vm(p:cB)(i:Nat):fY×List eJ×ec:=match p.main.body.getD i (.Pass default) with
 | .FunctionDef _ a b _ _ _ s _ _ _=>(a,b,s)
 | _=>(⟨[],[],none,[],[],none,[]⟩,[],default)
def Bd(p:cB)(i:Nat):List eJ:=(Vm p i).2.1
def AJ(p:cB)(i:Nat):ec:=(Vm p i).2.2
noncomputable def Vn(p:cB)(i j:Nat):fY×List eJ×ec:=match p.main.body.getD i (.Pass default) with
 | .ClassDef _ _ _ B _ _ _ _ _ _ _=>(match B.getD j (.Pass default) with
  | .FunctionDef _ a b _ _ _ s _ _ _=>(a,b,s)
  | _=>(⟨[],[],none,[],[],none,[]⟩,[],default))
 | _=>(⟨[],[],none,[],[],none,[]⟩,[],default)
def D6(p:cB)(i j:Nat):List eJ:=(Vn p i j).2.1
def CP(p:cB)(i j:Nat):ec:=(Vn p i j).2.2
noncomputable def fnA:Data->Option iQ
 | .func fd=>some fd
 | _=>none
theorem Zdx{d:Data}{fd:iQ}(h:fnA d=some fd):d=.func fd:=by
 cases d<;>first|exact congrArg Data.func (inj h)|exact nn h trivial
def fdO(K:aG)(a:aF):Option iQ:=(K.lookup a).bind fun o=>fnA o.data
def Dm(K:aG)(a:aF):iQ:=(fdO K a).getD default
theorem Zdy{b:Type}{o:Option b}{d:b}(h:o.isSome=true):o=some (o.getD d):=by
 cases o with
 | none=>injection h
 | some a=>rfl
noncomputable def Vo:aC->Option aF
 | .ref a=>some a
 | _=>none
theorem Zdz{v:aC}{a:aF}(h:Vo v=some a):v=.ref a:=by
 cases v<;>first|exact congrArg cD (inj h)|exact nn h trivial
def Sc(K:aG)(N:aF)(x:aW):Option aF:=(mJ K N x).bind fun o=>o.bind Vo
theorem Zd0{K:aG}{N:aF}{x:aW}(h:(Sc K N x).isSome=true):mJ K N x=some (some (.ref ((Sc K N x).getD 0))) :=
 Bf (Zdy (d:=0) h) fun _ e h=>Bf h fun _ E h=>e.trans (congrArg some (E.trans (congrArg some (Zdz h))))
def Qd(K:aG)(a:aF):Bool:=(fdO K a).isSome
def Ad(K:aG)(x:aW):aF:=(Sc K cy x).getD 0
noncomputable def Zd1(scope:ec)(ps:List aW)(S:AN):Bool :=
 decide (scope.kind=.function)&&!scope.isGenerator&&!scope.isCoroutine&&decide ps.Nodup&&ps.all (fun x=>decide (scope.names.lookup x=some .local\/scope.names.lookup x=some .cell)) &&
 S.Γ.all (fun p=>decide (scope.names.lookup p.1=some .local\/scope.names.lookup p.1=some .cell))&&decide (S.Γ.map (·.2)).Nodup&&(eT ps.length).all (fun i=>decide (S.Γ.lookup (ps.getD i "")=some i)) &&
 S.G.all (fun y=>decide (scope.names.lookup y=some .globalImplicit))&&S.K.all (fun y=>decide (scope.names.lookup y=some .cell))&&scope.names.all (fun y=>decide (y.2≠.free))&&S.L.all (fun y=>decide (scope.names.lookup y=some .local))
theorem Vp{K:aG}{a:aF}(h:Qd K a=true):∃ o,K.lookup a=some o/\o.data=.func (Dm K a):=Bf (Zdy (d:=default) h) fun o e g=>⟨o,e,Zdx g⟩
theorem Zd2{ps:List aW}{Γ:List (aW×Nat)}(h:(eT ps.length).all (fun i=>decide (Γ.lookup (ps.getD i "")=some i))=true){i:Nat}{x:aW}(H:ps[i]?=some x):Γ.lookup x=some i:=by
 have:=of_decide_eq_true (aI.mp h i (gZ.mpr (Bm H)));rw[cr,H] at this;exact this
theorem EI.of'{C:Cx}{k:Nat}{f:CK}(K:aG)(X:K.In C.base)(B:List eJ)(u:ec)(ps:List aW)(S:AN)(r:Qd K (C.fnv k)=true)
  (b:(Dm K (C.fnv k)).body=.stmts (B)) (h:(Dm K (C.fnv k)).scope=u) (g:(Dm K (C.fnv k)).closure=[]) (e:PySem.W.codeIn K (Dm K (C.fnv k)).code (Dm K (C.fnv k)).qualname=true)
  (s:(Dm K (C.fnv k)).globals=cy) (p:(Dm K (C.fnv k)).builtins=gW) (t:ps.length=f.params) (a:Zd1 (u) ps S=true)
  (d:∀ v,v.length=ps.length->bindArgs (Dm K (C.fnv k)) ⟨v,[]⟩=pure (ps.zip v)) (O:∀ n w,FS C w n->EH C (n+1) S (B) (f.body w)) (q:S.calm=true->C.hot k=false):EI C k f:=by
 subst h;simp only[Zd1,cV] at a;refine AX a fun Q m=>?_;obtain⟨⟨⟨⟨⟨⟨⟨⟨⟨⟨z,A⟩,D⟩,E⟩,F⟩,G⟩,I⟩,J⟩,L⟩,j⟩,l⟩:=Q;refine Ah (Vp r) fun o N M=>?_
 exact⟨⟨o,_,B,ps,S⟩,X _ _ N,M,b,g,PySem.W.codeRec_of X e,of_decide_eq_true z,(h9 _).mp A,(h9 _).mp D,s,p,t,of_decide_eq_true E,d,
  fun x H=>of_decide_eq_true (aI.mp F x H),fun x i H=>of_decide_eq_true (Zdu G H),fun x y i H c=>Zdv (of_decide_eq_true I) H c,
  fun i x H=>Zd2 J H,fun y c=>of_decide_eq_true (aI.mp L y c),fun y c=>of_decide_eq_true (aI.mp j y c),fun y c=>of_decide_eq_true (aI.mp m y c),
  fun x H=>of_decide_eq_true (aI.mp l _ (mem_of_lookup H)) rfl,O,q⟩
end Mine
namespace Mine
open PySem PySem.W PyProof.Rows PySem.Calls PySem.SeqAt
theorem Zd3{C:Cx}{β:List aF}{h:aX}:∀ {vs:List aC} {ns:List Int},IntsAre vs ns->Bg C β h vs (ns.map .int)
 | _,_,.nil=>.nil
 | _,_,.cons _ _ r=>.cons (.int _ _) (Zd3 r)
theorem Zd4{C:Cx}{mg mb:aW->Option aC}(B:Dc C mg mb)(t:Nat->Option CK)(m:∀ k f,t k=some f->EI C k f){k:Nat}{f:CK}(g:t k=some f){s:aE}(j:s.heap=C.base){l:aF}{vs:List aC}{ns:List Int}
  (z:s.heap.IsList l vs.toArray) (y:IntsAre vs ns) {R:kF->aE->Prop} (H:∃ c,AF t 12 k [.lst (ns.map .int)] []=.ok (.bool true) c)
  (p:∀ S,(∀ b o,s.heap.get? b=some o->S.heap.get? b=some o)->S.os=s.os->S.gens=s.gens->R (.ok (.ret (.bool true))) S) :
  codeAny (model C.prog C.w) callerA (.call (.ref (C.fnv k)) ⟨[.ref l],[]⟩) R s:=by
 obtain⟨c,H⟩:=H
 have H:f.run (AF t 11) [.lst (ns.map .int)] []=.ok (.bool true) c:=by
  have e:AF t 12 k [.lst (ns.map .int)] []=f.run (AF t 11) [.lst (ns.map .int)] []:=by
   show (match t k with|some f=>f.run (AF t 11) [.lst (ns.map .int)] []|none=>.bad)=_;exact Ac g rfl
  exact BE e H
 have I:B7 C [] s.heap []:=⟨rfl,jV,fun i a o h=>by simp at h,fun a o e=>by refine Ac j ?_;exact e,fun a q=>nomatch q⟩;refine codeAny_mono (Zdk (E:=fun _ _=>False) (Q:=fun v S=>R (.ok (.ret v)) S) B (m k f g) (IF B t m 11) (n:=22) ⟨by decide,by decide⟩ (fun _=>rfl) ⟨[],rfl,fun _ h=>nomatch h⟩ I (.cons (.lst z (fun h=>nomatch h) (by simpa using Zd3 y)) .nil) ?_) ?_
 .refine Ac H ?_;intro x S D A d
  have d:x=.bool true:=by
   exact d.inv
  subst d;refine Ez A.same fun h T e=>p S (fun b o u=>A.inv.base b o (by refine BE j ?_;exact u)) ?_ ?_
  .exact Ac e rfl
  .exact Ac e rfl
 .intro r S h
  cases r with
  | ok f=>cases f with
   | ret v=>exact h
   | _=>exact h.elim
  | error e=>exact h.elim
noncomputable def DA(K:aG)(c:aF):aF:=match K.lookup c with
 | some ⟨_,_,.cls C,_⟩=>C.ns
 | _=>0
def GC(K:aG)(c:aF)(x:aW):aF:=(Sc K (DA K c) x).getD 0
theorem Sd{P:List aC->Prop}(h:∀ a,P [a]):∀ v:List aC,v.length=1->P v
 | [a],_=>h a
 | [],e=>by simp at e
 | _::_::_,e=>by simp at e
theorem GS{P:List aC->Prop}{n:Nat}(h:∀ a,∀ v:List aC,v.length=n->P (a::v)):∀ v:List aC,v.length=n+1->P v
 | a::v,e=>h a v (by simpa using e)
 | [],e=>by simp at e
def Ds(K:aG)(x:aW):Bool:=(Sc K cy x).isSome
theorem Zd6{K:aG}{h:aX}{mg:aW->Option aC}{x:aW}(X:K.In h)(G:h.Ns cy mg)(e:Ds K x=true):mg x=some (.ref (Ad K x)):=mg_of X G (Zd0 e)
noncomputable def Zd7(K:aG)(x:aW):Bool:=nsIn K cy x == some none
theorem Zd8{K:aG}{h:aX}{mg:aW->Option aC}{x:aW}(X:K.In h)(G:h.Ns cy mg)(e:Zd7 K x=true):mg x=none:=mg_none_of X G (beq_iff_eq.mp e)
noncomputable def Vq(i:Int):aC->Option mM
 | .int j t=>if j=i then some t else none
 | _=>none
theorem Zd9{i:Int}{v:aC}{t:mM}(h:Vq i v=some t):v=.int i t:=by
 cases v<;>first|exact nn h trivial|exact B9 h fun e h=>e▸inj h▸rfl
def Z2o(K:aG)(x:aW)(i:Int):Option mM:=(nsIn K cy x).bind fun o=>o.bind (Vq i)
def Zea(K:aG)(x:aW)(i:Int):Bool:=(Z2o K x i).isSome
theorem Zeb{K:aG}{h:aX}{mg:aW->Option aC}{x:aW}{i:Int}(X:K.In h)(G:h.Ns cy mg)(e:Zea K x i=true):∃ t,mg x=some (.int i t):=Bf (Zdy (d:=0) e) fun _ e h=>Bf h fun _ E h=>⟨_,mg_of X G (e.trans (congrArg some (E.trans (congrArg some (Zd9 h)))))⟩
theorem HP{c:ClaimW}{cl:aW->Option aF}{m:ExcName->Option aC}{a:List WData}{A s:aE}(n:∀ cls,c.raises a cls=false)(p:c.post a (.bool true) a=true)(k:∀ b o,A.heap.get? b=some o->s.heap.get? b=some o)(h:s.os=A.os)(H:s.gens=#[]) :
  GoodWG c cl m a A (.ok (.ret (.bool true))) s:=GoodW.toG ⟨.inl ⟨_,.bool true,[],rfl,n,.bool true,p,unshared_nil⟩,k,h,H⟩
end Mine
namespace Mine
open PySem PySem.W PyProof.Rows PySem.Calls PySem.SeqAt
section
variable {C:Cx}{n:Nat}{S:AN}{env:f3}{β β':List aF}{s s':aE}{σ σ':AW}{H H':AH}{A:bY}{E:aC->aE->Prop}{Q:aC->aE->Prop}{mg mb:aW->Option aC}{Φ:As}
inductive Id (S:AN):List Expr->List Nat->Prop
 | nil:Id S [] []
 | cons {x:aW} {p:dc} {i:Nat} {es:List Expr} {is:List Nat}:S.Γ.lookup x=some i->Id S es is->Id S (.Name x p::es) (i::is)
theorem Id.length{e:List Expr}{is:List Nat}(h:Id S e is):(fA e env).length=is.length:=by
 induction h with
 | nil=>rfl
 | cons _ _ i=>exact congrArg (·+1) i
theorem Id.nostar{e:List Expr}{is:List Nat}(h:Id S e is):(fA e env).findIdx? (·.1)=none:=by
 induction h with
 | nil=>rfl
 | cons _ _ i=>show List.findIdx? (·.1) ((false,_)::fA _ env)=none;refine Ac (List.findIdx?_cons) (Ac i ?_);rfl
theorem Zec:∀ {is:List Nat} {vs:List AV} {σ σ':AW},PQ is vs σ=some σ'->is.length=vs.length
 | [],[],_,_,_=>rfl
 | [],_::_,_,_,h=>by injection h
 | _::_,[],_,_,h=>by injection h
 | _::r,_::vs,_,_,h=>by
  have:=Zec (is:=r) (vs:=vs) h;simp[this]
theorem Zed{D:aE}(F:D9 A env){j:List Expr}{is:List Nat}(h:Id S j is):∀ {xs:List aC} {vs:List AV} {σ:AW} {s:aE} {Q:Unit->aE->Prop},Au C (CL env) β D β s H->ER C S env β s.heap σ->Bg C β s.heap xs vs->PQ is vs σ=some σ' ->
  (∀ d,Au C (CL env) β D β d H->ER C S env β d.heap σ'->Q () d)->wpAny (model C.prog C.w) A (assignInOrder ((fA j env).map (·.2)) xs) Q E s:=by
 induction h with
 | nil =>
  intro xs vs σ s Q f e v c q
  cases vs with
  | nil =>
   cases v
   obtain rfl:=inj c;exact iG (q s f e)
  | cons _ _=>injection c
 | @cons x p i j is k _ I =>
  intro xs vs σ s Q f e v c q
  cases v with
  | nil=>injection c
  | cons a r =>
   refine fh (eO (Qb f.inv e k (F.1 x) a fun d b g=>?_));exact I (f.trans b) g (r.mono b.grow) c q
theorem TG.many{f:List Expr}{is:List Nat}{k:Nat}{pos:dc}(h:Id S f is):TG C S (.Tuple f k pos) (.many is):=by
 try refine⟨?_⟩
 intro A j D w H B s y v Q E m F I r V d q
 cases v with
 | tup z =>
  refine BJ (VR.inv V) fun _ _ a u x g=>?_;subst a;have n:=g.length;rw[aR] at n;refine kG m u (by exact Ac h.length (Ac (Zec d) (Ac n rfl))) h.nostar fun l t=>?_;have p:∀ b o,s.heap.get? b=some o->l.get? b=some o:=fun b o e=>t b o (bV (bX e)) e;have c:=I.keeps (s:=s) s.toks p;have i:=c.weaken r.own;exact Zed F h i (r.mono c.grow) (g.mono c.grow) d q
 | _=>injection d
noncomputable def EJ(t:Tg)(a:DE):DS:=fun σ H=>(a σ H).bind fun v aa=>match t.bind v σ with
 | some A=>.ok (.next,A) aa
 | none=>.bad
theorem SS.asgT{c:List Expr}{k:Nat}{tp:dc}{e:Expr}{pos:dc}{t:Tg}{a:DE}(x:TG C S (.Tuple c k tp) t)(h:SE C n S e a)(q:S.calm=true)
  (w:∀ b,iH [.Tuple c k tp] e pos.line b=pure false) (B:∀ b,iI [.Tuple c k tp] e b=pure none):SS C n S (.Assign [.Tuple c k tp] e pos) (EJ t a):=by
 refine⟨fun A b f H G s Q E F P u=>?_⟩;refine la (AE.thenE P.own u (fun _ p=>h.go A b f H G s _ E P p) ?_) (w b) (B b);intro y m v l j _ g V i
 cases d:t.bind v f with
 | none=>rw[d] at i;exact i.elim
 | some z =>
  rw[d] at i;exact x A b f z l j m y v _ _ (P.calm q) F g.inv (P.after g).env V d fun D o r=>i _ D j o ⟨trivial,r⟩
theorem SE.cmp2{i F:F5}{D m:kW}{l r t:Expr}{pos:dc}{a b c:DE}(T:SE C n S l a)(Y:SE C n S r b)(Z:SE C n S t c)(h₁:i.op=D)(M:F.op=m)(U:lastMarks [D,m] [r,t]=false) :
  SE C n S (.Compare l [D,m] [r,t] pos) (DQ i F a b c):=by
 subst h₁ M;refine⟨fun A e p H β s Q E P W=>?_⟩;refine Compare_chain (AE.then W (fun _ h=>T.go A e p H β s _ E P h) ?_) U;intro x I v G K _ B vx J;refine chain_link (AE.then J (fun _ h=>Y.go A e p G K I _ E (P.after B) h) ?_);intro y L u w N _ k V f
 cases o:Bl w i v u with
 | none=>rw[o] at f;exact f.elim
 | some d =>
  rw[o] at f;refine Sa k.inv P.room (vx.mono k.grow) V o (cN ?_)
  cases d with
  | false=>exact f.ok_here k.inv (.bool false)
  | true =>
   refine chain_last (AE.then f (fun _ h=>Z.go A e p w N L _ E ((P.after B).after k) h) ?_);intro z a8 q an bh _ j vz O;exact Ah (Zb1 j.inv O) fun g R X=>Sa j.inv P.room (V.mono j.grow) vz R X
theorem ST.cmp2{k D:F5}{G I:kW}{l r t:Expr}{pos:dc}{a b c:DE}(hl:SE C n S l a)(hr:SE C n S r b)(ht:SE C n S t c)(h₁:k.op=G)(Y:D.op=I)(hm:lastMarks [G,I] [r,t]=false) :
  ST C n S (.Compare l [G,I] [r,t] pos) (Aq (DQ k D a b c)):=by
 subst h₁ Y;refine⟨fun A f p H N s Q E P K=>?_⟩;have K:=AE.bind (R:=VR C) K;refine isTrue_chain (AE.then K (fun _ j=>hl.go A f p H N s _ E P j) ?_) hm;intro x T v O W _ M vx U;refine test_link (AE.then U (fun _ j=>hr.go A f p O W T _ E (P.after M) j) ?_);intro y X u L Z _ m V i
 have F:∀ {o:aE} {g:Bool},(∃ e w h,DQ k D a b c p H=.ok e w/\Au C Bv N s h o w/\VR C h o.heap (.bool g) e/\AE C Bv BR h o (match e with|.bool b=>.ok b w|_=>.bad) Q E)->Q g o:=by
  exact fun hZ=>FA hZ
 cases J:Bl L k v u with
 | none=>rw[J] at i;exact i.elim
 | some d =>
  rw[J] at i;refine Sa m.inv P.room (vx.mono m.grow) V J (cN ?_)
  cases d with
  | false=>exact F (i.ok_here m.inv (.bool false))
  | true =>
   refine test_last (AE.then i (fun _ j=>ht.go A f p L Z X _ E ((P.after M).after m) j) ?_);intro z a8 q an bh _ B vz ay;exact Ah (Zb1 B.inv ay) fun g hg hq=>Sa B.inv P.room (V.mono B.grow) vz hg (cN (F hq))
end
end Mine
namespace Mine
open PySem PySem.W PyProof.Rows PySem.Calls PySem.SeqAt
def DB(H:AH)(v:AV):List BI->Option Bool
 | []=>some false
 | t::r=>(Er H v t).bind fun b=>(DB H v r).map (b || ·)
def Gz(d:DE)(t:List BI):DE:=fun σ H=>(d σ H).bind fun x aa=>DZ aa ((DB aa x t).map .bool)
noncomputable def cut(l:List AV)(lo h:Option Int):List AV:=(l.take (match h with|some i=>i.toNat|none=>l.length)).drop (match lo with|some i=>i.toNat|none=>0)
noncomputable def Ev:Option Int->Bool
 | some i=>decide (0<=i)&&decide (i<=1048576)
 | none=>true
def G0(H:AH)(v:AV)(lo h:Option Int):Option AV:=if Ev lo&&Ev h then (match v with
 | .tup l=>if l.length<=1048576 then some (.tup (cut l lo h)) else none
 | v=>(listOf? H v).bind fun l=>if l.length<=1048576 then some (.lst (cut l lo h)) else none) else none
noncomputable def DC:Option DE->AW->AH->Rs (Option Int)
 | none,_,H=>.ok none H
 | some d,σ,H=>(d σ H).bind fun x aa=>match x with
  | .int i=>.ok (some i) aa
  | _=>.bad
def HQ(a:DE)(lo h:Option DE):DE:=fun σ H=>(a σ H).bind fun x aa=>(DC lo σ aa).bind fun l c=>(DC h σ c).bind fun u A=>DZ A (G0 A x l u)
section
variable {C:Cx}{n:Nat}{S:AN}{env:f3}{β β':List aF}{s s':aE}{σ σ':AW}{H H':AH}{A:bY}{E:aC->aE->Prop}{Q:aC->aE->Prop}{mg mb:aW->Option aC}{Φ:As}
theorem Zee{k:Kd}{v:AV}(f:F6 H v=some k){T:List BI}:∀ {b:Bool},DB H v T=some b->ma [] (.type k.name) (T.map BI.val)=some b:=by
 induction T with
 | nil=>intro b h;exact h
 | cons t r i =>
  intro b h;refine Bf h fun c a h=>EF h fun d e h=>?_;subst h;unfold Er at a;rw[f] at a;show (match jT [] (.type k.name) t.val with|some true=>some true|some false=>ma [] (.type k.name) (r.map BI.val)|none=>none)=_;refine Ac (I9 a) (Ac (i e) ?_)
  cases c<;>rfl
theorem Zef{h:aX}:∀ {T:List BI} {xs:List aC},Bg C β h xs (T.map .bi)->xs=T.map BI.val:=by
 intro T
 induction T with
 | nil=>exact fun r=>r.nil_inv
 | cons t T i =>
  intro xs r;obtain⟨x,w,e,a,r⟩:=r.cons_inv;refine Ac e (Ac (i r) (Ac (show x=t.val from a.inv) ?_));rfl
theorem Zeg{σ:AW}{H:AH}:∀ T:List BI,AL (T.map fun t=>Am (.bi t)) σ H=.ok (T.map .bi) H
 | []=>rfl
 | t::r=>by
  show ((Rs.ok _ _:Rs AV).bind _)=_
  (rewrite [Rs.bind_ok];refine Ac (Zeg r) ?_);rfl
theorem SE.isiT{f e:Expr}{i:List Expr}{k:Nat}{p pos:dc}{d:DE}{D:BI}{T:List BI}(hf:SE C n S f (Am (.bi .isinstance)))(he:SE C n S e d)(ht:DV C n S i ((D::T).map fun t=>Am (.bi t)))
  (hc:∀ c,eval (.Call f [e,.Tuple i k p] [] pos) c=(do callWith pos (<- eval f c) [] (backTo pos (starEach [e,.Tuple i k p] c)) (backToKw pos (cz [] c))))
  (h:∀ c,starEach [e,.Tuple i k p] c=(false,eval e c)::starEach [.Tuple i k p] c)
  (g:∀ c,(backTo pos (starEach [e,.Tuple i k p] c)).any (·.1)=false) (hl:(D::T).length<=1048576) :
  SE C n S (.Call f [e,.Tuple i k p] [] pos) (Gz d (D::T)):=by
 refine⟨fun A c M H U s Q E P hp=>?_⟩;refine l9 (bJ (hf.go A c M H U s (fun x o=>∃ r,Au C Bv U s r o H/\VR C r o.heap x (.bi .isinstance)) E P (fun x s' l a J=>⟨l,a,J⟩)) ?_ fun _ _ e=>e) (hc c);intro x o I;refine Ah I fun r z vx=>?_;have e':=VR.inv vx;subst e';have Y:=AE.shift z hp;have j:=g c
 have key:wpAny (model C.prog C.w) A (spliced (backTo pos (starEach [e,.Tuple i k p] c))) (fun ys u=>wpAny (model C.prog C.w) A (call (.builtin "isinstance") ys) Q E u) E o:=by
  refine cG (AE.then Y (fun _ h'=>he.go A c M H r o _ E (P.after z) h') ?_) (h c);intro y u v N O _ ak vy aq;refine Ah (GP aq) fun ck fq ay=>Ah (aY.mp fq) fun b R iq=>?_;subst iq;refine cG (lI (bJ (ht.go A c M N O u (fun X m=>∃ G,Au C Bv O u G m N/\Bg C G m.heap X ((D::T).map .bi)) E p ((P.after z).after ak) ?_) ?_ fun _ _ e=>e)) rfl
  .rw[Zeg];exact fun x s' l a J=>⟨l,a,J⟩
  .intro X m I;refine Ah I fun G F V=>?_;have e:=Zef V;subst e;refine⟨by rw[aK];exact al hl (Al rfl),dv ?_⟩;have B:=F.inv.push (s:=m) { cls:=.type "tuple",data:=.seq ((D::T).map BI.val).toArray } m.toks;have L:=(vy.mono F.grow).mono B.grow;refine Bf R fun _ h1 _=>Bf h1 fun kd q _=>Bu (IB B.inv L q) fun PP Z pp K=>mS (tp:=m.heap.objs.size) (its:=(D::T).map BI.val) Z (IA _) pp (bC _ rfl) (Zee q R) K fun tk=>?_;have cn:=B.inv.toks tk;exact ay _ _ _ (F.trans (B.trans cn)) (.bool b)
 rw[h c] at key j ⊢;exact cH j (bU key)
def PR(_:List aF)(_:aX)(v:aC)(k:Option Int):Prop:=mc v k
structure SP(C:Cx)(n:Nat)(S:AN)(x:Option Expr)(d:Option DE):Prop where
 go:∀ A env σ H β s Q E,DO C n A S env β s σ H->AE C Bv PR β s (DC d σ H) Q E->wpAny (model C.prog C.w) A (evalPart x env) Q E s
theorem SP.none:SP C n S none none:=by
 refine⟨fun A e b H a s Q E P h=>?_⟩;exact aH (h.ok_here P.inv IsPart.none)
theorem SP.some{e:Expr}{d:DE}(h:SE C n S e d):SP C n S (some e) (some d):=by
 refine⟨fun A b k H j s Q E P p=>?_⟩;rw[evalPart_some];refine AE.then p (fun _ f=>h.go A b k H j s _ E P f) ?_;intro x m v l o _ g V c
 cases v with
 | int i =>
  refine aD V.int_inv fun t a=>?_;subst a;exact c.ok_here g.inv (IsPart.int i t)
 | _=>exact c.elim
theorem Zeh{i:Int}(h:Ev (some i)=true):0<=i/\i<=1048576:=by
 simp only[Ev,cV,decide_eq_true_eq] at h;exact h
noncomputable def Fc:Option Int->Nat
 | some i=>i.toNat
 | none=>0
noncomputable def FC(m:Nat):Option Int->Nat
 | some i=>i.toNat
 | none=>m
theorem IG{e:Type}(l:List e)(a b:Nat):(l.drop (min a l.length)).take (min b l.length-min a l.length)=(l.take b).drop a:=by
 have d:l.take (min b l.length)=l.take b:=by
  by_cases H:b<=l.length
  .exact Ac (gI H) rfl
  .exact Ac (iZ (fZ H)) (Ac (cI (bB _)) (Ac (cI (fZ H)) rfl))
 refine BE List.drop_take (Ac d ?_)
 by_cases h:a<=l.length
 .exact Ac (gI h) rfl
 .have c:(l.take b).length<=l.length:=jW b l;exact Ac (iZ (fZ h)) (Ac (fL c) (Ac (fL (Z1r h c)) rfl))
theorem Bg.cut{h:aX}{vs:List aC}{l:List AV}(v:Bg C β h vs l)(lo H:Option Int):Bg C β h ((vs.take (FC vs.length H)).drop (Fc lo)) (Mine.cut l lo H):=by
 have:Mine.cut l lo H=(l.take (FC l.length H)).drop (Fc lo):=by
  unfold Mine.cut
  cases lo<;>cases H<;>rfl
 refine Ac this (Ac v.length ?_);exact (v.take _).drop _
theorem Zei{i:Int}(h:0<=i)(m:Nat):min i (m:Int)=((min i.toNat m:Nat):Int):=by
 refine aD (iT h) fun n e=>?_;subst e
 rcases Nat.le_total n m with q|q
 .refine Ac (Int.min_eq_left (bF.mpr q)) ?_;exact congrArg (fun k:Nat=>(k:Int)) (gI q).symm
 .refine Ac (Int.min_eq_right (bF.mpr q)) ?_;exact congrArg (fun k:Nat=>(k:Int)) (iZ q).symm
theorem Zej(k:Nat):max (0:Int) (k:Int)=k:=Int.max_eq_right (bd k)
theorem IH(m:Nat):(0:Int)=((min 0 m:Nat):Int):=by simp
theorem II(m:Nat):(m:Int)=((min m m:Nat):Int):=by simp
theorem Zek{lo h:Option Int}(H:Ev lo=true)(a:Ev h=true)(m:Nat):sliceBounds lo h none m=(((min (Fc lo) m:Nat):Int),((min (FC m h) m:Nat):Int),1):=by
 have key:∀ (v:Option Int) (dflt:Int),Ev v=true->(match v with|none=>dflt|some i=>(let i:=if i<0 then i+(m:Int) else i;if (1:Int)>0 then max 0 (min i m) else max (-1) (min i ((m:Int)-1))))=(match v with|none=>dflt|some i=>((min i.toNat m:Nat):Int)):=by
  intro v dflt b
  cases v with
  | none=>rfl
  | some i =>
   have:=Zeh b;dsimp only
   (refine Ac (if_neg (show ¬ (i<0) by exact TA this)) (Ac (if_pos (Al rfl)) ?_);rw[Zei this.1,Zej])
 have e:=key lo 0 H;have E:=key h m a;refine jX (me e ?_) (jX (me E ?_) rfl)
 .cases lo with
  | none=>exact IH m
  | some i=>rfl
 .cases h with
  | none=>exact II m
  | some i=>rfl
theorem Zel{lo h:Option Int}(H:Ev lo=true)(a:Ev h=true)(items:Array aC):(lB items lo h none).toList=(items.toList.take (FC items.toList.length h)).drop (Fc lo):=by
 unfold lB;rw[Zek H a];simp only[sliceRange_one,pick_run];have:=IG items.toList (Fc lo) (FC items.size h);rw[aR] at this ⊢;exact this
theorem Zem{lo h:Option Int}(H:Ev lo=true)(a:Ev h=true)(m:Nat):hY lo h 1 (m:Int)=(((min (Fc lo) m:Nat):Int),((min (FC m h) m:Nat):Int)):=by
 have key:∀ (v:Option Int) (dflt:Int),Ev v=true->(match v with|none=>dflt|some i=>(if i<0 then max (i+(m:Int)) 0 else min i (m:Int)))=(match v with|none=>dflt|some i=>((min i.toNat m:Nat):Int)):=by
  intro v dflt b
  cases v with
  | none=>rfl
  | some i =>
   have:=Zeh b;dsimp only
   (refine Ac (if_neg (show ¬ (i<0) by exact TA this)) ?_;rw[Zei this.1])
 have e:=key lo 0 H;have E:=key h m a;refine jX (me e ?_) (me E ?_)
 .cases lo with
  | none=>exact IH m
  | some i=>rfl
 .cases h with
  | none=>exact II m
  | some i=>rfl
theorem Zen(a b:Nat):e8 (a:Int) (b:Int) 1=b-a:=by
 show (if (1:Int)>0 then (if (a:Int)<b then ((b:Int)-a-1) / 1+1 else 0) else _).toNat=_;refine Ac (if_pos (Al rfl)) ?_
 by_cases h:a<b
 .exact Ac (if_pos (dz.mpr h)) (Ac (mH _) (Ac (gU _ 1) (BE (kl (cC h)) rfl)))
 .exact Ac (if_neg fun q=>h (dz.mp q)) (Nat.sub_eq_zero_of_le (f0.mp h)).symm
theorem Zeo{v:aC}{k:Option Int}{Q:Option Int->aE->Prop}(p:mc v k)(h:Q k s):wpAny (model C.prog C.w) A (lS v) Q E s:=by
 cases p with
 | none=>exact slicePart_none h
 | int i t=>exact slicePart_int h
theorem Zep{S:aF}{m:Nat}{v V:aC}{lo i:Option Int}{Q:Int×Int×Nat->aE->Prop}(b:Ev lo=true)(c:Ev i=true)(e:s.heap.IsSliceOf S v V .none)(p:mc v lo)(pu:mc V i)
  (h:Q (((min (Fc lo) m:Nat):Int),1,min (FC m i) m-min (Fc lo) m) s) :
  wpAny (model C.prog C.w) A (g9 (.ref S) (pure (m:Int))) Q E s:=by
 refine Bu (id e) fun os a d H=>?_;unfold g9 mq;refine aB (aB (ek a H (x:=v) rfl (aB (ek a H (x:=V) rfl (aB (ek a H (x:=.none) rfl (aH ?_)))))));refine aB (slicePart_none ?_);show wpAny _ _ (if ((1:Int) == 0)=true then _ else _) _ _ s;refine Ac (if_neg (Al rfl)) (aB (Zeo p (aB (Zeo pu (aB (aH ?_))))));show wpAny _ _ (match hY lo i 1 (m:Int) with|(lo,i)=>pure (lo,(1:Int),e8 lo i 1)) _ _ s;refine Ac (Zem b c m) ?_;show wpAny _ _ (pure (((min (Fc lo) m:Nat):Int),(1:Int),e8 ((min (Fc lo) m:Nat):Int) ((min (FC m i) m:Nat):Int) 1)) _ _ s;rw[Zen];exact aH h
theorem Zeq(xs:Array aC)(a k:Nat):((eT k).filterMap fun (j:Nat)=>xs[((a:Int)+(j:Int)*1).toNat]?)=(xs.toList.drop a).take k:=by
 have e:(fun (j:Nat)=>xs[((a:Int)+(j:Int)*1).toNat]?)=fun j=>xs[a+j]?:=by
  funext j
  have:((a:Int)+(j:Int)*1).toNat=a+j:=by rw[lH];exact Int.toNat_natCast (a+j)
  exact Ac this rfl
 refine Ac e ?_;have:=pick_run xs a k;rw[List.filterMap_map] at this;exact this
theorem Zer{t S:aF}{items:Array aC}{v V:aC}{lo i:Option Int}(o:Ev lo=true)(p:Ev i=true)(d:IsTup s.heap t items)(n:s.heap.IsSliceOf S v V .none)(P:mc v lo)(pu:mc V i)
  (f:(items.toList.take (FC items.toList.length i)).drop (Fc lo)=items.toList->Q (.ref t) s)
  (h:Q (.ref s.heap.objs.size) { s with heap:=s.heap.push { cls:=.type "tuple",data:=.seq ((items.toList.take (FC items.toList.length i)).drop (Fc lo)).toArray } })
  (z:items.size<=sizeLine):wpAny (model C.prog C.w) A (getItem (.ref t) (.ref S)) Q E s:=by
 have b:(items.toList.drop (min (Fc lo) items.size)).take (min (FC items.size i) items.size-min (Fc lo) items.size)=(items.toList.take (FC items.toList.length i)).drop (Fc lo):=by
  have:=IG items.toList (Fc lo) (FC items.size i);rw[aR] at this ⊢;exact this
 have H:sizeOk (.seq ((items.toList.take (FC items.toList.length i)).drop (Fc lo)).toArray):=by
  show ((items.toList.take (FC items.toList.length i)).drop (Fc lo)).toArray.size<=sizeLine;refine Ac List.size_toArray (Ac i1 (Ac i2 (Ac aR ?_)));exact al (Nat.sub_le _ _) (al (lC _ _) z)
 refine Bu (id n) fun os l j q=>?_;have g:s.TypeIs (.ref S) "slice":=⟨os,l,j⟩;unfold getItem
 try with_reducible refine bN ?_
 first|refine aB (aH ?_)|skip
 refine aB (k8 d.typeIs (Al rfl) ?_)
 refine aB (fC (name:=aA "__getitem__") d.typeIs fz
  (f5 fz d.typeIs entry_tuple_getitem ?_ (args_tuple_getitem _ _)))
 show wpAny _ _ (hA (.ref t) >>= _) _ _ s;refine aB (tupleItemsOf_ d ?_);refine aB (jt g ?_);refine Ac (if_pos (Al rfl)) (aB (Zep o p n P pu ?_));generalize r:min (Fc lo) items.size=a at b ⊢;generalize u:min (FC items.size i) items.size-a=k at b ⊢;show wpAny _ _ (if ((a:Int) == 0&&(1:Int) == 1&&k == items.size)=true then _ else _) _ _ s
 by_cases c:((a:Int) == 0&&(1:Int) == 1&&k == items.size)=true
 .refine Ac (if_pos c) ?_;simp only[cV,beq_iff_eq] at c
  have e:(items.toList.take (FC items.toList.length i)).drop (Fc lo)=items.toList:=by
   exact BE b (Ac c.2 (Ac (show a=0 from iB c.1.1) (Ac fM (Ac (cI (by simp)) rfl))))
  refine aB ?_;unfold mf;refine aB (jt d.typeIs (aH ?_));refine Ac (if_pos (Al rfl)) (aB (mh ?_));exact aH ⟨_,rfl,aH (f e)⟩
 .refine Ac (if_neg c) (Ac (Zeq items a k) (Ac b ?_))
  first
   | exact aB (m:=d4 _) (dW (aH ⟨_,rfl,aH h⟩) H)
   | exact aB (m:=d4 _) (dW (aB (aH (aH ⟨_,rfl,aH h⟩))) H)
   | exact aB (aB (m:=d4 _) (dW (aH (aH ⟨_,rfl,aH h⟩)) H))
   | exact aB (aB (m:=d4 _) (dW (aH ⟨_,rfl,aH h⟩) H))
theorem Zes{v S:Expr}{o i:aC}{T id:String}(H:s.TypeIs o T)(l:bE (.type T) "__getitem__"=pure (some (.builtin id)))(h:wpAny (model C.prog C.w) A (getItem o i) Q E s)
  (c:dG S false o i=operate [i,o] (getItem o i)):wpAny (model C.prog C.w) A (iC v S o i) Q E s:=by
 unfold iC;refine aB (Ac (jE H.not_modules) (aB (dQ H l ?_)))
 have f:wpAny (model C.prog C.w) A (dG S false o i) (fun r a=>wpAny (model C.prog C.w) A (gY v o r >>= fun _=>pure r) Q E a) E s:=by
  exact Ac c (lP (bJ h (fun r a b=>aB (jS (aH b))) fun _ _ x=>x))
 first
  | exact aH (aB f)
  | exact aB (aH (aB f))
  | exact aB f
theorem SE.slc{e:Expr}{L U:Option Expr}{p pos:dc}{a:DE}{lo R:Option DE}(h:SE C n S e a)(hl:SP C n S L lo)(hu:SP C n S U R)
  (T:∀ o v,dG (.Slice L U none p) false o v=operate [v,o] (getItem o v)):SE C n S (.Subscript e (.Slice L U none p) pos) (HQ a lo R):=by
 refine⟨fun A g J H β s Q E P hp=>?_⟩;refine kz (AE.then hp (fun _ m=>h.go A g J H β s _ E P m) ?_);intro x ae v Y aj _ K V ai;refine wpAny_Slice (AE.then ai (fun _ m=>hl.go A g J Y aj ae _ E (P.after K) m) ?_);intro y am l Z aw _ M W aq;refine AE.then aq (fun _ m=>hu.go A g J Z aw am _ E ((P.after K).after M) m) ?_;intro z d u an bh _ N X ay;refine aH (Ah (GP ay) fun r hr c7=>?_);have B:=N.inv.push (s:=d) { cls:=.type "slice",data:=.fields #[y,z,.none] } d.toks;have V:=((V.mono M.grow).mono N.grow).mono B.grow;have F:=AE.shift B c7;have w:Heap.IsSliceOf (d.heap.push { cls:=.type "slice",data:=.fields #[y,z,.none] }) d.heap.objs.size y z .none:=mW ..;refine B9 hr fun q g1=>?_;rw[cV] at q;refine Gs g1 (fun l' ev G=>B9 G fun c D=>?_) (fun G=>Bf G fun l' b D=>B9 D fun c g4=>?_)
 .subst ev;obtain rfl:=inj D;refine BJ (VR.inv V) fun ad i f I hn j=>?_;subst f;have b:=j.length;rw[aR] at b;refine Zes (kU.typeIs' I) fz.lookup (Zer q.1 q.2 I w W X (fun e=>?_) ?_ (by refine Ac b ?_;exact al c (Al rfl))) (T _ _)
  .have O:=j.cut l u;rw[e] at O;exact F _ _ _ (.refl B.inv) (VR.tup I hn O)
  .have k:=B.inv.push (s:={ d with heap:=d.heap.push { cls:=.type "slice",data:=.fields #[y,z,.none] } }) { cls:=.type "tuple",data:=.seq ((i.toList.take (FC i.toList.length u)).drop (Fc l)).toArray } d.toks;refine F _ _ _ k (VR.tup (items:=((i.toList.take (FC i.toList.length u)).drop (Fc l)).toArray) ?_ B.inv.new_notin (by simpa using (j.cut l u).mono k.grow));exact⟨_,bC _ rfl,rfl,_,rfl⟩
 .obtain rfl:=inj g4;refine B2 (Gw B.inv V b) fun ad i f t j=>?_;subst f;have b:=j.length;rw[aR] at b;refine Zes t.typeIs kX.lookup (wpAny_getItem_list_slice t w W X .none (by simp) ?_ (by refine Ac b ?_;exact al c (Al rfl))) (T _ _);have k:=B.inv.push (s:={ d with heap:=d.heap.push { cls:=.type "slice",data:=.fields #[y,z,.none] } }) { cls:=.type "list",data:=.seq (lB i l u none) } d.toks;refine F _ _ _ k (.lst (items:=lB i l u none) ⟨_,bC _ rfl,rfl,_,rfl⟩ B.inv.new_notin ?_);rw[Zel q.1 q.2];exact (j.cut l u).mono k.grow
end
end Mine
namespace Mine
open PySem PySem.W PyProof.Rows PySem.Calls PySem.SeqAt
section
variable {prog:cB}{w:eL}{A:bY}{E:aC->aE->Prop}{K:aG}{D a:aF}
noncomputable def Dz(K:aG)(D:aF):Bool:=(clsIn K D).isSome&&findIn K (.ref D) "__getattribute__" == some (some (.builtin "BaseException.__getattribute__"))&&findIn K (.ref D) "__getattr__" == some none &&
 findIn K (.ref D) "__class__" == some (some (.builtin "object.__class__"))&&subIn K (.ref D) (.type "object") == some true&&subIn K (.ref D) (.type "BaseException") == some true
structure E0(K:aG)(D:aF):Prop where
 cls:(clsIn K D).isSome=true
 ga:findIn K (.ref D) "__getattribute__"=some (some (.builtin "BaseException.__getattribute__"))
 gn:findIn K (.ref D) "__getattr__"=some none
 cl:findIn K (.ref D) "__class__"=some (some (.builtin "object.__class__"))
 ob:subIn K (.ref D) (.type "object")=some true
 be:subIn K (.ref D) (.type "BaseException")=some true
theorem E0.of(h:Dz K D=true):E0 K D:=by
 unfold Dz at h;simp only[cV,beq_iff_eq] at h;refine AX h fun q e=>?_;obtain⟨⟨⟨⟨H,a⟩,b⟩,c⟩,d⟩:=q;exact⟨H,a,b,c,d,e⟩
def Qe(a D:aF)(h:aX):Prop:=∃ o vs,h.get? a=some o/\o.cls=.ref D/\o.data=.fields vs
variable {h:aX}{g:Array jM}{d:Drawn}{t:Nat}{os:eM}{o:fj}
theorem Zet{R:kF->aE->Prop}(F:E0 K D)(X:K.In h)(x:h.get? a=some o)(c:o.cls=.ref D)(q:R (.ok (.ret (.ref D))) ⟨h,g,d,t,os⟩) :
  codeAny (model prog w) A (.call (.builtin "getset_descriptor.__get__") ⟨[.builtin "object.__class__",.ref a,.ref D],[]⟩) R ⟨h,g,d,t,os⟩:=by
 have H:(⟨h,g,d,t,os⟩:aE).TypeIs (.builtin "object.__class__") "getset_descriptor":=eP;have L:jY (model prog w) h (mC (.ref D) (.type (".".intercalate ("object.__class__".cutAt '.').dropLast))) true:=by refine Ac PySem.F.owner_object_class ?_;exact lJ X F.ob
 refine d2 gM.plain PySem.F.entry_gs_get (gM.check _ _ _ _ _ _ _ _ H (PySem.F.args_gs_get _ _ _) ?_)
 repeat (any_goals (first|assumption|(with_reducible refine bA x ?_;refine Ac c ?_)|with_reducible refine L.at ?_|wp_step))
 refine⟨eA _ (by decide +kernel),jA PySem.F.entry_object_class ?_⟩
 repeat (any_goals (first|assumption|(with_reducible refine bA x ?_;refine Ac c ?_)|wp_step))
theorem Zeu{n:aC}{Q:Unit->aE->Prop}(F:E0 K D)(X:K.In h)(x:h.get? a=some o)(c:o.cls=.ref D)(q:Q () ⟨h,g,d,t,os⟩) :
  wpAny (model prog w) A (f6 "BaseException.__getattribute__" ⟨[.ref a,n],[]⟩) Q E ⟨h,g,d,t,os⟩:=by
 have k:builtinKind "BaseException.__getattribute__"=some .slot:=by decide +kernel
 have H:splitId "BaseException.__getattribute__"=some ("BaseException","__getattribute__"):=by decide +kernel
 have L:jY (model prog w) h (mC (.ref D) (.type "BaseException")) true:=lJ X F.be;have b:=PySem.F.args_bexc_ga (.ref a) n;simp only[f6,k,H];refine aB ?_;unfold f7
 repeat (first|(with_reducible refine bA x ?_;refine Ac c ?_)|with_reducible refine L.at ?_|wp_step)
 exact q
theorem Zev{tk:mM}{Q:Fin->aE->Prop}(F:E0 K D)(X:K.In h)(x:h.get? a=some o)(H:o.cls=.ref D)(q:Q (.done (.ret (.ref D))) ⟨h,g,d,t,os⟩) :
  wpAny (model prog w) A (fs.«object.__getattribute__» ⟨[.ref a,.str "__class__" tk],[]⟩) Q E ⟨h,g,d,t,os⟩:=by
 have b:(⟨h,g,d,t,os⟩:aE).TypeIs (.builtin "object.__class__") "getset_descriptor":=eP;have f:=eP;have c:=gM.lookup;have e:=PySem.F.slot_gs_set.lookup;have L:jY (model prog w) h (bE (.ref D) "__class__") (some (.builtin "object.__class__")):=eB X F.cl
 repeat (any_goals (first|assumption|(with_reducible refine bA x ?_;refine Ac H ?_)|with_reducible refine L.at ?_|wp_step))
 refine Zet F X x H ?_
 repeat (any_goals (first|assumption|wp_step))
theorem Qf{tk:mM}{Q:aC->aE->Prop}(F:E0 K D)(X:K.In h)(x:h.get? a=some o)(H:o.cls=.ref D)(q:Q (.ref D) ⟨h,g,d,t,os⟩) :
  wpAny (model prog w) A (getAttrBy (.ref a) (.str "__class__" tk) false) Q E ⟨h,g,d,t,os⟩:=by
 have f:=dC.ga.bind (.ref a);have c:(false&&lD (cY "BaseException.__getattribute__"))=false:=rfl;have b:(cY "BaseException.__getattribute__" == cY "object.__getattribute__")=false:=by decide +kernel
 have e:(lD (cD D)&&cY "BaseException.__getattribute__" == cY "object.__getattribute__")=false:=by refine Ac b ?_;rfl
 have L:jY (model prog w) h (bE (.ref D) "__getattribute__") (some (.builtin "BaseException.__getattribute__")):=eB X F.ga;have l:jY (model prog w) h (bE (.ref D) "__getattr__") none:=eB X F.gn
 repeat (any_goals (first|assumption|(with_reducible refine bA x ?_;refine Ac H ?_)|with_reducible refine L.at ?_|with_reducible refine l.at ?_|wp_step))
 refine d2 dC.ga.plain jI (Zeu F X x H (Zev F X x H ?_))
 repeat (any_goals (first|assumption|wp_step))
theorem Zew{Q:Option aC->aE->Prop}(F:E0 K D)(X:K.In h)(x:h.get? a=some o)(H:o.cls=.ref D)(q:Q (some (.ref D)) ⟨h,g,d,t+1,os⟩) :
  wpAny (model prog w) A (getAttr? (.ref a) "__class__") Q E ⟨h,g,d,t,os⟩:=by
 unfold getAttr? getAttrBy?
 repeat (any_goals (first|assumption|with_reducible apply Qf F X x H|wp_step))
theorem Zex(h:(clsIn K D).isSome=true):∃ o C,K.lookup D=some o/\o.data=.cls C:=by
 unfold clsIn at h
 cases e:K.lookup D with
 | none=>rw[e] at h;exact nb h
 | some o =>
  rw[e] at h;obtain⟨c,d,t,s⟩:=o
  cases t with
  | cls C=>exact⟨_,C,rfl,rfl⟩
  | _=>exact nb h
set_option tactic.hygienic true in
theorem Zey(F:E0 K D):mw K (.ref a) (.ref D) (Qe a D) where
 ty:=fun M h _ p=>by
  exact B2 p fun o v H b _=>b▸(Looks.ld H).andThen .now
 it:=fun _ _ X _=>Cg (Zex F.cls) fun o C f c A Q E S k q=>by
  unfold isType loadHead;exact aB (wpAny_loadPart (k _ _ (X _ _ f)) (aH (Ac c q)))
 ne:=fun h T j I n m X i=>fN.mpr fun q=>Cg (Zex F.cls) fun o C f c=>by
  have e:D=T:=my (beq_iff_eq.mp q);subst e;obtain rfl:=inj ((X _ _ f).symm.trans i);injection c
 ca:=fun {_ _ _ _ _ s} X p k=>by
  refine B2 p fun o v H b _=>?_;obtain⟨l,g,d,t,os⟩:=s;exact Zew F X H b k
end
inductive CT where
 | own (k:Nat)
 | bi (b:BI)
noncomputable def CT.av:CT->AV
 | .own k=>.cls k
 | .bi b=>.bi b
noncomputable def CT.val(C:Cx):CT->aC
 | .own k=>.ref (C.clv k)
 | .bi b=>b.val
theorem Me{P:Nat->Bool->Prop}:∀ c b,Fh [] c=some b->P c b:=fun c b h=>by injection h
theorem CB{P:Nat->Bool->Prop}{k:Nat}{v:Bool}{l:List (Nat×Bool)}(h:P k v)(r:∀ c b,Fh l c=some b->P c b):∀ c b,Fh ((k,v)::l) c=some b->P c b:=fun c b e=>by
 unfold Fh at e;rw[cq] at e
 cases q:c == k with
 | true=>rw[q] at e;obtain rfl:=inj e;exact Ac (beq_iff_eq.mp q) h
 | false=>rw[q] at e;exact r c b e
section
variable {C:Cx}{n:Nat}{S:AN}{env:f3}{β β':List aF}{s s':aE}{σ σ':AW}{H H':AH}{A:bY}{E:aC->aE->Prop}{mg mb:aW->Option aC}{K:aG}
theorem CT.is{h:aX}{x:aC}{t:CT}(r:VR C β h x t.av):x=t.val C:=by
 cases t with
 | own k=>exact r.inv
 | bi b=>exact r.inv
theorem CT.all{h:aX}:∀ {T:List CT} {xs:List aC},Bg C β h xs (T.map CT.av)->xs=T.map (CT.val C):=by
 intro T
 induction T with
 | nil=>exact fun r=>r.nil_inv
 | cons t T i =>
  intro xs r;obtain⟨x,w,e,a,r⟩:=r.cons_inv;refine Ac e (Ac (i r) (Ac (CT.is a) ?_));rfl
theorem Ze1{σ:AW}{H:AH}:∀ T:List CT,AL (T.map fun t=>Am t.av) σ H=.ok (T.map CT.av) H
 | []=>rfl
 | t::r=>by
  show ((Rs.ok _ _:Rs AV).bind _)=_
  (rewrite [Rs.bind_ok];refine Ac (Ze1 r) ?_);rfl
theorem Ze2{f:Nat->Option Bool}{v r:AV}(h:I0 f H v=some r):∃ c b,CC H v=some c/\f c=some b/\r=.bool b:=Bf h fun c d h=>EF h fun b a e=>⟨c,b,d,a,e.symm⟩
theorem IJ{x:aC}{v:AV}{c:Nat}(I:B7 C β s.heap H)(V:VR C β s.heap x v)(h:CC H v=some c):∃ a,x=.ref a/\Qe a (C.clv c) s.heap:=by
 have m:=h
 revert m V
 refine @AV.casesOn (fun v=>VR C β s.heap x v->CC H v=some c->∃ a,x=.ref a/\Qe a (C.clv c) s.heap) v (fun _ h=>nn h trivial) (fun _ _ h=>nn h trivial) (fun _ _ h=>nn h trivial) (fun _ _ h=>nn h trivial) (fun _ _ h=>nn h trivial) (fun _ _ h=>nn h trivial) (fun i V h=>?_) (fun _ _ h=>nn h trivial) (fun _ _ h=>nn h trivial) (fun _ _ h=>nn h trivial) (fun _ _ h=>nn h trivial) (fun _ _ _ h=>nn h trivial) (fun k V h=>?_)
 .refine Ah V.inv fun a e n=>Gu (f:=fun c _ _=>some c) h fun k d fl p h=>?_;obtain rfl:=inj h;exact CZ (I.obj i a _ n p) fun o l j b g _ _=>⟨a,e,o,l,j,b,g⟩
 .obtain rfl:=inj h;exact GI V.inv fun a o l e j b g _=>⟨a,e,o,l,j,b,g⟩
theorem B7.kin(hK:K.In C.base)(I:B7 C β s.heap H):K.In s.heap:=fun a o e=>I.base a o (hK a o e)
theorem SE.isiX1{F e T:Expr}{pos:dc}{d:DE}{t:CT}{f:Nat->Option Bool}(hK:K.In C.base)(hf:SE C n S F (Am (.bi .isinstance)))(he:SE C n S e d)(ht:SE C n S T (Am t.av))
  (l:∀ c b,f c=some b->Dz K (C.clv c)=true/\kitOne K (.ref (C.clv c)) (t.val C)=some b)
  (hc:∀ g,eval (.Call F [e,T] [] pos) g=(do callWith pos (<- eval F g) [] (backTo pos (starEach [e,T] g)) (backToKw pos (cz [] g))))
  (h:∀ g,starEach [e,T] g=(false,eval e g)::starEach [T] g)
  (j:∀ g,starEach [T] g=(false,eval T g)::starEach [] g)
  (i:∀ g,(backTo pos (starEach [e,T] g)).any (·.1)=false) :
  SE C n S (.Call F [e,T] [] pos) (CU f d):=by
 refine⟨fun A g N H U s Q E P hp=>?_⟩;refine l9 (bJ (hf.go A g N H U s (fun x o=>∃ B,Au C Bv U s B o H/\VR C B o.heap x (.bi .isinstance)) E P (fun x s' m a l=>⟨m,a,l⟩)) ?_ fun _ _ e=>e) (hc g);intro x o Z;refine Ah Z fun B I vx=>?_;have e':=VR.inv vx;subst e';have V:=AE.shift I hp;have k:=i g
 have key:wpAny (model C.prog C.w) A (spliced (backTo pos (starEach [e,T] g))) (fun ys D=>wpAny (model C.prog C.w) A (call (.builtin "isinstance") ys) Q E D) E o:=by
  refine cG (AE.then V (fun _ h'=>he.go A g N H B o _ E (P.after I) h') ?_) (h g);intro y D v O R _ W vy X;refine Ah (GP X) fun r hr Y=>B2 (Ze2 hr) fun c b M hb L=>?_;subst L;refine AX (l c b hb) fun hex u=>cG (bJ (ht.go A g N O R D (fun x G=>∃ J,Au C Bv R D J G O/\VR C J G.heap x t.av) E ((P.after I).after W) fun x s' m a l=>⟨m,a,l⟩) ?_ fun _ _ e=>e) (j g);intro z G Z;refine Ah Z fun J p vz=>?_;have ez:=CT.is vz;subst ez;refine dv (Ah (IJ p.inv (vy.mono p.grow) M) fun ea e0 l=>?_);subst e0;exact mP (Zey (E0.of hex)) (p.inv.kin hK) l u (by intro q;injection q) fun tk=>Y _ _ _ (p.trans (p.inv.toks tk)) (.bool b)
 rw[h g] at key k ⊢;exact cH k (bU key)
theorem SE.isiXT{F e:Expr}{j:List Expr}{k:Nat}{p pos:dc}{d:DE}{T:List CT}{f:Nat->Option Bool}(hK:K.In C.base)(hf:SE C n S F (Am (.bi .isinstance)))(he:SE C n S e d)(ht:DV C n S j (T.map fun t=>Am t.av))
  (m:∀ c b,f c=some b->Dz K (C.clv c)=true/\kitAny K (.ref (C.clv c)) (T.map (CT.val C))=some b)
  (hc:∀ g,eval (.Call F [e,.Tuple j k p] [] pos) g=(do callWith pos (<- eval F g) [] (backTo pos (starEach [e,.Tuple j k p] g)) (backToKw pos (cz [] g))))
  (h:∀ g,starEach [e,.Tuple j k p] g=(false,eval e g)::starEach [.Tuple j k p] g)
  (i:∀ g,(backTo pos (starEach [e,.Tuple j k p] g)).any (·.1)=false) (hl:T.length<=1048576) :
  SE C n S (.Call F [e,.Tuple j k p] [] pos) (CU f d):=by
 refine⟨fun A g R H Y s Q E P hp=>?_⟩;refine l9 (bJ (hf.go A g R H Y s (fun x z=>∃ G,Au C Bv Y s G z H/\VR C G z.heap x (.bi .isinstance)) E P (fun x s' o a m=>⟨o,a,m⟩)) ?_ fun _ _ e=>e) (hc g);intro x z Z;refine Ah Z fun G J vx=>?_;have e':=VR.inv vx;subst e';have ai:=AE.shift J hp;have l:=i g
 have key:wpAny (model C.prog C.w) A (spliced (backTo pos (starEach [e,.Tuple j k p] g))) (fun ys I=>wpAny (model C.prog C.w) A (call (.builtin "isinstance") ys) Q E I) E z:=by
  refine cG (AE.then ai (fun _ h'=>he.go A g R H G z _ E (P.after J) h') ?_) (h g);intro y I v U W _ ak vy aq;refine Ah (GP aq) fun r hr ay=>B2 (Ze2 hr) fun c b O hb N=>?_;subst N;refine AX (m c b hb) fun hex D=>cG (lI (bJ (ht.go A g R U W I (fun X u=>∃ M,Au C Bv W I M u U/\Bg C M u.heap X (T.map CT.av)) E p ((P.after J).after ak) ?_) ?_ fun _ _ e=>e)) rfl
  .rw[Ze1];exact fun x s' o a m=>⟨o,a,m⟩
  .intro X u Z;refine Ah Z fun M L V=>?_;have e:=CT.all V;subst e;refine⟨by rw[aK];exact al hl (Al rfl),dv ?_⟩;have B:=L.inv.push (s:=u) { cls:=.type "tuple",data:=.seq (T.map (CT.val C)).toArray } u.toks;refine Ah (IJ B.inv ((vy.mono L.grow).mono B.grow) O) fun ea e0 m=>?_;subst e0;refine mS (tp:=u.heap.objs.size) (its:=T.map (CT.val C)) (Zey (E0.of hex)) (B.inv.kin hK) m (bC _ rfl) D (by intro q;injection q) fun tk=>?_;have cn:=B.inv.toks tk;exact ay _ _ _ (L.trans (B.trans cn)) (.bool b)
 rw[h g] at key l ⊢;exact cH l (bU key)
theorem SS.raise(B:Dc C mg mb){x:aW}{np d pos:dc}{e:Expr}{c:Nat}{a:DE}(I:OwnCls x (C.clv c) [.type "ValueError",.type "Exception",.type "BaseException",.type "object"] "ValueError.__new__" mg C.base)(hx:x∈S.G)(h:SE C n S e a)
  (hS:S.calm=true) (hd:(x == ("__debug__":aW))=false) (r:∀ b,starEach [e] b=(false,eval e b)::starEach [] b) (g:∀ b,(backTo d (starEach [e] b)).any (·.1)=false) :
  SS C n S (.Raise (some (.Call (.Name x np) [e] [] d)) none pos) (Db c a):=by
 refine⟨fun A b σ H β s Q E F P hp=>?_⟩;obtain⟨O,u,N,nm,q,L,f,sn,sub,J,l,M,U,V,W,X,Y,Z,hC,hN,R,T⟩:=I;refine wpAny_Raise_call_subT (C:=C.clv c) (nm:=nm) (q:=q) (N:=N) (bs:=L) (bm:=u) (hdct:=f) (sn:=sn) (sub:=sub) (ab:=J) (col:=l) (dd:=M) (k0:=U) (k1:=V) (k2:=W) (k3:=X) (k5:=Y) (mN:=Z) eW (T.hasType (by decide +kernel)) (P.calm hS) (g b) R (bJ ((SE.glb B hx O (fun _ _=>VR.cls c) hd).go A b σ H β s (fun y j=>∃ p,Au C Bv β s p j H/\VR C p j.heap y (.cls c)) E P fun y s' β' a hy=>⟨β',a,hy⟩) ?_ fun _ _ e=>e);intro y j hZ;refine Ah hZ fun p ag vy=>?_;have e0:=vy.inv;subst e0;refine⟨rfl,?_⟩;have ai:=AE.shift (ag.weaken P.own) hp;have K:=P.after ag
 suffices key:wpAny (model C.prog C.w) A (spliced (backTo d (starEach [e] b))) (fun ys m=>(Args.mk ys []).kw=[]/\ys.length<=sizeLine/\m.heap.get? (C.clv c)=some (lK nm q (C.clv c) N L u f sn sub J l M U V W X Y "ValueError.__new__")/\m.heap.Ns N Z /\
   ju m.heap [.type "ValueError",.type "Exception",.type "BaseException",.type "object"] u/\∀ i e,Heap.MadeExcOf m.heap i e (.ref (C.clv c)) ys->E (.ref e) { m with heap:=i }) E j by
  rw[r b] at key ⊢;exact bU key
 refine cG (AE.thenE K.own ai (fun _ i=>h.go A b σ H p j _ E K i) ?_) (r b);intro z m v ac aw _ k vz aq;refine dv ⟨rfl,by show 1<=sizeLine;decide,k.inv.base _ _ hC,hN.keeps k.inv.base,T.keeps k.inv.base,fun i ea D=>?_⟩;have ax:=k.inv.keeps (s:=m) (h':=i) m.toks D.keeps;exact Ah D.there fun t ht _=>aq _ _ aw (ax.weaken (K.after k).own) ⟨ea,c,_,rfl,.inl ⟨rfl,fun hb=>by refine aD (k.inv.live ea hb) fun o I=>?_;rw[D.new] at I;injection I⟩,_,_,ht,rfl,rfl,D.new,.inl ⟨rfl,rfl⟩⟩
theorem Vi.mono{X:aF->Prop}{h h':aX}(g:BS X β h β' h'):∀ {f:mF} {fl:Fl},Vi C β h f fl->Vi C β' h' f fl
 | .next,.next,_=>trivial
 | .ret _,.ret _,r=>VR.mono g r
 | .next,.ret _,H=>H.elim
 | .ret _,.next,H=>H.elim
 | .brk,.next,H=>H.elim
 | .brk,.ret _,H=>H.elim
 | .cont,.next,H=>H.elim
 | .cont,.ret _,H=>H.elim
theorem ER.calmer(e:ER C S env β s.heap σ):ER C { S with calm:=false } env β s.heap σ:=⟨e.kind,e.globals,e.builtins,e.notL,e.locB,e.glo,e.cap,e.loc,e.cell,e.apart,e.slots,e.vars⟩
theorem ER.calmest(e:ER C { S with calm:=false } env β s.heap σ):ER C S env β s.heap σ:=⟨e.kind,e.globals,e.builtins,e.notL,e.locB,e.glo,e.cap,e.loc,e.cell,e.apart,e.slots,e.vars⟩
theorem Lk.cls{a:aF}{c:Nat}{x:AV}(l:Lk β H a c x):CC H x=some c:=by
 rcases l with ⟨e,_⟩|⟨i,d,e,_,h⟩
 .refine Ac e ?_;rfl
 .refine Ac e ?_;show (match H[i]? with|some (.exo c _ _)=>some c|_=>none)=some c;exact Ac h rfl
theorem Lk.vr{h:aX}{a:aF}{c:Nat}{x:AV}{o:fj}{vs:Array aC}(l:Lk β H a c x)(b:h.get? a=some o)(f:o.cls=.ref (C.clv c))(g:o.data=.fields vs):VR C β h (.ref a) x:=by
 rcases l with ⟨e,n⟩|⟨i,d,e,j,_⟩
 .refine Ac e ?_;exact .exc b f g n
 .refine Ac e ?_;exact .ref j
theorem SS.try_(B:Dc C mg mb)(hK:K.In C.base){e:Expr}{x N:aW}{np M Y pos:dc}{ck:eJ}{J:List eJ}{k:Nat}{a:DE}{cs:List Nat}{i:Nat}{d:DS}(he:SE C n S e a)(hx:x∈S.G)(hmg:mg x=some (.ref (C.clv k)))
  (hm:∀ c∈cs,exmOne K (.ref (C.clv c)) (.ref (C.clv k))=some true) (hi:S.Γ.lookup N=some i) (hL:N∈S.L) (hb:EH C n { S with calm:=false } (ck::J) d)
  (hdb:(x == ("__debug__":aW))=false) (hs:∀ b,dR e none M.line b=pure false) :
  SS C n S (.Try [.Expr e M] [.ExceptHandler (some (.Name x np)) (some N) (ck::J) Y] [] [] pos) (EA a cs i d):=by
 refine⟨fun A b W H β s Q E F P t=>?_⟩;refine wpAny_Try_except (iW (wpAny_Expr_any (he.go A b W H β s _ _ P ?_) ?_ (hs b)))
 rotate_left
 .unfold interactive;simp[P.env.kind]
 unfold EA at t
 cases hr:a W H with
 | ok v aa =>
  rw[hr] at t;intro y ae D V hy;exact eD (eD (t _ ae D (V.weaken P.own) ⟨trivial,(P.after V).env⟩))
 | bad=>rw[hr] at t;exact t
 | err y aa =>
  rw[hr] at t;intro e' ae D V hxr;refine Do hxr fun ea c jf eZ3 lk fly=>?_;subst eZ3;have X:=lk.cls;dsimp only at t;rw[X] at t;dsimp only at t
  split at t
  rotate_left
  .exact t.elim
  rename_i hcs;refine mae F fun nf U R=>?_;have hB:=P.inv.noB;have ar:=P.after V;refine Ah ar.stk fun l hl kk=>?_;rw[R] at hl;obtain rfl:=inj hl;have fr:=kk b (aN ..);refine Zbb (C:=C) R (Zbe kk) (Zbf kk) fr.loc hB V fly (lk.not V.inv.nodup) fun au jg jh gq ak d1=>Zbc (fo:=none) hB ak d1 fun bc f9 gu ax ei=>?_;have dq:ER C S b D bc W:=(ar.env.shake gq).shake gu;have eo:Fi C A D bc:=(ar.stk.shake gq).shake gu;refine wpAny_handleBy_cons (codeAny_handlers_test ?_) (by intro q;injection q);refine gF dq.kind (dq.glo x hx) (kT (mg:=mg) ?_ hmg ?_) hdb
  .refine Ac dq.globals ?_;exact B.g.keeps ax.inv.base
  have ir:K.In bc:=ax.inv.kin hK;refine US (id ei) fun oe vs T oT ts h1 h2 h3 _=>?_;have LT:jY (model C.prog C.w) bc (typeOf (.ref ea)) (.ref (C.clv c)):=h2▸(Looks.ld h1).andThen .now;refine exm_one ir LT (hm c hcs) _ _ _ _ (fun _ _ e=>e) (codeAny_handlers_suite_as (Zbc (fo:=none) hB ax ei fun gv ji gw bg iu=>US (id iu) fun oe vs T oT ts h1 h2 h3 _=>?_));have gx:ER C S b D gv W:=dq.shake gw;have vy:VR C D gv (.ref ea) y:=lk.vr h1 h2 h3;refine Qb bg.inv gx hi (nf N) vy fun dw bw fb=>?_;have iv:Fi C A D dw.heap:=(eo.shake gw).monoS bw.grow gx fb;have iw:DO C n (A.mark (some (.ref ea))) { S with calm:=false } b D dw (AM W i y) aa:=⟨bw.inv,fb.calmer,⟨P.room.depth,P.room.units⟩,(fun q=>(nomatch q)),iv,P.ne⟩;refine hb.go (A.mark (some (.ref ea))) b _ aa D dw _ _ ⟨nf,U,R⟩ iw ?_
  cases hd:d (AM W i y) aa with
  | ok p ac =>
   rw[hd,Rs.bindB_ok] at t;obtain⟨fl,bo⟩:=p;intro f ft gy gz ⟨hf,h⟩;have h:ER C S b gy ft.heap bo:=h.calmest;refine Ah h.vars fun m hns hv=>wpAny_nameGoes (h.loc N hL) hns (by refine Ac h.kind ?_;rfl) fun h' m' O Z=>?_;have g0:=gz.inv.ownStore h (.inl rfl) Z (by refine Do O fun o es ep ho I _=>?_;exact⟨o,ho,.inl ⟨es,ep,I⟩,fun _=>⟨es,ep,I⟩⟩) (ft.toks+1);refine t f _ gy ((((bg.weaken P.own).trans bw).trans gz).trans g0) ⟨hf.mono g0.grow,?_⟩
   have kc:∀ {z u v},b.cells.lookup z=some u->ft.heap.IsCell u v->h'.IsCell u v:=fun {z u v} hz hc=>by
    exact Ah hc fun o ho I=>⟨o,by refine Ac (Z.2 u (h.cell z u hz).2.2.2) ?_;exact ho,I⟩
   refine⟨h.kind,h.globals,h.builtins,h.notL,h.locB,h.glo,h.cap,h.loc,fun z u hz=>?_,h.apart,h.slots,m',O,fun z j hz=>?_⟩
   .refine AX (h.cell z u hz) fun qZ0 r=>?_;obtain⟨v,hv⟩:=qZ0;exact⟨⟨v,kc hz hv⟩,r⟩
   .rcases hv z j hz with ⟨hk,_⟩|⟨hk,u,v,hc,hcv,_⟩
    .exact .inl ⟨hk,trivial⟩
    .exact .inr ⟨hk,u,v,hc,kc hc hcv,trivial⟩
  | err _ _=>rw[hd] at t;exact t.elim
  | bad=>rw[hd] at t;exact t.elim
end
end Mine
namespace Mine
open PySem PySem.W PyProof.Rows PySem.Calls PySem.SeqAt
section
variable {C:Cx}{n:Nat}{S:AN}{env:f3}{β β':List aF}{s s':aE}{σ σ':AW}{H H':AH}{A:bY}{E:aC->aE->Prop}{Q:aC->aE->Prop}{mg mb:aW->Option aC}{K:aG}
theorem B7.allocAt(I:B7 C β s.heap H){h':aX}{a:aF}{ao:AO}(tk:Nat)(t:∀ b o,s.heap.get? b=some o->h'.get? b=some o)(l:s.heap.get? a=none)(m:∀ k,BS Bv β s.heap k h'->OR C k h' a ao) :
  Au C Bv β s (β++[a]) { s with heap:=h',toks:=tk } (H++[ao]):=by
 have g:BS Bv β s.heap (β++[a]) h':=⟨⟨⟨[a],rfl,fun b j=>by refine Ac (aJ.mp j) ?_;exact l⟩,fun b O e _ _=>⟨O,t b O e,.refl _⟩,fun _ h=>h.elim⟩,fun _ h=>h.elim⟩
 have u:a∉β:=fun y=>by
  refine aD (I.live a y) fun o m=>?_;rw[l] at m;injection m
 refine⟨g,⟨by simp[I.len],?_,fun i b x d f=>?_,fun b O e=>t b O (I.base b O e),?_⟩,_,tk,rfl⟩
 .refine cK.mpr ⟨I.nodup,by simp,fun b j c w=>?_⟩;refine Ac (aJ.mp w) ?_;rintro rfl;exact u j
 .by_cases p:i<β.length
  .rw[aM p] at d;rw[aM (I.len▸p)] at f;exact (I.obj i b x d f).keep g.toGrow0 fun _ v=>t _ _ v
  .have n:i<(β++[a]).length:=(Bm d);have r:i=β.length:=by simp at n;exact om4 p n
   subst r;rw[bT (bB _)] at d;rw[bT (by refine Ac I.len ?_;exact bB _),<- I.len] at f;simp at d f;subst d f;exact m _ g
 .intro b j
  rcases bl.mp j with d|d
  .exact I.fresh b d
  .refine Ac (aJ.mp d) ?_
   cases q:C.base.get? a with
   | none=>rfl
   | some O=>rw[I.base _ _ q] at l;injection l
theorem SE.newC{f e:Expr}{pos:dc}{d:DE}(hf:SE C n S f (Am (.bi .list)))(he:SE C n S e d)
  (t:∀ b,eval (.Call f [e] [] pos) b=(do callWith pos (<- eval f b) [] (backTo pos (starEach [e] b)) (backToKw pos (cz [] b))))
  (h:∀ b,starEach [e] b=(false,eval e b)::starEach [] b)
  (j:∀ b,(backTo pos (starEach [e] b)).any (·.1)=false) :
  SE C n S (.Call f [e] [] pos) (D4 d):=by
 refine⟨fun A b σ H β s Q E P X=>?_⟩;refine l9 (bJ (hf.go A b σ H β s (fun x B=>∃ L,Au C Bv β s L B H/\VR C L B.heap x (.bi .list)) E P (fun x s' K a hx=>⟨K,a,hx⟩)) ?_ fun _ _ e=>e) (t b);intro x B hZ;refine Ah hZ fun L Y vx=>?_;have e':=VR.inv vx;subst e';have ai:=AE.shift Y X;have p:=j b
 have key:wpAny (model C.prog C.w) A (spliced (backTo pos (starEach [e] b))) (fun ys c=>wpAny (model C.prog C.w) A (call (.type "list") ys) Q E c) E B:=by
  refine cG (AE.then ai (fun _ M=>he.go A b σ H L B _ E (P.after Y) M) ?_) (h b);intro y c v N Z _ O vy D;refine dv ?_
  have I:c.heap.get? c.heap.objs.size=none:=by
   cases q:c.heap.get? c.heap.objs.size with
   | none=>rfl
   | some o'=>exact absurd (bX q) (dj _)
  have k:∀ {a:aF} {T:String} {o:fj} {i:Array aC} {m:Nat} {l:List AV},(T="list"\/T="tuple")->c.heap.get? a=some o->o.cls=.type T->o.data=.seq i m->Bg C Z c.heap i.toList l->l.length<=1048576 ->
    AE C Bv (VR C) Z c (.ok (.ref N.length) (N++[.list l])) Q E->wpAny (model C.prog C.w) A (call (.type "list") [.ref a]) Q E c:=by
   intro a T o i m l hT J t F z G X;have r:=z.length;rw[aR] at r;refine call_list_seq a hT J t F (fun M c' hk hn=>?_) (by refine Ac r ?_;exact al G (Al rfl));have af:=O.inv.allocAt (s:=c) (h':=M) (a:=c.heap.objs.size) (ao:=.list l) c.toks hk I (fun K g=>⟨i,⟨c',hn⟩,z.mono g⟩);refine X _ _ _ af (.ref ?_);refine BE O.inv.len ?_;simp
  cases u:E9 N v with
  | none=>rw[u] at D;exact D.elim
  | some l =>
   rw[u] at D;refine Gs u (fun l' e g=>B9 g fun G U=>?_) fun g=>Bf g fun l' V g=>B9 g fun G U=>?_
   .subst e;obtain rfl:=inj U;refine BJ vy.inv fun _ _ e0 ht _ z=>?_;subst e0;exact C3 ht fun o J t m F=>k (.inr rfl) J t F z G D
   .obtain rfl:=inj U;refine B2 (Gw O.inv vy V) fun a i R W z=>?_;subst R;exact C3 W fun o J t m F=>k (.inl rfl) J t F z G D
 rw[h b] at key p ⊢;exact g8 p (bU key)
end
end Mine
namespace Mine
open PySem
open Sem (wp)
section
variable {prog:cB}{w:eL}{A:bY}{E:aC->aE->Prop}{s:aE}
abbrev SK:=Int×List Int
def D0(prog:cB)(w:eL)(h:aX)(k:SK)(a:aF):Prop:=∃ o t b n,h.get? a=some o/\o.cls=.type "tuple"/\o.data=.seq #[.int k.1 t,.ref b] n/\IsTupleKey (intKind prog w) h k.2 b
theorem D0.typeIs{k:SK}{a:aF}(x:D0 prog w s.heap k a):s.TypeIs (.ref a) "tuple":=Dp x fun o _ _ _ H h _=>⟨o,H,h⟩
theorem D0.inj{h:aX}{a:aF}{x y:SK}(q:D0 prog w h x a)(r:D0 prog w h y a):x=y:=by
 refine GJ q fun o t b n p _ l m=>GJ r fun O T B N e _ H d=>?_;obtain rfl:o=O:=da (p.symm.trans e);rw[l] at H;injection H with c _
 have c:=congrArg Array.toList c;injection c with f g
 injection g with i _
 injection f with j _
 injection i with k
 subst k;exact jX j (m.inj d)
theorem D0.keeps{h h':aX}{k:SK}{a d:aF}{o:fj}{es ep}(x:D0 prog w h k a)(g:h.get? d=some o)(f:o.data=.dict es ep)(s:dZ d h h'):D0 prog w h' k a:=by
 refine GJ x fun O t b n c i H j=>?_
 have e:a≠d:=by
  rintro rfl
  obtain rfl:O=o:=da (c.symm.trans g);rw[f] at H;exact nomatch H
 exact⟨O,t,b,n,(s.2 a e).trans c,i,H,j.keeps g f s⟩
theorem Ze3(k:SK):F8 k=ku (db [hashInt k.1,lb (intKind prog w) k.2]):=rfl
theorem Ze4{i:Int}{t:mM}:(intKind prog w).is i (.int i t)=true:=by
 show jZ i (.int i t)=true;simp[jZ]
theorem Ze5{k:SK}{a:aF}{Q:Int->aE->Prop}(u:A.units+1<cLine)(i:D0 prog w s.heap k a)(h:Q (F8 k) { s with toks:=s.toks+(k.2.length+3) }) :
  wpAny (model prog w) A (pyHash (.ref a)) Q E s:=by
 have c:=i.typeIs;refine GJ i fun o t b n m _ j l=>?_;unfold pyHash
 first|unfold pyHashByItsType|skip
 first|refine aB (wpAny_cRoomFor_or (.inr (by exact cC (by assumption))) ?_)|skip
 refine aB (dQ c fO.lookup ?_);show wpAny _ _ (if (some (cY "tuple.__hash__") == some cQ)=true then _ else _) Q E s;refine Ac (if_neg (by rw[beq_builtin_none];exact kI)) (aB (dQ c fO.lookup ?_));show wpAny _ _ (callSpecialIfBoundUnlessNone? (.ref a) "__hash__" _ >>= _) Q E s;refine aB (wpAny_callSpecialIfBoundUnlessNone?_slot c fO (f5 fO c F.entry_tuple_hash ?_ (F.args_tuple_hash_1 _)));show wpAny _ _ (hA (.ref a) >>= _) _ _ s;refine aB (hE m j ?_);refine aB (BE hO ?_)
 refine f8 _
  (fun r (B:Array Int) S=>(r=[.int k.1 t,.ref b]/\B.toList=[]/\S=s)\/(r=[.ref b]/\B.toList=[hashInt k.1]/\S={ s with toks:=s.toks+1 })\/(r=[]/\B.toList=[hashInt k.1,lb (intKind prog w) k.2]/\S={ s with toks:=s.toks+(k.2.length+2) }))
  _ ?_ ?_ _ _ (.inl ⟨rfl,rfl,rfl⟩)
 .rintro x r B S (⟨e,H,rfl⟩|⟨e,H,rfl⟩|⟨e,_⟩)
  .injection e with f g
   subst f g;refine aB ((intKind prog w).pyHash Ze4 ?_)
   first
    | exact aH (.inr (.inl ⟨rfl,by simp[H];rfl,rfl⟩))
    | exact aB (aH (aH (.inr (.inl ⟨rfl,by simp[H];rfl,rfl⟩))))
  .injection e with f g
   subst f g;refine aB (wpAny_pyHash_tuple (s:={ s with toks:=s.toks+1 }) u l ?_)
   first
    | exact aH (.inr (.inr ⟨rfl,by simp[H],by simp[fc,kQ 1]⟩))
    | exact aB (aH (aH (.inr (.inr ⟨rfl,by simp[H],by simp[fc,kQ 1]⟩))))
  .injection e
 .rintro B S (⟨e,_⟩|⟨e,_⟩|⟨_,H,rfl⟩)
  .injection e
  .injection e
  show wpAny _ _ (retInt (db B.toList)) _ _ _;refine Ac H (lT ?_);rw[Ze3 (prog:=prog) (w:=w)] at h;generalize db [hashInt k.1,lb (intKind prog w) k.2]=T at h ⊢;show wpAny _ _ (if (decide (-(2:Int) ^ 63<=T)&&decide (T<2 ^ 63))=true then _ else _) Q E _;unfold ku at h
  by_cases d:(decide (-(2:Int) ^ 63<=T)&&decide (T<2 ^ 63))=true
  .refine Ac (if_pos d) ?_;rw[if_pos d] at h;exact aH (by simpa [fc] using h)
  .refine Ac (if_neg d) ?_;rw[if_neg d] at h;exact aB (mh (aH (by simpa [fc] using h)))
theorem Ze6{x y:SK}{a b:aF}{P:Fin->aE->Prop}(C:A.units<cLine)(D:D0 prog w s.heap x a)(z:D0 prog w s.heap y b)(h:P (.done (.ret (.bool (decide (x=y))))) s) :
  wpAny (model prog w) A (fs.«tuple.__eq__» ⟨[.ref a,.ref b],[]⟩) P E s:=by
 have i:=z.typeIs;refine GJ D fun O T B N o _ j m=>GJ z fun F tb t nb p _ k n=>?_;show wpAny _ _ (f7 (.ref b) (.type "tuple") >>= _) _ _ s;refine aB (i6 i fU ?_);simp only[d5,cv,if_false];refine aB (hE o j ?_);refine aB (hE p k ?_);refine aB ?_
 refine f8 _
  (fun R r S=>r.1=none/\S=s/\((R=[(.int x.1 T,.int y.1 tb),(.ref B,.ref t)])\/(R=[(.ref B,.ref t)]/\x.1=y.1)\/(R=[]/\x=y)))
  _ ?_ ?_ _ _ ⟨rfl,rfl,.inl rfl⟩
 .rintro⟨u,v⟩ R r S ⟨q,rfl,(e|⟨e,h1⟩|⟨e,_⟩)⟩
  .injection e with c d
   injection c with f g
   subst d f g;refine aB ((intKind prog w).eqBool (a:=x.1) (b:=y.1) Ze4 Ze4 ?_)
   by_cases H:x.1=y.1
   .refine Ac (decide_eq_true H) ?_;simp only[d5,cv,if_false];exact aH ⟨rfl,rfl,.inr (.inl ⟨by first|trivial|rfl,H⟩)⟩
   .refine Ac (decide_eq_false H) ?_;simp only[mi,if_true];have l:decide (x=y)=false:=decide_eq_false fun e=>H (by exact Ac e rfl);rw[l] at h;exact aB (aH (aH (aH h)))
  .injection e with c d
   injection c with f g
   subst d f g;refine aB (wpAny_eqBool_tuple C m n ?_)
   by_cases H:x.2=y.2
   .refine Ac (decide_eq_true H) ?_;simp only[d5,cv,if_false];exact aH ⟨rfl,rfl,.inr (.inr ⟨by first|trivial|rfl,jX h1 H⟩)⟩
   .refine Ac (decide_eq_false H) ?_;simp only[mi,if_true];have l:decide (x=y)=false:=decide_eq_false fun e=>H (by exact Ac e rfl);rw[l] at h;exact aB (aH (aH (aH h)))
  .injection e
 .rintro⟨G,I⟩ S ⟨q,rfl,(e|⟨e,_⟩|⟨_,e⟩)⟩
  .injection e
  .injection e
  simp only at q;subst q;refine aH ?_;rw[decide_eq_true e] at h;exact h
theorem Ze7{x y:SK}{a b:aF}{Q:Bool->aE->Prop}(u:A.units+2<cLine)(c:D0 prog w s.heap x a)(d:D0 prog w s.heap y b)(h:Q (decide (x=y)) s) :
  wpAny (model prog w) A (eqBool (.ref a) (.ref b)) Q E s:=by
 unfold eqBool
 try with_reducible refine bN ?_
 show wpAny _ _ (if (cD a == cD b)=true then _ else _) Q E s
 by_cases H:(cD a == cD b)=true
 .refine Ac (if_pos H) ?_;have e:a=b:=by have:=eq_of_beq H;injection this
  subst e;obtain rfl:=c.inj d;exact aB (mh (aH (by simpa using h)))
 .refine Ac (if_neg H) ?_
  exact aB (wpAny_richCompare_same_room (op:=.Eq) c.typeIs d.typeIs gJ
   (f5 gJ c.typeIs F.entry_tuple_eq (Ze6 (by show A.units+_<cLine;exact cC (by assumption)) c d ⟨_,rfl,(fun e=>nomatch e),cN h⟩) (F.args_tuple_eq_2 _ _)) (om8 u))
theorem Ze8{n:Nat}{ks:List Int}{a:aF}{Q:Bool->aE->Prop}(k:IsTupleKey (intKind prog w) s.heap ks a)(h:Q true s):wpAny (model prog w) A (j8 (n+1) (.ref a)) Q E s:=by
 have T:=k.typeIs;refine Dl k fun o i n g _ d f=>?_;unfold j8;refine aB (dQ T gJ.lookup ?_);show wpAny _ _ (f7 (.ref a) (.type "tuple") >>= _) _ _ s;refine aB (i6 T fU ?_);simp only[d5,cv,if_false];refine aB (jU g d ?_);refine aB ?_;show wpAny _ _ (forIn i _ _) _ _ s;refine BE hO (f8 _ (fun R r S=>r.1=none/\S=s/\∀ v∈R,carriedByValue v=true) _ ?_ ?_ _ _ ⟨rfl,rfl,f.byValue⟩)
 .intro v R r S Z;refine GH Z fun b e H=>?_;subst e;refine Ac (lc _ (H v aN)) (aB (aH ?_));simp only[d5,cv,if_false];exact aH ⟨rfl,rfl,fun u c=>H u (aT _ c)⟩
 .rintro⟨j,l⟩ S ⟨b,rfl,_⟩
  simp only at b;subst b;exact aH h
theorem Ze9{k:SK}{a:aF}{Q:Bool->aE->Prop}(g:D0 prog w s.heap k a)(h:Q true s):wpAny (model prog w) A (j8 8 (.ref a)) Q E s:=by
 have T:=g.typeIs;refine GJ g fun o t b n l _ i j=>?_;unfold j8;refine aB (dQ T gJ.lookup ?_);show wpAny _ _ (f7 (.ref a) (.type "tuple") >>= _) _ _ s;refine aB (i6 T fU ?_);simp only[d5,cv,if_false];refine aB (jU l i ?_);refine aB ?_;show wpAny _ _ (forIn (#[Value.int k.1 t,.ref b]:Array aC) _ _) _ _ s;refine BE hO (f8 _ (fun R r S=>r.1=none/\S=s/\∀ v∈R,v=.int k.1 t\/v=.ref b) _ ?_ ?_ _ _ ⟨rfl,rfl,fun v m=>by simpa using m⟩)
 .intro v R r S Z;refine GH Z fun c e H=>?_;subst e
  have f:∀ Q:Bool->aE->Prop,Q true S->wpAny (model prog w) A (j8 7 v) Q E S:=fun Q q=>by
   rcases H v aN with rfl|rfl
   .refine Ac (lc _ rfl) ?_;exact aH q
   .exact Ze8 j q
  refine aB (f _ ?_);simp only[d5,cv,if_false];exact aH ⟨rfl,rfl,fun u d=>H u (aT _ d)⟩
 .rintro⟨p,x⟩ S ⟨c,rfl,_⟩
  simp only at c;subst c;exact aH h
end
def Ef(prog:cB)(w:eL):HeapKind prog w SK where
 is:=D0 prog w
 hash:=F8
 draws:=fun k=>k.2.length+3
 room:=fun A=>A.units+2<cLine
 inj:=fun a y=>a.inj y
 keeps:=fun x o d s=>x.keeps o d s
 pyHash:=fun u H h=>Ze5 (by exact cC (by assumption)) H h
 eqBool:=fun u a y h=>Ze7 u a y h
 quiet:=fun H h=>Ze9 H h
section
variable {prog:cB}{w:eL}{A:bY}{E:aC->aE->Prop}{s:aE}
theorem Zfa{d:aF}(a:(d == jv)=false) :
  MeetsIn prog w (fs.«dict.__len__» ⟨[.ref d],[]⟩) (fun _ R s=>∃ o e E,s.heap.get? d=some o/\o.ExactDict/\o.data=.dict e E/\R (.ok (.ret (.int e.size s.toks))) { s with toks:=s.toks+1 }) :=
 .of_wp fun A R s Z=>by
  refine Dl Z fun o e E b c H h=>?_;show wpAny _ _ (dictSize d >>= _) _ _ s;unfold dictSize;refine aB (aB (wpAny_dictEntries b H (aH ?_)));show wpAny _ _ (mr d >>= _) _ _ s;refine aB (wpAny_pendingCount_other a ?_);refine lT ?_;rw[Nat.add_zero];exact h
theorem Zfb{d:aF}{o:fj}{e:Array lp}{p:Nat}{Q:aC->aE->Prop}(b:(d == jv)=false)(a:s.heap.get? d=some o)(x:o.ExactDict)(t:o.data=.dict e p)(H:(e.size:Int)<2 ^ 63)
  (h:Q (.int e.size (s.toks+1)) { s with toks:=s.toks+1+1 }):wpAny (model prog w) A (call (.builtin "len") [.ref d]) Q E s:=by
 have T:s.TypeIs (.ref d) "dict":=⟨o,a,x.1⟩;refine Calls.call_function_entry kind_len plain_len entry_len (args_len1 _) ?_;unfold fs.«len»;refine aB (m:=oneArg "len" _) (aH ?_)
 refine aB (m:=callSpecial? (.ref d) "__len__") (fC (name:=aA "__len__") T lU
  (call_meetsIn lU T F.entry_dict_len (F.args_dict_len_1 _) (Zfa b) ⟨o,e,p,a,x,t,?_⟩))
 show wpAny _ _ _ _ _ { s with toks:=s.toks+1 };refine aB (bN (aH ?_));refine aB (wpAny_letGo ?_);show wpAny _ _ (if ((e.size:Nat):Int)<0 then _ else _) _ _ _;refine Ac (if_neg (om9 H)) ?_;show wpAny _ _ (if ((e.size:Nat):Int) ≥ 2 ^ 63 then _ else _) _ _ _;exact Ac (if_neg (Z1u H)) (aB (wpAny_mkInt (aH ⟨_,rfl,h⟩)))
end
end Mine
namespace Mine
open PySem PySem.W PyProof.Rows PySem.Calls PySem.SeqAt
section
variable {C:Cx}{n:Nat}{S:AN}{env:f3}{β β':List aF}{s s':aE}{σ σ':AW}{H H':AH}{A:bY}{E:aC->aE->Prop}{mg mb:aW->Option aC}
theorem Zfc{b:Type}{f:b->Bool}{a:b}{l:List b}(h:f a=true):(a::l).find? f=some a:=by exact Ac (eG) (Ac h rfl)
theorem Zfd{b:Type}{f:b->Bool}{a:b}{l:List b}(h:f a=false):(a::l).find? f=l.find? f:=by exact Ac (eG) (Ac h rfl)
theorem Qg{K:Type}[DecidableEq K]{a k:K}{v:aC}{l:List (K×aC)}(e:a=k):valueAt ((a,v)::l) k=some v:=by unfold valueAt;rw[Zfc (a:=(a,v)) (f:=fun p=>decide (p.1=k)) (decide_eq_true e)];rfl
theorem Qh{K:Type}[DecidableEq K]{a k:K}{v:aC}{l:List (K×aC)}(e:¬ a=k):valueAt ((a,v)::l) k=valueAt l k:=by unfold valueAt;rw[Zfd (a:=(a,v)) (f:=fun p=>decide (p.1=k)) (decide_eq_false e)]
theorem Zfe{K:Type}[DecidableEq K]{a k:K}{v:AV}{l:List (K×AV)}(e:a=k):AY ((a,v)::l) k=some v:=by unfold AY;rw[Zfc (a:=(a,v)) (f:=fun p=>decide (p.1=k)) (decide_eq_true e)];rfl
theorem Zff{K:Type}[DecidableEq K]{a k:K}{v:AV}{l:List (K×AV)}(e:¬ a=k):AY ((a,v)::l) k=AY l k:=by unfold AY;rw[Zfd (a:=(a,v)) (f:=fun p=>decide (p.1=k)) (decide_eq_false e)]
theorem Zfg{K V W:Type}{P:List (K×V)->List (K×W)->Prop}(n:P [] [])(d:∀ a v w kvs l,kvs.map (·.1)=l.map (·.1)->P kvs l->P ((a,v)::kvs) ((a,w)::l)):∀ {kvs:List (K×V)} {l:List (K×W)},kvs.map (·.1)=l.map (·.1)->P kvs l:=by
 intro kvs
 induction kvs with
 | nil=>intro l h;cases l with
  | nil=>exact n
  | cons q l=>injection h
 | cons p kvs i=>intro l h;cases l with
  | nil=>injection h
  | cons q l =>
   injection h with H c
   obtain⟨a,v⟩:=p;obtain⟨b,w⟩:=q;have H:a=b:=H;subst H;exact d a v w kvs l c (i c)
theorem Zfh{K:Type}[DecidableEq K]{h:aX}:∀ {kvs:List (K×aC)} {l:List (K×AV)},kvs.map (·.1)=l.map (·.1)->Bg C β h (kvs.map (·.2)) (l.map (·.2))->∀ k,(valueAt kvs k).isSome=(AY l k).isSome/\∀ d,AY l k=some d->∃ v,valueAt kvs k=some v/\VR C β h v d:=Zfg (P:=fun kvs l=>Bg C β h (kvs.map (·.2)) (l.map (·.2))->∀ k,(valueAt kvs k).isSome=(AY l k).isSome/\∀ d,AY l k=some d->∃ v,valueAt kvs k=some v/\VR C β h v d) (fun _ k=>⟨rfl,fun d h=>nn h trivial⟩) fun a v d kvs l b i r k=>by
 have q:=r.uncons
 by_cases e:a=k
 .refine Ac (Qg e) (Ac (Zfe e) ?_);exact⟨rfl,fun D H=>⟨v,rfl,inj H▸q.1⟩⟩
 .refine Ac (Qh e) (Ac (Zff e) ?_);exact i q.2 k
theorem Zfi{K V W:Type}[DecidableEq K]{kvs:List (K×V)}{l:List (K×W)}(k:K)(h:kvs.map (·.1)=l.map (·.1)):kvs.any (fun p=>decide (p.1=k))=l.any (fun p=>decide (p.1=k)) :=
 Zfg (P:=fun (kvs:List (K×V)) (l:List (K×W))=>kvs.any (fun p=>decide (p.1=k))=l.any (fun p=>decide (p.1=k))) rfl (fun a v w kvs l _ i=>congrArg (decide (a=k) || ·) i) h
theorem Zfj{K:Type}[DecidableEq K]{h:aX}{k:K}{v:aC}{d:AV}(q:VR C β h v d):∀ {kvs:List (K×aC)} {l:List (K×AV)},kvs.map (·.1)=l.map (·.1)->Bg C β h (kvs.map (·.2)) (l.map (·.2)) ->
  (kvs.map fun p=>if p.1=k then (p.1,v) else p).map (·.1)=(l.map fun p=>if p.1=k then (p.1,d) else p).map (·.1)/\Bg C β h ((kvs.map fun p=>if p.1=k then (p.1,v) else p).map (·.2)) ((l.map fun p=>if p.1=k then (p.1,d) else p).map (·.2)):=Zfg (P:=fun kvs l=>Bg C β h (kvs.map (·.2)) (l.map (·.2)) ->
  (kvs.map fun p=>if p.1=k then (p.1,v) else p).map (·.1)=(l.map fun p=>if p.1=k then (p.1,d) else p).map (·.1)/\Bg C β h ((kvs.map fun p=>if p.1=k then (p.1,v) else p).map (·.2)) ((l.map fun p=>if p.1=k then (p.1,d) else p).map (·.2))) (fun _=>⟨rfl,.nil⟩) fun a w e kvs l c b r=>by
 have R:=r.uncons;refine AX (b R.2) fun i I=>?_
 by_cases H:a=k
 .simp only[ci,H,if_true];exact⟨by exact Ac i rfl,.cons q I⟩
 .simp only[ci,H,if_false];exact⟨by exact Ac i rfl,.cons R.1 I⟩
theorem Zfk{K:Type}[DecidableEq K]{h:aX}{k:K}{v:aC}{d:AV}(q:VR C β h v d){kvs:List (K×aC)}{l:List (K×AV)}(H:kvs.map (·.1)=l.map (·.1))(a:Bg C β h (kvs.map (·.2)) (l.map (·.2))) :
  (stored kvs k v).map (·.1)=(Cp l k d).map (·.1)/\Bg C β h ((stored kvs k v).map (·.2)) ((Cp l k d).map (·.2)):=by
 have e:=Zfi (kvs:=kvs) (l:=l) k H;unfold stored Cp;refine Ac e ?_
 split
 .exact Zfj q H a
 .simp only[cw,ci,lf];exact⟨by exact Ac H rfl,a.append (.cons q .nil)⟩
theorem Zfl(I:B7 C β s.heap H){x:aC}{v:AV}{l:List (Int×AV)}(V:VR C β s.heap x v)(h:dictI? H v=some l) :
  ∃ a j kvs,x=.ref a/\v=.ref j/\β[j]?=some a/\H[j]?=some (.dict l)/\s.heap.DictOf (intKind C.prog C.w) a kvs/\kvs.map (·.1)=l.map (·.1)/\Bg C β s.heap (kvs.map (·.2)) (l.map (·.2)):=Dq h fun j e g=>I4 g fun L c g=>by
 subst e;obtain rfl:=inj g;exact Ah V.inv fun a E b=>Bu (I.obj j a _ b c) fun kvs d f i=>⟨a,j,kvs,E,rfl,b,c,d,f,i⟩
theorem B7.notMods(B:Dc C mg mb)(I:B7 C β s.heap H){a:aF}{j:Nat}(hb:β[j]?=some a):(a == jv)=false:=by
 have h:=I.fresh a (aV hb);refine Ah B.seer.mods fun m Q _=>Gg Q fun o E e b _=>?_
 cases q:a == jv with
 | false=>rfl
 | true =>
  have:a=jv:=by simpa using q
  rw[this,b] at h;injection h
theorem KN{i:Int}{t:mM}:(intKind C.prog C.w).is i (.int i t)=true:=by
 show jZ i (.int i t)=true;simp[jZ]
theorem Zfm{k d r:AV}(h:hasI H k d=some r):∃ l i,dictI? H d=some l/\k=.int i/\r=.bool (AY l i).isSome:=Bf h fun l e h=>D5 h fun i E h=>⟨l,i,e,E,(inj h).symm⟩
theorem Zfn{k d r:AV}(h:getI H d k=some r):∃ l i,dictI? H d=some l/\k=.int i/\AY l i=some r:=Bf h fun l e h=>D5 h fun i E h=>⟨l,i,e,E,h⟩
theorem ST.hasI(B:Dc C mg mb){l r:Expr}{pos:dc}{a b:DE}(O:SE C n S l a)(U:SE C n S r b)(T:gB .In r=false):ST C n S (.Compare l [.In] [r] pos) (Aq (Gk a b)):=by
 refine⟨fun A f m H Z s Q E P p=>?_⟩;have p:=AE.bind (R:=VR C) p;refine fT (AE.then p (fun _ h=>O.go A f m H Z s _ E P h) ?_) T;intro x q v o F _ z X D;refine AE.then D (fun _ h=>U.go A f m o F q _ E (P.after z) h) ?_;intro y am u ac aw _ k Y G;refine Ah (GP G) fun c L I=>B2 (Zfm L) fun l i M e d=>?_;subst e;subst d;refine It (Zfl k.inv Y M) fun ad j W e d K hH J N V=>?_;subst e;subst d;refine aD ((X.mono k.grow).int_inv) fun t g=>?_;subst g;exact wpAny_in_of (knd:=intKind C.prog C.w) KN (k.inv.notMods B K) J.mapOf (Ac ((Zfh N V i).1) (cN (FA (I _ _ _ (k.inv.toks _) (.bool _)))))
theorem Qi{K:Type}[DecidableEq K]{knd:KeyKind C.prog C.w K}{a:aF}{l:List (K×AV)}{i:K}{r:AV}{h:aX}(o:DR C β h a knd l)(g:AY l i=some r):∃ kvs z,h.DictOf knd a kvs/\valueAt kvs i=some z/\VR C β h z r:=by
 exact Bu o fun kvs H k v=>Ah ((Zfh k v i).2 r g) fun z hz V=>⟨kvs,z,H,hz,V⟩
theorem SE.getK{K:Type}[DecidableEq K]{knd:KeyKind C.prog C.w K}{dg:AH->AV->AV->Option AV}(G:∀ {β:List aF} {s:aE} {H:AH} {x y:aC} {v u r:AV},B7 C β s.heap H->VR C β s.heap x v->VR C β s.heap y u->dg H v u=some r->∃ a l i,x=.ref a/\knd.is i y=true/\DR C β s.heap a knd l/\AY l i=some r)
  {e i:Expr} {pos:dc} {a b:DE} (h:SE C n S e a) (k:SE C n S i b) (N:∀ o v,dG i false o v=operate [o,v] (getItem o v)):SE C n S (.Subscript e i pos) (fun σ H=>(a σ H).bind fun x aa=>(b σ aa).bind fun y d=>DZ d (dg d x y)):=by
 refine⟨fun A c σ H β s Q E P L=>?_⟩;refine kz (AE.then L (fun _ j=>h.go A c σ H β s _ E P j) ?_);intro x m v aa t _ p V q;refine AE.then q (fun _ j=>k.go A c σ aa t m _ E (P.after p) j) ?_;intro y U u d W _ f R B;refine Ah (GP B) fun r M F=>Dl (G f.inv (V.mono f.grow) R M) fun ad l i g I o J=>?_;subst g;refine B2 (Qi o J) fun O z D hz T=>Zb6 D.typeIs lg.lookup (wpAny_getItem_of (knd:=knd) I D.mapOf hz ?_) (N _ _);exact F _ _ _ (f.inv.toks _) T
theorem SE.getI{e i:Expr}{pos:dc}{a b:DE}(h:SE C n S e a)(k:SE C n S i b)(s:∀ o v,dG i false o v=operate [o,v] (getItem o v)):SE C n S (.Subscript e i pos) (Hp a b) :=
 SE.getK (knd:=intKind C.prog C.w) (dg:=Mine.getI) (fun I V y r=>by
  refine B2 (Zfn r) fun l i f c g=>?_;subst c;refine It (Zfl I V f) fun ad j K d _ _ _ H m p=>aD y.int_inv fun t E=>?_;subst E;exact⟨ad,l,i,d,KN,⟨K,H,m,p⟩,g⟩) h k s
theorem Qj{i:aW}{t:mM}:(strKind C.prog C.w).is i (.str i t)=true:=by
 show (i == i)=true;exact beq_self_eq_true i
theorem Zfo{k d r:AV}(h:getN H d k=some r):∃ j l i,d=.ref j/\H[j]?=some (.dictN l)/\k=.str i/\AY l i=some r:=Bf h fun l E h=>Ma h fun i a h=>Dq E fun j e E=>Za1 (f:=some) E fun _ q E=>⟨j,l,i,e,inj E▸q,a,h⟩
theorem SE.getN{e i:Expr}{pos:dc}{a b:DE}(h:SE C n S e a)(k:SE C n S i b)(s:∀ o v,dG i false o v=operate [o,v] (getItem o v)):SE C n S (.Subscript e i pos) (BC a b) :=
 SE.getK (knd:=strKind C.prog C.w) (dg:=Mine.getN) (fun I V y r=>by
  refine Dl (Zfo r) fun j l i d m f g=>?_;subst d;subst f;refine Ah V.inv fun ad c H=>aD y.inv fun t E=>?_;subst E;exact⟨ad,l,i,c,Qj,I.obj j ad _ H m,g⟩) h k s
theorem Zfp{d k v:AV}(h:putI H d k v=some H'):∃ j l i,d=.ref j/\H[j]?=some (.dict l)/\k=.int i/\l.length<=1000000/\H'=H.set j (.dict (Cp l i v)):=Dq h fun j e h=>I4 h fun l E h=>D5 h fun i a h=>B9 h fun b h=>⟨j,l,i,e,E,a,b,(inj h).symm⟩
theorem B7.setObj(I:B7 C β s.heap H){i:Nat}{a:aF}{h':aX}{ao ao':AO}(hb:β[i]?=some a)(t:H[i]?=some ao)(m:dZ a s.heap h')(w:∀ g:BS Bv β s.heap β h',OR C β h' a ao')(tk:Nat) :
  Au C Bv β s β { s with heap:=h',toks:=tk } (H.set i ao'):=by
 have n:a∈β:=aV hb;have g:BS Bv β s.heap β h':=⟨⟨⟨[],by simp,fun _ h=>nomatch h⟩,fun b o v u _=>⟨o,by refine Ac (m.2 b (fun q=>u (q▸n))) ?_;exact v,.refl _⟩,fun _ h=>h.elim⟩,fun _ h=>h.elim⟩;refine⟨g,⟨by refine Ac bZ ?_;exact I.len,I.nodup,fun j b ao f k=>?_,fun b o d=>?_,I.fresh⟩,h',tk,rfl⟩
 .by_cases q:j=i
  .subst q;rw[hb] at f;obtain rfl:=inj f;rw[bR (Bm t)] at k;obtain rfl:=inj k;exact w g
  .rw[bI (ct q)] at k
   have c:b≠a:=fun e=>by
    subst e;have p:=(bp.mp f);have r:=(bp.mp hb);exact q ((dH I.nodup).mp (p.2.trans r.2.symm))
   exact (I.obj j b ao f k).keep g.toGrow0 fun _ l=>by refine Ac (m.2 b c) ?_;exact l
 .have c:b≠a:=fun q=>by have:=I.fresh a n;rw[<- q,d] at this;injection this
  exact Ac (m.2 b c) (I.base b o d)
theorem SS.putK{K:Type}[DecidableEq K]{knd:KeyKind C.prog C.w K}{mk:List (K×AV)->AO}(z:∀ β h a l,OR C β h a (mk l)=DR C β h a knd l){pu:AH->AV->AV->AV->Option AH}
  (R:∀ {H X:AH} {u q v:AV},pu H u q v=some X->∃ j l i,u=.ref j/\H[j]?=some (mk l)/\(∀ {β:List aF} {h:aX} {y:aC},VR C β h y q->knd.is i y=true)/\l.length<=1000000/\X=H.set j (mk (Cp l i v)))
  {o i e:Expr} {p pos:dc} {a b c:DE} (ho:SE C n S o a) (hi:SE C n S i b) (he:SE C n S e c) (hs:∀ d,dR e (some (.Subscript o i p)) pos.line d=pure false):SS C n S (.Assign [.Subscript o i p] e pos)
   (fun σ H=>(c σ H).bind fun v aa=>(a σ aa).bind fun x D=>(b σ D).bind fun p G=>match pu G x p v with
    | some bj=>.ok (.next,σ) bj
    | none=>.bad):=by
 refine⟨fun A d σ H β s Q E F P hp=>?_⟩;refine fK (AE.thenE P.own hp (fun _ f=>he.go A d σ H β s _ E P f) ?_) (hs d);intro y ae v aa aj _ ag W ai;have I:=P.after ag;refine AE.thenE I.own ai (fun _ f=>ho.go A d σ aa aj ae _ E I f) ?_;intro x am u D aw _ Z V aq;have J:=I.after Z;refine AE.thenE J.own aq (fun _ f=>hi.go A d σ D aw am _ E J f) ?_;intro k a8 q G bh _ m vk B;have ch:=J.after m;have V:=V.mono m.grow;have W:=(W.mono Z.grow).mono m.grow
 cases t:pu G u q v with
 | none=>rw[t] at B;exact B.elim
 | some bj =>
  rw[t] at B;refine GI (R t) fun j l i L hl O hn M=>?_;subst L;subst M;refine Ah V.inv fun ad e0 hb=>?_;subst e0;have od:=m.inv.obj j ad _ hb hl;rw[z] at od;refine Bu od fun U hD hk hv=>?_;have r:U.length=l.length:=by have:=congrArg eX hk;simpa using this
  refine wpAny_setItem_pairs (knd:=knd) (v:=y) (O vk) hD (fun f N T=>?_) (by refine Ac r ?_;exact al hn (Al rfl))
  have Y:=m.inv.setObj hb hl T (ao':=mk (Cp l i v)) (fun g=>by
   refine AX (Zfk (k:=i) W hk hv) fun r1 r2=>?_;rw[z];exact⟨_,N,r1,r2.mono g⟩) (a8.toks+1)
  exact B _ _ _ (Y.weaken ch.own) ⟨trivial,(ch.after Y).env⟩
theorem SS.putI{o i e:Expr}{p pos:dc}{a b c:DE}(s:SE C n S o a)(m:SE C n S i b)(H:SE C n S e c)(u:∀ d,dR e (some (.Subscript o i p)) pos.line d=pure false):SS C n S (.Assign [.Subscript o i p] e pos) (Gp a b c) :=
 SS.putK (knd:=intKind C.prog C.w) (mk:=AO.dict) (fun _ _ _ _=>rfl) (pu:=Mine.putI) (fun h=>by
  refine GI (Zfp h) fun j l i f q g r k=>⟨j,l,i,f,q,fun {_ _ y} v=>?_,r,k⟩;rw[g] at v;refine aD v.int_inv fun t E=>?_;subst E;exact KN) s m H u
theorem Zfq{d k v:AV}(h:putN H d k v=some H'):∃ j l i,d=.ref j/\H[j]?=some (.dictN l)/\k=.str i/\l.length<=1000000/\H'=H.set j (.dictN (Cp l i v)):=Dq h fun j e h=>Za1 h fun l E h=>Ma h fun i a h=>B9 h fun b h=>⟨j,l,i,e,E,a,b,(inj h).symm⟩
theorem SS.putN{o i e:Expr}{p pos:dc}{a b c:DE}(s:SE C n S o a)(m:SE C n S i b)(H:SE C n S e c)(u:∀ d,dR e (some (.Subscript o i p)) pos.line d=pure false):SS C n S (.Assign [.Subscript o i p] e pos) (CD a b c) :=
 SS.putK (knd:=strKind C.prog C.w) (mk:=AO.dictN) (fun _ _ _ _=>rfl) (pu:=Mine.putN) (fun h=>by
  refine GI (Zfq h) fun j l i f q g r k=>⟨j,l,i,f,q,fun {_ _ y} v=>?_,r,k⟩;rw[g] at v;refine aD v.inv fun t E=>?_;subst E;exact Qj) s m H u
theorem Zfr:∀ {l:List AV} {xs:List Int},ints? l=some xs->l=xs.map .int
 | [],xs,h=>by obtain rfl:=inj h;rfl
 | v::r,xs,h=>by
  cases v with
  | int i =>
   refine Ah (aY.mp (show (ints? r).map (i::·)=some xs from h)) fun y H e=>?_;subst e;refine Ac (Zfr H) ?_;rfl
  | _=>injection h
theorem Zfs{v:AV}{k:SK}(h:I2 v=some k):v=CO k :=
 I8 h fun l e g=>I7 g fun a b E g=>D5 g fun r c g=>I8 g fun L d g=>EF g fun x H f=>by
  subst e E c d f;exact Ac (Zfr H) rfl
theorem Zft{h:aX}:∀ {xs:List Int} {vs:List aC},Bg C β h vs (xs.map .int)->ItemsAre (intKind C.prog C.w) xs vs:=by
 intro xs
 induction xs with
 | nil=>intro vs r;exact Ac r.nil_inv .nil
 | cons x xs i =>
  intro vs r;refine B2 r.cons_inv fun v W e a R=>aD a.int_inv fun t E=>Ac e (Ac E ?_);exact .cons KN (i R)
theorem Hx{h:aX}{a:aF}{k:SK}(v:VR C β h (.ref a) (CO k)):D0 C.prog C.w h k a:=by
 refine BJ v.inv fun A i e q _ r=>?_;obtain⟨o,l,n,m,p⟩:=q;injection e with e
 rw[<- e] at l;obtain⟨i⟩:=i;refine B2 (Bg.two_inv r) fun y z E v1 v2=>?_;have E:i=[y,z]:=E;subst E;refine aD v1.int_inv fun t c=>?_;subst c;refine BJ v2.inv fun b I d q _ j=>?_;subst d;obtain⟨O,g,H,M,f⟩:=q;exact⟨o,t,b,m,l,n,p,O,I,M,g,H,f,Zft j⟩
theorem Zfu{h:aX}{x:aC}{k:SK}(v:VR C β h x (CO k)):∃ a,x=.ref a:=by
 refine Cg v.inv fun a _ e _=>?_;subst e;exact⟨a,rfl⟩
theorem Zfv(I:B7 C β s.heap H){x:aC}{v:AV}{l:List (SK×AV)}(V:VR C β s.heap x v)(h:dictS? H v=some l) :
  ∃ a j,x=.ref a/\v=.ref j/\β[j]?=some a/\H[j]?=some (.dictS l):=Dq h fun j e g=>Za0 g fun _ q g=>by
 subst e;exact Ah V.inv fun a e b=>⟨a,j,e,rfl,b,inj g▸q⟩
theorem Zfw{h:aX}{a:aF}{l:List (SK×AV)}(o:OR C β h a (.dictS l)):∃ xs:List (SK×aF×aC),h.DictOfH (Ef C.prog C.w) a xs/\Bg C β h (xs.map fun x=>.ref x.2.1) (xs.map fun x=>CO x.1)/\(xs.map fun x=>(x.1,x.2.2)).map (·.1)=l.map (·.1)/\Bg C β h ((xs.map fun x=>(x.1,x.2.2)).map (·.2)) (l.map (·.2)):=by
 obtain⟨xs,o,s,E,f,g,d,c,k,b,v,n⟩:=o;refine⟨xs,⟨o,s,E,f,g,d,c,?_,by refine Ac b ?_;exact n⟩,k,by refine Ac dt ?_;exact b,by refine Ac dt ?_;exact v⟩;clear c b v;intro x H
 induction xs with
 | nil=>cases H
 | cons y xs i =>
  rcases aU.mp H with e|H
  .refine Ac e ?_;exact Hx (Bg.uncons k).1
  .exact i (Bg.uncons k).2 H
theorem Zfx{xs:List (SK×aF×aC)}{k:SK}:(atKey xs k).map (·.2)=valueAt (xs.map fun x=>(x.1,x.2.2)) k:=by
 unfold atKey valueAt
 induction xs with
 | nil=>rfl
 | cons x xs i =>
  refine Ac ci (Ac (eG) (Ac (eG) ?_))
  by_cases e:x.1=k
  .simp[e]
  .simp only[e,decide_false];exact i
theorem Zfy{k d r:AV}(h:hasT H k d=some r):∃ l i,dictS? H d=some l/\k=CO i/\r=.bool (AY l i).isSome:=Bf h fun l e h=>Bf h fun i E h=>⟨l,i,e,Zfs E,(inj h).symm⟩
theorem Zfz{k d r:AV}(h:getT H d k=some r):∃ l i,dictS? H d=some l/\k=CO i/\AY l i=some r:=Bf h fun l e h=>Bf h fun i E h=>⟨l,i,e,Zfs E,h⟩
theorem IK(R:Ed n A):(Ef C.prog C.w).room A.in1:=by
 show A.units+_+2<cLine;have:=R.units;exact Z02 this
theorem Zf0(B:Dc C mg mb)(R:Ed n A)(I:B7 C β s.heap H){x y:aC}{v u r:AV}{Q:aC->aE->Prop}(V:VR C β s.heap x v)(t:VR C β s.heap y u)(k:hasT H v u=some r)(p:AE C Bv (VR C) β s (.ok r H) Q E) :
  wpAny (model C.prog C.w) A (compareOp .In x y) Q E s:=by
 refine B2 (Zfy k) fun l i m b f=>?_;subst b;subst f;refine BJ (Zfv I t m) fun ad j d b h g=>?_;subst d;subst b;refine aD (Zfu V) fun a c=>?_;subst c;refine F4 (Zfw (I.obj j ad _ h g)) fun X D z o q=>wpAny_in_heap (knd:=Ef C.prog C.w) (IK R) (Hx V) (I.notMods B h) D ?_
 have e:(atKey X i).isSome=(AY l i).isSome:=by
  refine BE ((Zfh o q i).1) (BE Zfx ?_);simp
 exact Ac e (p _ _ _ (I.toks _) (.bool _))
theorem ST.hasT(B:Dc C mg mb){l r:Expr}{pos:dc}{a b:DE}(G:SE C n S l a)(J:SE C n S r b)(I:gB .In r=false):ST C n S (.Compare l [.In] [r] pos) (Aq (Gq a b)):=by
 refine⟨fun A e g H L s Q E P p=>?_⟩;have p:=AE.bind (R:=VR C) p;refine fT (AE.then p (fun _ h=>G.go A e g H L s _ E P h) ?_) I;intro x m v j w _ q V t;refine AE.then t (fun _ h=>J.go A e g j w m _ E (P.after q) h) ?_;intro y O u N T _ k K D;refine Ah (GP D) fun c f F=>Zf0 (E:=E) B P.room k.inv (V.mono k.grow) K f ?_;intro z U M o hz;refine B2 (Zfy f) fun l i _ _ d=>?_;subst d
 cases hz
 exact cN (FA (F _ _ _ o (.bool _)))
theorem SE.getT{e i:Expr}{pos:dc}{a b:DE}(h:SE C n S e a)(k:SE C n S i b)(Y:∀ o v,dG i false o v=operate [o,v] (getItem o v)):SE C n S (.Subscript e i pos) (EB a b):=by
 refine⟨fun A f F H β s Q E P q=>?_⟩;refine kz (AE.then q (fun _ p=>h.go A f F H β s _ E P p) ?_);intro x I v G L _ J V K;refine AE.then K (fun _ p=>k.go A f F G L I _ E (P.after J) p) ?_;intro y am u ac aw _ g B M;have V:=V.mono g.grow;refine Ah (GP M) fun r X N=>B2 (Zfz X) fun l i T d U=>?_;subst d;refine BJ (Zfv g.inv V T) fun ad j c d R O=>?_;subst c;subst d;refine aD (Zfu B) fun ka m=>?_;subst m;refine F4 (Zfw (g.inv.obj j ad _ R O)) fun xs D hk W Z=>Ah ((Zfh W Z i).2 r U) fun z hz vz=>?_;rw[<- Zfx] at hz;refine Ah (aY.mp hz) fun t q c=>?_;obtain⟨pa,pv⟩:=t;subst c;refine Zb6 D.typeIs lg.lookup (wpAny_getItem_heap (knd:=Ef C.prog C.w) (IK P.room) (Hx B) D q ?_) (Y _ _);exact N _ _ _ (g.inv.toks _) vz
theorem Zf1{d k v:AV}(h:putT H d k v=some H'):∃ j l i,d=.ref j/\H[j]?=some (.dictS l)/\k=CO i/\l.length<=1000000/\H'=H.set j (.dictS (Cp l i v)):=Dq h fun j e h=>Za0 h fun l E h=>Bf h fun i a h=>B9 h fun b h=>⟨j,l,i,e,E,Zfs a,b,(inj h).symm⟩
theorem Zf2{xs:List (SK×aF×aC)}{k:SK}{a:aF}{v:aC}:(storedH xs k a v).map (fun x=>(x.1,x.2.2))=stored (xs.map fun x=>(x.1,x.2.2)) k v:=by
 have e:(atKey xs k).isSome=(xs.map fun x=>(x.1,x.2.2)).any (fun p=>decide (p.1=k)):=by
  have H:(atKey xs k).isSome=((atKey xs k).map (·.2)).isSome:=by simp
  refine Ac H (Ac Zfx ?_);unfold valueAt;refine Ac ic ?_;generalize xs.map (fun x=>(x.1,x.2.2))=ys;rw[lQ,lE,lh]
 unfold storedH stored;refine Ac e ?_
 split
 .refine Ac dt (Ac dt ?_);refine gN fun x _=>?_;show ((putAt k v x).1,(putAt k v x).2.2)=_;unfold putAt
  by_cases h:x.1=k
  .simp[h]
  .simp[h]
 .simp
theorem Zf3{h:aX}{xs:List (SK×aF×aC)}{k:SK}{a:aF}{v:aC}(H:Bg C β h (xs.map fun x=>.ref x.2.1) (xs.map fun x=>CO x.1))(b:VR C β h (.ref a) (CO k)) :
  Bg C β h ((storedH xs k a v).map fun x=>.ref x.2.1) ((storedH xs k a v).map fun x=>CO x.1):=by
 unfold storedH
 split
 .have e:(xs.map (putAt k v)).map (fun x=>cD x.2.1)=xs.map fun x=>cD x.2.1:=by
   refine Ac dt (gN fun x _=>?_);show cD (putAt k v x).2.1=_;unfold putAt
   split<;>rfl
  have E:(xs.map (putAt k v)).map (fun x=>CO x.1)=xs.map fun x=>CO x.1:=by
   refine Ac dt (gN fun x _=>?_);show CO (putAt k v x).1=_;unfold putAt
   split<;>rfl
  refine Ac e (Ac E ?_);exact H
 .refine Ac cw (Ac cw ?_);exact H.append (.cons b .nil)
theorem SS.putT{o i e:Expr}{p pos:dc}{a b c:DE}(ho:SE C n S o a)(hi:SE C n S i b)(he:SE C n S e c)(hs:∀ d,dR e (some (.Subscript o i p)) pos.line d=pure false):SS C n S (.Assign [.Subscript o i p] e pos) (Gr a b c):=by
 refine⟨fun A d σ H β s Q E F P hp=>?_⟩;refine fK (AE.thenE P.own hp (fun _ f=>he.go A d σ H β s _ E P f) ?_) (hs d);intro y ae v aa aj _ ag Y ai;have D:=P.after ag;refine AE.thenE D.own ai (fun _ f=>ho.go A d σ aa aj ae _ E D f) ?_;intro x am u ac aw _ ak X aq;have G:=D.after ak;refine AE.thenE G.own aq (fun _ f=>hi.go A d σ ac aw am _ E G f) ?_;intro k a8 q an bh _ r W B;have ch:=G.after r;have X:=X.mono r.grow;have Y:=(Y.mono ak.grow).mono r.grow
 cases h:Mine.putT an u q v with
 | none=>rw[h] at B;exact B.elim
 | some bj =>
  rw[h] at B;refine GI (Zf1 h) fun j l i J hl K hn L=>?_;subst J;subst K;subst L;refine Ah X.inv fun ad e0 hb=>?_;subst e0;refine aD (Zfu W) fun U I=>?_;subst I;refine F4 (Zfw (r.inv.obj j ad _ hb hl)) fun Z hD hk t hv=>?_;have z:Z.length=l.length:=by have:=congrArg eX t;simpa using this
  refine wpAny_setItem_heap (knd:=Ef C.prog C.w) (v:=y) (IK P.room) (Hx W) hD (fun f O T=>?_) (al (m:=1000000) (Z18 hn z) (Al rfl))
  have af:=r.inv.setObj hb hl T (ao':=.dictS (Cp l i v)) (fun g=>by
   refine AX (Zfk (k:=i) Y t hv) fun V r2=>?_;rw[<- Zf2 (a:=U)] at V r2;refine UP O fun o' N M g1 g2 g3 g4 g5 g6=>?_;have R:(storedH Z i U y).map (·.1)=(Cp l i v).map (·.1):=by rw[dt] at V;exact V
   exact⟨storedH Z i U y,o',N,M,g1,g2,g3,g4,(Zf3 hk W).mono g,R,by have r3:=r2.mono g;rw[dt] at r3;exact r3,by refine BE R ?_;exact g6⟩) (a8.toks+(Ef C.prog C.w).draws i)
  exact B _ _ _ (af.weaken ch.own) ⟨trivial,(ch.after af).env⟩
theorem Zf4(B:Dc C mg mb)(I:B7 C β s.heap H){x:aC}{v r:AV}{Q:aC->aE->Prop}(V:VR C β s.heap x v)(h:lenT H v=some r)(t:AE C Bv (VR C) β s (.ok r H) Q E):wpAny (model C.prog C.w) A (call (.builtin "len") [x]) Q E s:=Bf h fun l n h=>B9 h fun p h=>by
 obtain rfl:=inj h;refine BJ (Zfv I V n) fun ad j e a f i=>?_;subst e;subst a;obtain⟨X,o,g,y,q,u,k,m,D,b,F,_⟩:=I.obj j ad _ f i
 have z:g.size=l.length:=by
  have c:=congrArg eX m;have d:=congrArg eX b;simp at c d;exact Z19 c d
 exact Zfb (I.notMods B f) q u k (z63 z p) (Ac z (t _ _ _ (I.toks _) (.int _ _)))
theorem SE.lenT(B:Dc C mg mb){f e:Expr}{pos:dc}{d:DE}(J:SE C n S f (Am (.bi .len)))(I:SE C n S e d)
  (G:∀ b,eval (.Call f [e] [] pos) b=(do callWith pos (<- eval f b) [] (backTo pos (starEach [e] b)) (backToKw pos (cz [] b))))
  (h:∀ b,starEach [e] b=(false,eval e b)::starEach [] b)
  (c:∀ b,(backTo pos (starEach [e] b)).any (·.1)=false) :
  SE C n S (.Call f [e] [] pos) (EC d):=by
 refine⟨fun A b p H o s Q E P K=>?_⟩;refine l9 (bJ (J.go A b p H o s (fun x i=>∃ j,Au C Bv o s j i H/\VR C j i.heap x (.bi .len)) E P (fun x T k a M=>⟨k,a,M⟩)) ?_ fun _ _ e=>e) (G b);intro x i Z;refine Ah Z fun j l V=>?_;have D:=VR.inv V;subst D;have q:=AE.shift l K;have g:=c b
 have key:wpAny (model C.prog C.w) A (spliced (backTo pos (starEach [e] b))) (fun Y m=>wpAny (model C.prog C.w) A (call (.builtin "len") Y) Q E m) E i:=by
  refine cG (AE.then q (fun _ F=>I.go A b p H j i _ E (P.after l) F) ?_) (h b);intro y m v O R _ t N u;exact Ah (GP u) fun r L z=>dv (Zf4 B t.inv N L z)
 rw[h b] at key g ⊢;exact cH g (bU key)
theorem Rs.bind_assoc{b β c:Type}(r:Rs b)(f:b->AH->Rs β)(g:β->AH->Rs c):(r.bind f).bind g=r.bind fun a H=>(f a H).bind g:=by
 cases r<;>rfl
theorem Ns.keptBy{h h':aX}{K:aF}{m:aW->Option aC}(H:h.Ns K m)(g:BS (CL env) β h β' h')(n:K∉β)(a:¬ CL env K):h'.Ns K m:=j7.kept H fun o e=>g.keep K o e n a
theorem SS.asgK{h iter:Expr}{x y:aW}{T pos L I:dc}{ifs:List Expr}{scope:ec}{k i:Nat}{d it:DE}{t:DT}{S':AN}{j:AH->Rs Unit->Rs AV}(Y:Hw C j)(hi:SE C n S iter it)(N:CW S S' scope x k)(he:SE C n S' h d)(ht:Gy C n S' ifs t)(hy:S.Γ.lookup y=some i)(hS:S.calm=true)(hs:∀ f x,c9 iter f x=pure x) :
  SS C n S (.Assign [.Name y L] (.ListComp h [⟨.Name x T,iter,ifs,0⟩] scope pos) I) (AG i (fun σ H=>(it σ H).bind fun v aa=>j aa (Ca d t k σ v aa))):=by
 refine⟨fun A f σ H β s Q E F P Z=>?_⟩;have J:dR (.ListComp h [⟨.Name x T,iter,ifs,0⟩] scope pos) (some (.Name y L)) I.line f=pure (f.blockKind == .function&&f.kindOf y == some .local&&L.line == (mA h [⟨.Name x T,iter,ifs,0⟩] scope pos).pos.line&&!(scope.names.any fun (n,k)=>n == y&&(k == .local || k == .cell))):=rfl;generalize (f.blockKind == .function&&f.kindOf y == some .local&&L.line == (mA h [⟨.Name x T,iter,ifs,0⟩] scope pos).pos.line&&!(scope.names.any fun (n,k)=>n == y&&(k == .local || k == .cell)))=bsw at J
 cases bsw with
 | false =>
  refine k6 (AE.thenE P.own Z (fun _ X=>(SE.compK Y hi N he ht hS hs).go A f σ H β s _ E P X) ?_) J;intro y ae v aa aj _ M vx p;exact Qb M.inv (P.after M).env hy (F.1 _) vx fun U af er=>p _ U aj af ⟨trivial,er⟩
 | true =>
 refine Ac (exec_Assign_Name_used _ _ _ _ J) (aB (cW (aB ?_)));show wpAny _ A (do let _ <- comprehension (.ListComp h [⟨.Name x T,iter,ifs,0⟩] scope pos) scope f _ (newList []) false (eval iter f) (some (assign (.Name y L) f))) _ _ s;refine aD (Zdr N P) fun c hc=>aB (bJ (iF (use:=some (assign (.Name y L) f)) (Q:=fun _ U=>Q .next U) rfl (hs f) (Zdn c hc) N.kind N.names ?_) (fun _ U hq=>aH (aH hq)) fun _ _ e=>e);show wpAny _ A (eval iter f) _ _ s
 have Z:AE C (CL f) (FR C S f) β s ((it σ H).bind fun v aa=>(j aa (Ca d t k σ v aa)).bind fun v aa=>.ok (.next,AM σ i v) aa) Q E:=by
  exact BE (Rs.bind_assoc (it σ H) (fun v aa=>j aa (Ca d t k σ v aa)) (fun v aa=>Rs.ok (Fl.next,AM σ i v) aa)) Z
 refine AE.thenE P.own Z (fun _ X=>hi.go A f σ H β s _ E P X) ?_;intro y' ae v aa aj _ M vy p;have W:=P.after M;refine Zdt hS N he ht W hc vy ?_
 revert p
 cases Ca d t k σ v aa with
 | ok u ac =>
  intro p U aw D K m af hD hm d8 hK
  rcases Y.ok (u:=u) M.inv af hD with q|⟨bh,an,w,q,ad,vD,gm⟩
  .rw[q] at p;exact p.elim
  rw[q,Rs.bind_ok] at p;have r:=gm K d8
  have R:¬ CL f K:=fun ho=>by
   obtain⟨_,o,e,_⟩:=W.own _ ho;rw[hK] at e;injection e
  show wpAny _ A (assign (.Name y L) f (.ref D)) _ _ _;refine eO (Qb ad.inv (W.after ad).env hy (F.1 y) vD fun V l O=>?_);have B:V.heap.Ns K m:=Ns.keptBy hm l.grow r R;refine⟨m,B,fun X G=>?_⟩;have bq:=(ad.weaken W.own).trans l;have g:=FB (β:=bh) B G;have bz:=bq.poke (tk:=V.toks) g (fun b o hb ho=>by refine Ac (G.2 b (by simpa using hb)) ?_;exact ho) hK r (M.inv.noB K hK);exact p _ _ bh bz ⟨trivial,O.mono' g fun a ha q=>R (q▸ha)⟩
 | err z ac=>refine Ac (Y.bad _ _ (fun _ _ q=>by injection q)) ?_;exact id
 | bad=>refine Ac (Y.bad _ _ (fun _ _ q=>by injection q)) ?_;exact id
theorem SS.asgC{e iter:Expr}{x y:aW}{p pos P s:dc}{ifs:List Expr}{scope:ec}{k i:Nat}{d it:DE}{t:DT}{a:AN}(b:SE C n S iter it)(c:CW S a scope x k)(H:SE C n a e d)(g:Gy C n a ifs t)(j:S.Γ.lookup y=some i)(h:S.calm=true)(f:∀ E x,c9 iter E x=pure x) :
  SS C n S (.Assign [.Name y P] (.ListComp e [⟨.Name x p,iter,ifs,0⟩] scope pos) s) (AG i (Cl d t k it)):=SS.asgK Vk b c H g j h f
theorem SS.asgU{e iter:Expr}{x y:aW}{p pos P s:dc}{ifs:List Expr}{scope:ec}{k i:Nat}{d it:DE}{t:DT}{a:AN}(b:SE C n S iter it)(c:CW S a scope x k)(H:SE C n a e d)(g:Gy C n a ifs t)(j:S.Γ.lookup y=some i)(h:S.calm=true)(f:∀ E x,c9 iter E x=pure x) :
  SS C n S (.Assign [.Name y P] (.ListComp e [⟨.Name x p,iter,ifs,0⟩] scope pos) s) (AG i (F7 d t k it)):=SS.asgK Z2n b c H g j h f
end
end Mine
namespace Mine
open PySem PySem.W PyProof.Rows PySem.Calls PySem.SeqAt
structure EK where
 nm:aW
 q:aW
 N:aF
 bs:List aC
 bm:List aC
 sn:List aW
 sub:List aC
 ab:Bool
 col:Option Bool
 dd:Option aF
 k0:Option aC
 k1:Option aC
 k2:Option aC
 k3:Option aC
 k5:Option aC
abbrev EK.obj(d:EK)(D:aF):fj:=lK d.nm d.q D d.N d.bs d.bm true d.sn d.sub d.ab d.col d.dd d.k0 d.k1 d.k2 d.k3 d.k5 "ValueError.__new__"
abbrev EK.liv(d:EK)(D:aF):fj:=lK d.nm d.q D d.N d.bs [.type "object"] true d.sn d.sub false d.col d.dd d.k0 d.k1 d.k2 d.k3 d.k5 "object.__new__"
noncomputable def Mf:EK:=⟨Str.empty,Str.empty,0,[],[],[],[],false,none,none,none,none,none,none,none⟩
def E1(K:aG)(D:aF):EK:=match K.lookup D with
 | some o=>(match o.data with
  | .cls c=>⟨c.name,c.qualname,c.ns,c.bases,c.mro.drop 1,c.slotNames,c.subclasses,c.abstract,c.collection,o.dict,o.slots.toList.getD 0 none,o.slots.toList.getD 1 none,o.slots.toList.getD 2 none,o.slots.toList.getD 3 none,o.slots.toList.getD 5 none⟩
  | _=>Mf)
 | _=>Mf
structure Dt(C:Cx)(c:Nat)(mN:aW->Option aC):Prop where
 obj:∃ kd:EK,C.base.get? (C.clv c)=some (kd.liv (C.clv c))/\C.base.Ns kd.N mN
 ga:mN "__getattribute__"=none
 gh:mN "__getattr__"=none
 sa:mN "__setattr__"=none
noncomputable def DF:AV->Option AV
 | .bi _=>none
 | v=>some v
theorem Zf5{v r:AV}(h:DF v=some r):v=r :=
 @AV.casesOn (fun v=>DF v=some r->v=r) v inj (fun _=>inj) (fun _=>inj) (fun _=>inj) (fun _=>inj) (fun _=>inj) (fun _=>inj) (fun _=>inj) (fun _=>inj) (fun _=>inj) (fun _ h=>nn h trivial) (fun _ _=>inj) (fun _=>inj) h
theorem Zf6{v r:AV}(h:DF v=some r):v=r/\∀ b,r≠.bi b:=⟨Zf5 h,fun b q=>nn (show DF (.bi b)=some r from q▸Zf5 h▸h) trivial⟩
def atName(l:List (aW×AV))(n:aW):Option AV:=(l.lookup n).bind DF
def CE(a:Nat)(H:AH)(n:aW):AV->Option AV
 | .inst c j=>if c=a then (match H[j]? with
  | some (.attrs l)=>atName l n
  | _=>none) else none
 | _=>none
def BM(a:Nat)(n:aW)(o:DE):DE:=fun σ H=>(o σ H).bind fun x aa=>DZ aa (CE a aa n x)
noncomputable def D1(l:List (aW×AV))(n:aW)(v:AV):List (aW×AV):=(n,v)::l
def putA(a:Nat)(H:AH)(n:aW)(x v:AV):Option AH:=match x with
 | .inst c j=>if c=a then (match H[j]? with
  | some (.attrs l)=>if l.length<=100000 then some (H.set j (.attrs (D1 l n v))) else none
  | _=>none) else none
 | _=>none
def CF(h:Nat)(n:aW)(o a:DE):DS:=fun σ H=>(a σ H).bind fun v aa=>(o σ aa).bind fun x A=>match putA h A n x v with
 | some b=>.ok (.next,σ) b
 | none=>.bad
noncomputable def KO(a:Nat)(H:AH)(name:aW)(x:AV):Option AV:=match x with
 | .inst c j=>if c=a then (match H[j]? with
  | some (.attrs l)=>if (l.lookup name).isNone then some x else none
  | _=>none) else none
 | _=>none
theorem Zf7{a j:Nat}{H:AH}{name:aW}{l:List (aW×AV)}(h:H[j]?=some (.attrs l))(n:l.lookup name=none):KO a H name (.inst a j)=some (.inst a j):=(if_pos rfl).trans (Ac h (if_pos (Ac n rfl)))
def BD(b:As)(A:Nat)(name:aW)(k:Nat)(o:DE)(d:List DE):DE:=fun σ H=>(o σ H).bind fun x aa=>match KO A aa name x with
 | some y=>(AL d σ aa).bind fun vs a=>b k (y::vs) a
 | none=>.bad
section
variable {C:Cx}{n:Nat}{S:AN}{env:f3}{β β':List aF}{s s':aE}{σ σ':AW}{H H':AH}{A:bY}{E:aC->aE->Prop}{mg mb:aW->Option aC}{ah:Nat}{mN:aW->Option aC}
theorem Zf8{nm:aW}{x r:AV}(h:CE ah H nm x=some r):∃ j l,x=.inst ah j/\H[j]?=some (.attrs l)/\l.lookup nm=some r/\∀ b,r≠.bi b:=GO h fun c j e g=>B9 g fun a g=>Za2 g fun l d g=>Bf (o:=l.lookup nm) (f:=DF) g fun u i G=>by
 subst a;obtain⟨rfl,n⟩:=Zf6 G;exact⟨j,l,e,d,i,n⟩
theorem Zf9(I:B7 C β s.heap H){x:aC}{j:Nat}{l:List (aW×AV)}(v:VR C β s.heap x (.inst ah j))(t:H[j]?=some (.attrs l)) :
  ∃ a d o m,x=.ref a/\s.heap.get? a=some o/\o.cls=.ref (C.clv ah)/\o.data=.plain/\o.dict=some d/\β[j]?=some d/\a∉β/\s.heap.Ns1 d m/\(∀ n,Hu C β s.heap (m n) (l.lookup n))/\s.heap.Inst a (C.clv ah) m:=by
 refine It v.inv fun a d o e k b f p h i=>?_;subst e;refine Ah (I.obj j d _ h t) fun m g r=>⟨a,d,o,m,rfl,k,b,f,p,h,i,g,r,o,k,b,(fun c q=>by rw[f] at q;injection q),.inr ⟨d,p,fun q=>i (q▸aV h),g⟩⟩
theorem IL{x:aC}{d:AV}{h:aX}(v:VR C β h x d)(H:∀ b,d≠.bi b):handedOut x=pure x:=by
 cases v with
 | bi b e=>exact absurd rfl (H b)
 | _=>rfl
theorem SE.attr{o:Expr}{name:aW}{pos:dc}{d:DE}(L:Dt C ah mN)(G:SE C n S o d)(f:mN name=none)(B:bE (.type "object") name=pure none)
  (z:∀ e,eval (.Attribute o name pos) e=(do
   let v <- eval o e
   standAt pos.atName
   let r <- holding [v] (getAttr v name true)
   gY o v r
   pure r)):SE C n S (.Attribute o name pos) (BM ah name d):=by
 refine⟨fun A e T H R s Q E P J=>?_⟩;refine Attribute_any_ (AE.then J (fun _ p=>G.go A e T H R s _ E P p) ?_) (z e);intro x i v U W _ g O k;refine Ah (GP k) fun r K q=>BJ (Zf8 K) fun j l b F D w=>?_;subst b;refine Ho (Zf9 g.inv O F) fun a Y ob m c _ _ _ _ _ _ _ u I=>?_;subst c;refine Ah L.obj fun kd t N=>?_;have h:=u name;rw[D] at h;refine Ah h fun y M V=>?_;obtain⟨hh,Z,X,tt,oo⟩:=i;exact load_attr (g.inv.base _ _ t) (N.keeps g.inv.base) L.ga f B I M (IL V w) (q _ _ _ (g.inv.toks _) V)
theorem B7.setObj'(I:B7 C β s.heap H){i:Nat}{a:aF}{h':aX}{ao ao':AO}(hb:β[i]?=some a)(t:H[i]?=some ao)(m:∀ b o,b≠a->s.heap.get? b=some o->h'.get? b=some o)(w:∀ g:BS Bv β s.heap β h',OR C β h' a ao')(tk:Nat) :
  Au C Bv β s β { s with heap:=h',toks:=tk } (H.set i ao'):=by
 have n:a∈β:=aV hb;have g:BS Bv β s.heap β h':=⟨⟨⟨[],by simp,fun _ h=>nomatch h⟩,fun b o v u _=>⟨o,m b o (fun q=>u (q▸n)) v,.refl _⟩,fun _ h=>h.elim⟩,fun _ h=>h.elim⟩;refine⟨g,⟨by refine Ac bZ ?_;exact I.len,I.nodup,fun j b ao f k=>?_,fun b o d=>?_,I.fresh⟩,h',tk,rfl⟩
 .by_cases q:j=i
  .subst q;rw[hb] at f;obtain rfl:=inj f;rw[bR (Bm t)] at k;obtain rfl:=inj k;exact w g
  .rw[bI (ct q)] at k
   have c:b≠a:=fun e=>by
    subst e;have p:=(bp.mp f);have r:=(bp.mp hb);exact q ((dH I.nodup).mp (p.2.trans r.2.symm))
   exact (I.obj j b ao f k).keep g.toGrow0 fun _ l=>m b _ c l
 .have c:b≠a:=fun q=>by have:=I.fresh a n;rw[<- q,d] at this;injection this
  exact m b o c (I.base b o d)
theorem Hu.put{h:aX}{m:aW->Option aC}{l:List (aW×AV)}(H:∀ n,Hu C β h (m n) (l.lookup n)){nm:aW}{x:aC}{v:AV}(V:VR C β h x v):∀ n,Hu C β h (if n=nm then some x else m n) ((D1 l nm v).lookup n):=by
 intro n;unfold D1;refine Ac cq ?_
 by_cases e:n=nm
 .subst e
  (refine Ac (if_pos rfl) ?_;rw[beq_self_eq_true])
  exact⟨x,rfl,V⟩
 .refine Ac (if_neg e) (Ac (show (n == nm)=false from by simpa using e) ?_);exact H n
theorem Zga{nm:aW}{x v:AV}(h:putA ah H nm x v=some H'):∃ j l,x=.inst ah j/\H[j]?=some (.attrs l)/\l.length<=100000/\H'=H.set j (.attrs (D1 l nm v)):=GO h fun c j e g=>B9 g fun a g=>Za2 g fun l b g=>B9 g fun n g=>⟨j,l,a▸e,b,n,(inj g).symm⟩
theorem SS.putA{o e:Expr}{name:aW}{p pos:dc}{a d:DE}(L:Dt C ah mN)(ho:SE C n S o d)(he:SE C n S e a)(Y:mN name=none)(hB:bE (.type "object") name=pure none)
  (hs:∀ c,dR e (some (.Attribute o name p)) pos.line c=pure false):SS C n S (.Assign [.Attribute o name p] e pos) (CF ah name d a):=by
 refine⟨fun A c σ H β s Q E F P hp=>?_⟩;refine fR (AE.thenE P.own hp (fun _ D=>he.go A c σ H β s _ E P D) ?_) (hs c);intro y ae v aa aj _ ag vy ai;have N:=P.after ag;refine AE.thenE N.own ai (fun _ D=>ho.go A c σ aa aj ae _ E N D) ?_;intro x am u ac aw _ B vx J;have bk:=N.after B;have vy:=vy.mono B.grow
 cases t:Mine.putA ah ac name u v with
 | none=>rw[t] at J;exact J.elim
 | some an =>
  rw[t] at J;refine BJ (Zga t) fun j l O hl I T=>?_;subst O;subst T;refine Ho (Zf9 B.inv vx hl) fun a K ob m R h hoc Z f hb V hm ha hI=>?_;subst R;refine Ah L.obj fun kd hC hN=>?_;have G:=B.inv.base _ _ hC
  have hxC:a≠C.clv ah:=fun q=>by
   rw[q,G] at h;obtain rfl:=inj h;injection Z
  have hW:Within m (l.map (·.1)):=fun z hz=>by
   have:=ha z
   cases M:l.lookup z with
   | none=>rw[M] at this;exact absurd this hz
   | some d=>exact a7.mpr ⟨(z,d),mem_of_lookup M,rfl⟩
  have hadx:a≠K:=fun q=>V (q▸aV hb);obtain⟨hh,gg,dr,tt,oo⟩:=am;refine store_attr j0 G (hN.keeps B.inv.base) L.sa Y hB hxC hI (fun D tk' U M r=>?_) hW (by rw[aK];exact al I (Al rfl));refine PL (r ob h) fun w df fu fw bu d0=>?_
  have br:w=ob:=by
   have h0:w=⟨w.cls,w.dict,w.data,w.slots⟩:=rfl;exact h0.trans (Ac fu (Ac fw (Ac bu (Ac (d0 K f) (BE f rfl)))))
  subst br
  have keep:∀ b o,b≠K->hh.get? b=some o->D.get? b=some o:=fun b o W i=>by
   by_cases q:b=a
   .subst q;rw[h] at i;obtain rfl:=inj i;exact df
   .exact M b o q (fun iy iz h1 h2=>by rw[h] at h1;obtain rfl:=inj h1;rw[f] at h2;obtain rfl:=inj h2;exact W) i
  have k:D.Ns1 K (fun z=>if z=name then some y else m z):=by
   refine F4 U fun bn d9 _ _ X=>?_;rw[df] at d9;obtain rfl:=inj d9
   rcases X with ⟨q,_⟩|⟨d',q,_,k⟩
   .rw[f] at q;injection q
   .rw[f] at q;obtain rfl:=inj q;exact k
  have af:=B.inv.setObj' (ao':=.attrs (D1 l name v)) hb hl keep (fun g=>⟨_,k,Hu.put (fun n=>(ha n).mono0 g.toGrow0) (vy.mono g)⟩) tk';exact J _ _ _ (af.weaken bk.own) ⟨trivial,(bk.after af).env⟩
variable {Φ:As}
set_option tactic.hygienic true in
theorem Zgb{name:aW}{k:Nat}{d:List DE}{v:AV}{Q:aC->aE->Prop}(h:AE C Bv (VR C) β s (match KO ah H name v with
 | some y=>(AL d σ H).bind fun vs a=>Φ k (y::vs) a
 | none=>.bad) Q E):∃ j l,v=.inst ah j/\H[j]?=some (.attrs l)/\l.lookup name=none/\AE C Bv (VR C) β s ((AL d σ H).bind fun vs a=>Φ k (.inst ah j::vs) a) Q E:=by
 cases e:KO ah H name v with
 | none=>rw[e] at h;exact h.elim
 | some y =>
  rw[e] at h;refine GO e fun c j b g=>B9 g fun m G=>Za2 G fun l n f=>B9 f fun o i=>?_;obtain rfl:=inj i;subst b;subst m;exact⟨j,l,rfl,n,Option.isNone_iff_eq_none.mp o,h⟩
theorem SE.callM{o:Expr}{name:aW}{c pos:dc}{b:List Expr}{d:DE}{T:List DE}{k:Nat}(L:Dt C ah mN)(hF:FS C Φ n)(ho:SE C n S o d)(ha:DV C n S b T)(hf:mN name=some (.ref (C.fnv k)))
  (J:∃ of fd,C.base.get? (C.fnv k)=some of/\of.cls=.type "function"/\of.data=.func fd) {y:Option aC} (hB:bE (.type "object") name=pure y)
  (g:∀ e,gC o name e (eval o e)=eval o e)
  (r:∀ e,((backTo pos (starEach b e)).all (fun x=>!x.1)&&(backToKw pos (cz [] e)).all (fun x=>x.1.isSome)&&decide (b.length+([]:List fJ).length+(if ([]:List fJ).isEmpty then 0 else 1)<30))=true)
  (h:∀ (M:Model) (A:bY) (e:f3) (f:aC) (Q:Args->aE->Prop) (E:aC->aE->Prop) (s:aE),wpAny M A (spliced (backTo pos (starEach b e))) (fun vs s'=>Q ⟨vs,[]⟩ s') E s->wpAny M A (evalArgs f true (backTo pos (starEach b e)) []) Q E s)
  (p:(c.endLine == pos.line)=true) (hS:S.calm=true) :
  SE C n S (.Call (.Attribute o name c) b [] pos) (BD Φ ah name k d T):=by
 refine⟨fun A e U H β s Q E P hp=>?_⟩
 (rewrite [arm_eval_Call];refine Ac (g e) ?_)
 refine aB (AE.then hp (fun _ G=>ho.go A e U H β s _ E P G) ?_);intro x B v W Z _ q V Y;refine BJ (Zgb Y) fun j l D hl hk aq=>?_;subst D;refine aB (cW ?_);have i:methodCallForm (b.length+([]:List fJ).length) (backTo pos (starEach b e)) (backToKw pos (cz [] e))=true:=r e;have u:iJ true o e c pos=pure pos:=by unfold iJ;simp[p]
 unfold methodCall;refine Ac i (Ho (Zf9 q.inv V hl) fun a dx ob m F _ _ _ _ _ _ _ I hI=>?_);subst F;refine Ah L.obj fun kd hC hN=>B2 J fun of fd t K N=>?_;have O:m name=none:=by have:=I name;rw[hk] at this;exact this
 have R:=P.after q
 have key:wpAny (model C.prog C.w) A (callWith pos (.ref (C.fnv k)) [.ref a] (backTo pos (starEach b e)) []) Q E B:=by
  refine h8 (o:=of) (fd:=fd) (h _ _ _ _ _ _ _ (AE.then aq (fun _ G=>ha.go A e U W Z B _ E pos R G) ?_));intro ys am us X aw _ z vy ay;obtain⟨_,hw⟩:=hF A k (.ref a::ys) (.inst ah j::us) X aw am Q E P.room (fun _=>P.calm hS) (R.after z).stk z.inv (.cons (V.mono z.grow) vy) ay;exact⟨⟨z.inv.base _ _ t,N⟩,hw⟩
 obtain⟨hh,gg,dr,tt,oo⟩:=B;refine aB (bN (method_of (q.inv.base _ _ hC) (hN.keeps q.inv.base) L.ga L.gh hf (q.inv.base _ _ t) K hB hI O ?_));exact aB (wpAny_of_eq u key)
theorem Zgc{pos:dc}:∀ (M:Model) (A:bY) (e:f3) (f:aC) (Q:Args->aE->Prop) (E:aC->aE->Prop) (s:aE),wpAny M A (spliced (backTo pos (starEach [] e))) (fun vs S=>Q ⟨vs,[]⟩ S) E s->wpAny M A (evalArgs f true (backTo pos (starEach [] e)) []) Q E s:=by
 intro M A e f Q E s h;show wpAny M A (evalArgs f true [] []) Q E s;have h:wpAny M A (spliced []) (fun vs S=>Q ⟨vs,[]⟩ S) E s:=h;unfold evalArgs;show wpAny M A (spliced [] >>= _) Q E s;refine aB (bJ h (fun vs S H=>?_) fun _ _ x=>x)
 first
  | exact aB (aH (bN (aB (aH (aH H)))))
  | exact bN (aB (aH (aB (aH (aH H)))))
theorem Zgd{pos:dc}{e:Expr}{a:List Expr}(H:∀ v,starEach (e::a) v=(false,eval e v)::starEach a v):∀ (M:Model) (A:bY) (v:f3) (f:aC) (Q:Args->aE->Prop) (E:aC->aE->Prop) (s:aE),wpAny M A (spliced (backTo pos (starEach (e::a) v))) (fun vs S=>Q ⟨vs,[]⟩ S) E s->wpAny M A (evalArgs f true (backTo pos (starEach (e::a) v)) []) Q E s:=by
 intro M A v f Q E s h;rw[H v] at h ⊢;exact bU h
end
end Mine
namespace Mine
open PySem PySem.W PyProof.Rows PySem.Calls PySem.SeqAt
section
variable {prog:cB}{w:eL}{A:bY}{E:aC->aE->Prop}{h:aX}{g:Array jM}{d:Drawn}{t:Nat}{os:eM}
variable {K:aF}{kd:EK}
noncomputable def IM(h:aX)(K:aF):aX:=(h.push { cls:=.type "dict",data:=.dict #[] }).push { cls:=.ref K,dict:=some h.objs.size,data:=.plain }
theorem Zgf{b:aF}{o:fj}(e:h.get? b=some o):(IM h K).get? b=some o:=aP _ (aP _ e)
theorem Zgg:(IM h K).get? (h.objs.size+1)=some { cls:=.ref K,dict:=some h.objs.size,data:=.plain }:=by unfold IM;heap_get
theorem Zgh:(IM h K).get? h.objs.size=some { cls:=.type "dict",data:=.dict #[] }:=aP _ (li rfl rfl)
theorem Zgi{mN:aW->Option aC}{rest:List aC}{f:aF}{O:fj}{Q:Fin->aE->Prop}
  (H:h.get? K=some (kd.liv K)) (n:h.Ns kd.N mN) (l:mN "__init__"=some (.ref f)) (I:h.get? f=some O) (i:O.cls=.type "function")
  (v:wpAny (model prog w) A (call (.ref f) (.ref (h.objs.size+1)::rest)) (fun r s=>r=.none/\Q (.done (.ret (.ref (h.objs.size+1)))) s) E ⟨IM h K,g,d,t,os⟩) :
  wpAny (model prog w) A (fs.«type.__call__» ⟨.ref K::rest,[]⟩) Q E ⟨h,g,d,t,os⟩:=by
 have b:mroOf (.type "object")=pure [.type "object"]:=by kernel_rfl
 have k:bE (.type "object") "__init__"=pure (some (.builtin "object.__init__")):=by (rewrite [cb];refine Ac bG ?_);kernel_rfl
 repeat (first|with_reducible refine bA H ?_|with_reducible refine lF H ?_|wp_step)
 refine h5 (eA _ j1.quiet) (wpAny_check_obj_new j1 H ?_);refine codeAny_obj_new j1 H n l ?_;show wpAny _ _ _ _ _ _;have j:=Zgf (K:=K) H;have a:=Zgg (h:=h) (K:=K);have C:(cD K::[Value.type "object"]).contains (.ref K)=true:=by simp
 have q:(IM h K).Ns kd.N mN:=let ⟨o,m,p,e,r⟩:=n;⟨o,m,p,Zgf e,r⟩
 change wpAny _ _ _ _ _ ⟨IM h K,g,d,t,os⟩
 unfold f7
 repeat (first|with_reducible refine bA a ?_|(with_reducible refine gO j ?_;refine Ac C ?_)|wp_step)
 show wpAny _ _ (bE (.ref K) _) _ _ _;refine wpAny_typeLookup_exc j q b k (Ac l (bN (aB ?_)));unfold bindSpecial;refine aB (jt (T:="function") ⟨_,Zgf I,i⟩ ?_);refine Ac (if_pos (Al rfl)) (aH (aB (bJ v (fun r s y=>?_) fun _ _ x=>x)));refine AX y fun c u=>?_;subst c
 wp_walk
 exact u
theorem Zgj{mN:aW->Option aC}{rest:List aC}{f:aF}{o:fj}{Q:aC->aE->Prop}
  (H:h.get? K=some (kd.liv K)) (n:h.Ns kd.N mN) (i:mN "__init__"=some (.ref f)) (I:h.get? f=some o) (c:o.cls=.type "function")
  (q:wpAny (model prog w) (A.under (.builtin "type.__call__" ⟨.ref K::rest,[]⟩)) (call (.ref f) (.ref (h.objs.size+1)::rest)) (fun r s=>r=.none/\Q (.ref (h.objs.size+1)) s) E ⟨IM h K,g,d,t,os⟩) :
  wpAny (model prog w) A (call (.ref K) rest) Q E ⟨h,g,d,t,os⟩:=by
 have F:=tc_lookup;have a:=tc_bind (.ref K);have T:(⟨h,g,d,t,os⟩:aE).TypeIs (.ref K) "type":=⟨_,H,rfl⟩;refine kE (lV ?_);show wpAny _ _ (callAny (.ref K) _) _ _ _
 repeat (any_goals (first|assumption|with_reducible refine bA H ?_|wp_step))
 refine⟨rfl,?_⟩;exact i7 (eA _ (by decide +kernel)) entry_typeCall (h6 H (Zgi H n i I c q))
end
def IN(K:aG)(D:aF):Prop:=K.lookup D=some ((E1 K D).liv D)/\DA K D=(E1 K D).N/\nsOkIn K (E1 K D).N=true/\nsIn K (E1 K D).N "__getattribute__"=some none/\nsIn K (E1 K D).N "__getattr__"=some none/\nsIn K (E1 K D).N "__setattr__"=some none
theorem Dt.of{K:aG}{C:Cx}{c:Nat}(X:K.In C.base)(e:IN K (C.clv c)):Dt C c (C.base.nsMap (DA K (C.clv c))):=by
 exact Z2g e fun o N h H a b=>Ac N ⟨⟨E1 K (C.clv c),X _ _ o,.of_isNs (mj X h)⟩,gd X h H,gd X h a,gd X h b⟩
def GT(K:aG)(D:aF)(x:aW):Bool:=nsOkIn K (DA K D)&&(Sc K (DA K D) x).isSome
set_option tactic.hygienic true in
theorem Qk{K:aG}{h:aX}{N:aF}{x:aW}{v:aC}(X:K.In h)(e:nsOkIn K N=true)(q:nsIn K N x=some (some v)):h.nsMap N x=some v:=by
 refine Dl ((Heap.Ns.of_isNs (mj X e):h.Ns N (h.nsMap N))) fun o E p b H _ f=>?_;unfold nsIn at q
 cases l:K.lookup N with
 | none=>rw[l] at q;injection q
 | some O =>
  rw[l] at q;obtain rfl:=inj (b.symm.trans (X _ _ l));obtain⟨c,d,D,s⟩:=o;have H:D=.dict E p:=H;subst H
  cases a:E.toList.find? (·.key.isStr x) with
  | some n =>
   have q:(match E.toList.find? (·.key.isStr x) with|some e=>some (some e.val)|none=>_)=_:=q;rw[a] at q;rw[<- f];unfold nsFind findBy;refine BE (Array.find?_toList) (Ac a ?_);exact inj q
  | none =>
   have q:(match E.toList.find? (·.key.isStr x) with|some e=>some (some e.val)|none=>_)=_:=q;rw[a] at q;exact I5 q fun _ q=>nn (inj q) trivial
theorem Zgk{K:aG}{h:aX}{D:aF}{x:aW}(X:K.In h)(e:GT K D x=true):h.nsMap (DA K D) x=some (.ref (GC K D x)):=Qk X (aL.mp e).1 (Zd0 (aL.mp e).2)
theorem Zgl{K:aG}{h:aX}{D:aF}{x:aW}(X:K.In h)(e:(nsOkIn K (DA K D)&&nsIn K (DA K D) x == some none)=true):h.nsMap (DA K D) x=none:=by
 simp only[cV,beq_iff_eq] at e;exact gd X e.1 e.2
def fnO(K:aG)(a:aF):Option iQ:=(K.lookup a).bind fun o=>if o.cls == .type "function" then fnA o.data else none
def Ql(K:aG)(a:aF):Bool:=(fnO K a).isSome
theorem Vr{K:aG}{h:aX}{a:aF}(X:K.In h)(e:Ql K a=true):∃ of fd,h.get? a=some of/\of.cls=.type "function"/\of.data=.func fd:=Bf (Zdy (d:=default) e) fun o e g=>B9 g fun H g=>⟨o,_,X _ _ e,beq_iff_eq.mp H,Zdx g⟩
def Ft(b:As)(a k:Nat)(d:List DE):DE:=fun σ H=>(AL d σ H).bind fun vs aa=>(b k (.inst a aa.length::vs) (aa++[.attrs []])).bind fun r A=>match r with
 | .none=>.ok (.inst a aa.length) A
 | _=>.bad
section
variable {C:Cx}{n:Nat}{S:AN}{env:f3}{β β':List aF}{s s':aE}{σ σ':AW}{H H':AH}{A:bY}{E:aC->aE->Prop}{mg mb:aW->Option aC}{ah:Nat}{mN:aW->Option aC}{Φ:As}
theorem SE.newI{f e:Expr}{c:List Expr}{pos:dc}{ds:List DE}{I:Nat}(L:Dt C ah mN)(hF:FS C Φ n)(hf:SE C (n+1) S f (Am (.cls ah)))(ha:DV C (n+1) S (e::c) ds)(hi:mN "__init__"=some (.ref (C.fnv I)))
  (M:∃ of fd,C.base.get? (C.fnv I)=some of/\of.cls=.type "function"/\of.data=.func fd)
  (hc:∀ v,eval (.Call f (e::c) [] pos) v=(do callWith pos (<- eval f v) [] (backTo pos (starEach (e::c) v)) (backToKw pos (cz [] v))))
  (j:∀ v,starEach (e::c) v=(false,eval e v)::starEach c v)
  (h:∀ v,(backTo pos (starEach c v)).any (·.1)=false) (hS:S.calm=true) :
  SE C (n+1) S (.Call f (e::c) [] pos) (Ft Φ ah I ds):=by
 refine⟨fun A v σ H β s Q E P hp=>?_⟩;refine l9 (bJ (hf.go A v σ H β s (fun x z=>∃ B,Au C Bv β s B z H/\VR C B z.heap x (.cls ah)) E P (fun x s' u a hx=>⟨u,a,hx⟩)) ?_ fun _ _ e=>e) (hc v);intro x z hZ;refine Ah hZ fun B U V=>?_;have e':=VR.inv V;subst e';have ai:=AE.shift U hp;refine Ah L.obj fun K hC hN=>B2 M fun of fd T R hod=>?_;have X:ClsAt C.base (C.clv ah) K.N mN:=⟨⟨K.nm,K.q,K.bs,K.sn,K.sub,K.col,K.dd,K.k0,K.k1,K.k2,K.k3,K.k5,hC⟩,hN⟩;have W:=P.after U;refine callWith_cls X (AE.then ai (fun _ F=>ha.go A v σ H B z _ E pos W F) ?_) (j v) (h v);intro y m us ac G _ d vy aq;have bk:=W.after d;refine⟨d.inv.base,?_⟩
 have D:=d.inv.allocAt (s:=m) (h':=IM m.heap (C.clv ah)) (a:=m.heap.objs.size) (ao:=.attrs []) m.toks (fun b o e=>Zgf e) (dX (bB _))
  (fun u g=>⟨fun _=>none,lj ⟨_,#[],_,Zgh,rfl,fun e he=>absurd he (by simp),fun _=>rfl⟩,fun n=>rfl⟩)
 have w:m.heap.get? (m.heap.objs.size+1)=none:=dX (cJ _)
 have O:m.heap.objs.size+1∉G++[m.heap.objs.size]:=fun p=>by
  rcases bl.mp p with p|p
  .refine aD (d.inv.live _ p) fun o ho=>?_;rw[w] at ho;injection ho
  .exact absurd (aJ.mp p) (eZ _)
 have V:VR C (G++[m.heap.objs.size]) (IM m.heap (C.clv ah)) (.ref (m.heap.objs.size+1)) (.inst ah ac.length):=.inst Zgg rfl rfl rfl (by refine BE d.inv.len ?_;simp) O;have hh:(A.under (.builtin "type.__call__" ⟨.ref (C.clv ah)::y,[]⟩)).handled=none:=P.calm hS
 have i:Ed n (A.under (.builtin "type.__call__" ⟨.ref (C.clv ah)::y,[]⟩)):=by
  refine⟨?_,?_⟩
  .have:=P.room.depth;show A.depth+1+n+110<gX;exact om2 this
  .have:=P.room.units
   have J:(jw "type.__call__" ⟨.ref (C.clv ah)::y,[]⟩).cUnits<=7:=by
    show (jw "type.__call__" ⟨[],[]⟩).cUnits<=7
    decide +kernel
   show A.units+_+8*n+200<cLine;exact om3 this J
 have t:Fi C (A.under (.builtin "type.__call__" ⟨.ref (C.clv ah)::y,[]⟩)) (G++[m.heap.objs.size]) (IM m.heap (C.clv ah)):=by
  refine Ah (bk.stk.mono D.grow) fun l hl k=>⟨l,?_,k⟩
  have e:(A.under (.builtin "type.__call__" ⟨.ref (C.clv ah)::y,[]⟩)).frames=A.frames:=by
   first
    | rfl
    | (unfold jx;rfl)
    | simp[jx,pushEnvs]
  exact Ac e hl
 obtain⟨hp',gg,dr,tt,oo⟩:=m;refine Zgj (d.inv.base _ _ hC) (hN.keeps d.inv.base) hi (d.inv.base _ _ T) R ?_;have ay:=AE.shift D aq;refine AE.then ay (fun _ F=>(hF _ I _ _ _ _ _ _ _ i (fun _=>hh) t D.inv (.cons V (vy.mono D.grow)) F).2) ?_;intro r bv rv bj cf _ Y vr Z;have e0:=Zb3 Z;subst e0;exact⟨vr.inv,Z _ _ cf (.refl Y.inv) (V.mono Y.grow)⟩
end
end Mine
namespace Mine
open PySem PySem.W PyProof.Rows PySem.Calls PySem.SeqAt Builtin Builtin.ObjectAttr
noncomputable def Qm:List aC:=[.type "ValueError",.type "Exception",.type "BaseException",.type "object"]
section
variable {prog:cB}{w:eL}{A:bY}{E:aC->aE->Prop}{h:aX}{g:Array jM}{d:Drawn}{t:Nat}{os:eM}{K:aG}
variable {D x:aF}{kd:EK}{name:aW}{v:aC}{rest:List aC}
noncomputable def IO(h:aX)(D:aF)(rest:List aC):aX:=(h.push { cls:=.type "tuple",data:=.seq rest.toArray }).push { cls:=.ref D,data:=.fields #[.ref h.objs.size,.none,.none,.none,.bool false,.none] }
theorem Vs{b:aF}{o:fj}(e:h.get? b=some o):(IO h D rest).get? b=some o:=aP _ (aP _ e)
theorem Zgo:(IO h D rest).get? (h.objs.size+1)=some { cls:=.ref D,data:=.fields #[.ref h.objs.size,.none,.none,.none,.bool false,.none] }:=by unfold IO;heap_get
theorem Zgp(T:ju h Qm kd.bm){mN:aW->Option aC}{f:aF}{O:fj}{Q:Fin->aE->Prop}
  (C:h.get? D=some (kd.obj D)) (u:h.Ns kd.N mN) (q:mN "__init__"=some (.ref f)) (I:h.get? f=some O) (j:O.cls=.type "function")
  (v:wpAny (model prog w) A (call (.ref f) (.ref (h.objs.size+1)::rest)) (fun r s=>r=.none/\Q (.done (.ret (.ref (h.objs.size+1)))) s) E ⟨IO h D rest,g,d,t,os⟩) (H:rest.length<=sizeLine) :
  wpAny (model prog w) A (fs.«type.__call__» ⟨.ref D::rest,[]⟩) Q E ⟨h,g,d,t,os⟩:=by
 have F:=eW
 repeat (first|with_reducible refine bA C ?_|with_reducible refine lF C ?_|wp_step)
 refine h5 (eA _ F.quiet) (wpAny_check_new_subT F T C ?_);refine codeAny_exc_new_subT F T C ?_ H;show wpAny _ _ _ _ _ _;have k:=Vs (D:=D) (rest:=rest) C;have m:(IO h D rest).Ns kd.N mN:=let ⟨o,l,p,e,r⟩:=u;⟨o,l,p,Vs e,r⟩;have a:=Zgo (h:=h) (D:=D) (rest:=rest);have i:(cD D::kd.bm).contains (.ref D)=true:=by simp
 have B:=T.keeps (h':=IO h D rest) fun b o e=>Vs e
 change wpAny _ _ _ _ _ ⟨IO h D rest,g,d,t,os⟩
 unfold f7
 repeat (first|with_reducible refine bA a ?_|(with_reducible refine gO k ?_;refine Ac i ?_)|wp_step)
 show wpAny _ _ (bE (.ref D) _) _ _ _;refine wpAny_typeLookup_tail k m B F.mroIs F.init.lookup (Ac q (bN (aB ?_)));unfold bindSpecial;refine aB (jt (T:="function") ⟨_,Vs I,j⟩ ?_);refine Ac (if_pos (Al rfl)) (aH (aB (bJ v (fun r s y=>?_) fun _ _ x=>x)));refine AX y fun c n=>?_;subst c
 wp_walk
 exact n
theorem Qn(T:ju h Qm kd.bm){mN:aW->Option aC}{f:aF}{o:fj}{Q:aC->aE->Prop}
  (C:h.get? D=some (kd.obj D)) (n:h.Ns kd.N mN) (i:mN "__init__"=some (.ref f)) (I:h.get? f=some o) (c:o.cls=.type "function")
  (q:wpAny (model prog w) (A.under (.builtin "type.__call__" ⟨.ref D::rest,[]⟩)) (call (.ref f) (.ref (h.objs.size+1)::rest)) (fun r s=>r=.none/\Q (.ref (h.objs.size+1)) s) E ⟨IO h D rest,g,d,t,os⟩) (H:rest.length<=sizeLine) :
  wpAny (model prog w) A (call (.ref D) rest) Q E ⟨h,g,d,t,os⟩:=by
 have F:=tc_lookup;have a:=tc_bind (.ref D);have b:(⟨h,g,d,t,os⟩:aE).TypeIs (.ref D) "type":=⟨_,C,rfl⟩;refine kE (lV ?_);show wpAny _ _ (callAny (.ref D) _) _ _ _
 repeat (any_goals (first|assumption|with_reducible refine bA C ?_|wp_step))
 refine⟨rfl,?_⟩;exact i7 (eA _ (by decide +kernel)) entry_typeCall (h6 C (Zgp T C n i I c q H))
theorem Zgq{s:aE}{c:f3}{m:Sem aC}{Q:mF->aE->Prop}(h:kd.bm.contains (.type "BaseException")=true)(n:A.handled=none)
  (p:wpAny (model prog w) A m (fun v a=>∃ e o vs,v=.ref e/\a.heap.get? D=some (kd.obj D) /\
   a.heap.get? e=some o/\o.cls=.ref D/\o.data=.fields vs/\vs[1]?=some .none/\E (.ref e) a) E s):wpAny (model prog w) A (raiseStmt c (some m) none) Q E s:=by
 have B:(cD D::kd.bm).contains (.type "BaseException")=true:=by (refine Ac List.contains_cons (Ac h ?_);rw[Bool.or_true])
 unfold raiseStmt;refine aB (bJ p (fun v a H=>?_) fun _ _ x=>x);refine It H fun e q vs b C j f i k l=>?_;obtain⟨u,y,O,r⟩:=q;subst b;dsimp only at f i;subst f i;obtain⟨t,g,d,T,os⟩:=a
 repeat (first|with_reducible refine bA j ?_|with_reducible refine ek j rfl k ?_|with_reducible refine bA C ?_|(with_reducible refine gO C ?_;refine Ac B ?_)|wp_step)
 exact wpAny_raiseNew_none n l
theorem Qo{e:aF}{o:fj}{vs:Array aC}{u:aC}{Q:aC->aE->Prop}(T:ju h Qm kd.bm)
  (C:h.get? D=some (kd.obj D)) (i:h.get? e=some o) (H:o.cls=.ref D) (c:o.data=.fields vs) (z:vs.size=6)
  (q:Q .none ⟨(h.push { cls:=.type "tuple",data:=.seq #[u] }).update e (dk (·.setIfInBounds 0 (.ref h.objs.size))),g,d,t,os⟩) :
  wpAny (model prog w) A (call (.builtin "ValueError.__init__") [.ref e,u]) Q E ⟨h,g,d,t,os⟩:=by
 have F:=eW;have f:=aP { cls:=.type "tuple",data:=.seq #[u] } i;have a:0<vs.size:=by exact Z1m z
 refine kE (d2 F.init.plain F.initEntry (wpAny_check_init_subT F T C i H ?_));have b:vs[0]?=some vs[0]:=hV a
 repeat (first|with_reducible refine fF f c a ?_|wp_step)
 refine Ac c (aH (Ac b (aH ?_)));generalize vs[0]=a0;refine aB (fF f c a ?_)
 cases a0<;>(repeat (first|wp_step))<;>exact q
structure HR(K:aG)(D:aF)(name:aW):Prop where
 sa:findIn K (.ref D) "__setattr__"=some (some (.builtin "object.__setattr__"))
 nn:findIn K (.ref D) name=some none
 ob:subIn K (.ref D) (.type "object")=some true
theorem Zgr{self:aC}{b tl:List aC}(T:ju h b tl)(hb:refuseLoop self "__setattr__" b=pure ()):refuseLoop self "__setattr__" tl=pure ():=by
 induction T with
 | base=>exact hb
 | own _ _ _ _ i=>rw[refuseLoop_ref];exact i
theorem Zgs{o:fj}{n:aC}{Q:Unit->aE->Prop}(X:K.In h)(F:HR K D name)(e:h.get? x=some o)(c:o.cls=.ref D)(q:Q () ⟨h,g,d,t,os⟩) :
  wpAny (model prog w) A (f6 "object.__setattr__" ⟨[.ref x,n,v],[]⟩) Q E ⟨h,g,d,t,os⟩:=by
 have S:=fi;have L:jY (model prog w) h (mC (.ref D) (.type "object")) true:=lJ X F.ob;have a:=S.args (.ref x) n v;simp only[f6,S.kind,S.split];refine aB ?_;unfold f7
 repeat (first|(with_reducible refine bA e ?_;refine Ac c ?_)|with_reducible refine L.at ?_|wp_step)
 first
  | exact q
  | (cases H:Manifest.signature? "object.__setattr__" with
   | none=>exact aH q
   | some s =>
    simp only[argsOk,H] at a;have b:ml "object.__setattr__" s ⟨[.ref x,n,v],[]⟩=pure ():=a;show wpAny _ A (ml "object.__setattr__" s ⟨[.ref x,n,v],[]⟩) Q E _;rw[b];exact aH q)
theorem Zgt{tk:mM}{Q:Fin->aE->Prop}(X:K.In h)(F:HR K D name)(M:h.get? D=some (kd.obj D))(T:ju h Qm kd.bm){o:fj}(c:h.get? x=some o)(N:o.cls=.ref D){G:Array aC}(l:o.data=.fields G)(n:o.dict=none)
  (R:∀ h' u,h'.Ns1 h.objs.size (fun y=>if y=name then some v else none)->h'.get? x=some { cls:=o.cls,dict:=some h.objs.size,data:=o.data,slots:=o.slots }->(∀ b O,b≠x->h.get? b=some O->h'.get? b=some O)->Q (.done (.ret .none)) ⟨h',g,d,u,os⟩) :
  wpAny (model prog w) A (fs.«object.__setattr__» ⟨[.ref x,.str name tk,v],[]⟩) Q E ⟨h,g,d,t,os⟩:=by
 have H:=Zgr (self:=.ref x) T (fi.passes (.ref x));have L:jY (model prog w) h (bE (.ref D) name) none:=eB X F.nn;unfold fs.«object.__setattr__»
 repeat (first|rw[refuse_eq]|((rewrite [refuseLoop_ref];refine Ac H ?_))|(with_reducible refine bA c ?_;refine Ac N ?_)|with_reducible refine wpAny_mroOf_exc M ?_|with_reducible refine L.at ?_|wp_step)
 refine Ac n (Ac (if_neg (by simp[typeHasDict])) ?_);refine Ac l ?_
 .have z:(h.push { cls:=.type "dict",data:=.dict #[] }).get? x=some o:=aP _ c;have s:x≠h.objs.size:=bV (bX c);refine aB (wpAny_alloc' ?_);refine aB (wpAny_update' z ?_);refine aH ?_
  have k:((h.push { cls:=.type "dict",data:=.dict #[] }).update x fun o=>{ cls:=o.cls,dict:=some h.objs.size,data:=o.data,slots:=o.slots }).get? h.objs.size
    = some { cls:=.type "dict",data:=.dict #[] } :=
   (kh _ _ _ _ s.symm).trans (li rfl rfl)
  have m:((h.push { cls:=.type "dict",data:=.dict #[] }).update x fun o=>{ cls:=o.cls,dict:=some h.objs.size,data:=o.data,slots:=o.slots }).Ns h.objs.size (fun _=>none) :=
   ⟨_,#[],_,k,rfl,fun e P=>absurd P (by simp),fun _=>rfl⟩
  show wpAny _ _ (storeInDict h.objs.size (.str name tk) name v) _ _ _;unfold storeInDict newKeyGuard;refine aB (aH (aB (wpAny_nsSet1 (lj m) fun h' a C=>?_)));refine Do (a.count (Within.cons name v Within.nil)) fun U J I p j i=>aB (wpAny_lookBehind p (by refine Ac j ?_;exact pastItsLine_dict (al i (by refine Ac ej (Ac lW (Ac sizeLine_eq ?_));exact fE _))) ?_)
  wp_walk
  refine R h' _ a ?_ fun b O f B=>?_
  .refine (C.2 x s).trans (bM _ z ?_);have r:=(Heap.get?_some_iff.mp c).2;obtain⟨V,W,q,S⟩:=o
   cases q<;>first|rfl|exact r
  .exact (C.2 b (bV (bX B))).trans ((kh _ _ _ _ f).trans (aP _ B))
theorem Zgu{Q:Unit->aE->Prop}(X:K.In h)(F:HR K D name)(C:h.get? D=some (kd.obj D))(T:ju h Qm kd.bm){o:fj}(e:h.get? x=some o)(H:o.cls=.ref D){k:Array aC}(c:o.data=.fields k)(n:o.dict=none)
  (q:∀ h' a,h'.Ns1 h.objs.size (fun y=>if y=name then some v else none)->h'.get? x=some { cls:=o.cls,dict:=some h.objs.size,data:=o.data,slots:=o.slots }->(∀ b O,b≠x->h.get? b=some O->h'.get? b=some O)->Q () ⟨h',g,d,a,os⟩) :
  wpAny (model prog w) A (setAttr (.ref x) name v) Q E ⟨h,g,d,t,os⟩:=by
 have S:=fi;have l:=S.slot.bind (.ref x);have L:jY (model prog w) h (bE (.ref D) "__setattr__") (some (.builtin "object.__setattr__")):=eB X F.sa;unfold setAttr callSpecial? specialOf
 repeat (any_goals (first|assumption|(with_reducible refine bA e ?_;refine Ac H ?_)|with_reducible refine L.at ?_|wp_step))
 refine d2 S.slot.plain S.entry (Zgs X F e H (Zgt X F C T e H c n fun h' a f i j=>?_))
 repeat (any_goals (first|assumption|wp_step))
 exact q h' a f i j
set_option tactic.hygienic true in
theorem Zgv{tk:mM}{Q:Fin->aE->Prop}{o:fj}{a:aF}{m:aW->Option aC}(X:K.In h)(n:findIn K (.ref D) name=some none)(C:h.get? D=some (kd.obj D))
  (e:h.get? x=some o) (b:o.cls=.ref D) {k:Array aC} (c:o.data=.fields k) (H:o.dict=some a) (s:h.Ns1 a m) (f:m name=some v) (q:Q (.done (.ret v)) ⟨h,g,d,t,os⟩) :
  wpAny (model prog w) A (fs.«object.__getattribute__» ⟨[.ref x,.str name tk],[]⟩) Q E ⟨h,g,d,t,os⟩:=by
 have L:jY (model prog w) h (bE (.ref D) name) none:=eB X n
 repeat (first|(with_reducible refine bA e ?_;refine Ac b ?_)|with_reducible refine L.at ?_|wp_step)
 refine Ac c ?_;unfold instanceDict
 repeat (first|(with_reducible refine bA e ?_;refine Ac b ?_)|with_reducible refine bA C ?_|wp_step)
 refine Ac H ?_
 repeat (first|(with_reducible refine wpAny_nsGet s.ns ?_;refine Ac f ?_)|wp_step)
 exact q
theorem Qp{Q:aC->aE->Prop}{o:fj}{f:aF}{m:aW->Option aC}(X:K.In h)(F:E0 K D)(n:findIn K (.ref D) name=some none)(C:h.get? D=some (kd.obj D))
  (b:h.get? x=some o) (H:o.cls=.ref D) {k:Array aC} (c:o.data=.fields k) (a:o.dict=some f) (s:h.Ns1 f m) (i:m name=some v) (r:handedOut v=pure v) (u:Q v ⟨h,g,d,t+1,os⟩) :
  wpAny (model prog w) A (getAttr (.ref x) name true) Q E ⟨h,g,d,t,os⟩:=by
 have q:=dC.ga.bind (.ref x);have j:(true&&lD (cY "BaseException.__getattribute__"))=false:=rfl;have e:(cY "BaseException.__getattribute__" == cY "object.__getattribute__")=false:=by decide +kernel
 have p:(lD (cD D)&&cY "BaseException.__getattribute__" == cY "object.__getattribute__")=false:=by refine Ac e ?_;rfl
 have L:jY (model prog w) h (bE (.ref D) "__getattribute__") (some (.builtin "BaseException.__getattribute__")):=eB X F.ga;have l:jY (model prog w) h (bE (.ref D) "__getattr__") none:=eB X F.gn;unfold getAttr
 repeat (any_goals (first|assumption|(with_reducible refine bA b ?_;refine Ac H ?_)|with_reducible refine L.at ?_|with_reducible refine l.at ?_|wp_step))
 refine d2 dC.ga.plain jI (Zeu F X b H (Zgv X n C b H c a s i ?_))
 repeat (any_goals (first|assumption|wp_step))
end
end Mine
namespace Mine
open PySem PySem.W PyProof.Rows PySem.Calls PySem.SeqAt
structure Fj(C:Cx)(K:aG)(c:Nat)(mN:aW->Option aC):Prop where
 obj:∃ kd:EK,C.base.get? (C.clv c)=some (kd.obj (C.clv c))/\C.base.Ns kd.N mN/\ju C.base Qm kd.bm
 kin:K.In C.base
 exk:Dz K (C.clv c)=true
def IP(K:aG)(D:aF):Prop:=K.lookup D=some ((E1 K D).obj D)/\DA K D=(E1 K D).N/\nsOkIn K (E1 K D).N=true/\tailIn K Qm (E1 K D).bm=true
theorem Fj.of{K:aG}{C:Cx}{c:Nat}(X:K.In C.base)(e:IP K (C.clv c))(x:Dz K (C.clv c)=true):Fj C K c (C.base.nsMap (DA K (C.clv c))):=by
 exact F3 e fun o H h t=>Ac H ⟨⟨E1 K (C.clv c),X _ _ o,.of_isNs (mj X h),tail_of_in X t⟩,X,x⟩
def G1(b:As)(A k:Nat)(d:List DE):DE:=fun σ H=>(AL d σ H).bind fun vs aa=>(b k (.ref aa.length::vs) (aa++[AO.exo A none true])).bind fun r a=>match r with
 | .none=>.ok (.ref aa.length) a
 | _=>.bad
noncomputable def Vt(m:Nat)(c:Nat)(H:AH):AV->Option (AV×AH)
 | .ref i=>if m<=i then (match H[i]? with
  | some (.exo C d b)=>if C=c then (if b=true then some (.ref i,H.set i (.exo c d false)) else none) else none
  | _=>none) else none
 | _=>none
def Se(c:Nat)(a:DE):DS:=fun σ H=>(a σ H).bind fun x aa=>match Vt H.length c aa x with
 | some p=>.err p.1 p.2
 | none=>.bad
def attrX(a:Nat)(H:AH)(n:aW):AV->Option AV
 | .ref i=>match H[i]? with
  | some (.exo c o _)=>if c=a then o.bind fun j=>(match H[j]? with
   | some (.attrs l)=>atName l n
   | _=>none) else none
  | _=>none
 | _=>none
def FE(a:Nat)(n:aW)(o:DE):DE:=fun σ H=>(o σ H).bind fun x aa=>DZ aa (attrX a aa n x)
noncomputable def putX(a:Nat)(H:AH)(n:aW)(x v:AV):Option AH:=match x with
 | .ref i=>match H[i]? with
  | some (.exo c o f)=>if c=a then (if o=none then some (H.set i (.exo c (some H.length) f)++[AO.attrs [(n,v)]]) else none) else none
  | _=>none
 | _=>none
def Hy(h:Nat)(n:aW)(o a:DE):DS:=fun σ H=>(a σ H).bind fun v aa=>(o σ aa).bind fun x A=>match putX h A n x v with
 | some b=>.ok (.next,σ) b
 | none=>.bad
noncomputable def Hz(c:Nat)(H:AH)(x:AV):Bool:=(match x with
 | .ref i=>(match H[i]? with
  | some (.exo C _ b)=>if C=c then (if b=true then some () else none) else none
  | _=>none)
 | _=>none:Option Unit).isSome
def FF(c:Nat)(d:List DE):DE:=fun σ H=>(AL d σ H).bind fun vs aa=>DZ aa (two? (fun x _=>if Hz c aa x then some .none else none) vs)
section
variable {C:Cx}{n:Nat}{S:AN}{env:f3}{β β':List aF}{s s':aE}{σ σ':AW}{H H':AH}{A:bY}{E:aC->aE->Prop}{mg mb:aW->Option aC}{ah:Nat}{mN:aW->Option aC}{Φ:As}{K:aG}
theorem Zgy{D:aF}{kd:EK}{pos:dc}{e:Expr}{rest:List Expr}{Q:aC->aE->Prop}
  (h:wpAny (model C.prog C.w) A (spliced (backTo pos (starEach (e::rest) env))) (fun vs a=>a.heap.get? D=some (kd.obj D)/\wpAny (model C.prog C.w) A (call (.ref D) vs) Q E a) E s)
  (f:starEach (e::rest) env=(false,eval e env)::starEach rest env)
  (n:(backTo pos (starEach rest env)).any (·.1)=false) :
  wpAny (model C.prog C.w) A (callWith pos (.ref D) [] (backTo pos (starEach (e::rest) env)) []) Q E s:=by
 rw[f] at h ⊢
 have b:((backTo pos ((false,eval e env)::starEach rest env)).any (fun x=>x.fst) || ([]:List (Option aW×Sem aC)).any fun x=>x.fst.isNone)=false:=by
  show ((false || (backTo pos (starEach rest env)).any (·.1)) || false)=false;refine Ac n ?_;rfl
 unfold callWith;refine aB (bN (bU (bJ h (fun vs a H=>?_) fun _ _ x=>x)));obtain⟨c,H⟩:=H;obtain⟨j,g,d,t,os⟩:=a;refine aB (cW ?_);refine Ac b (aB (wpAny_keeperOf_exc c ?_));show wpAny _ _ (call (.ref D) vs [] >>= fun r=>do holding [r] point;pure r) _ _ _;exact aB (bJ H (fun r S i=>aB (bN (wpAny_point (aH i)))) fun _ _ x=>x)
theorem SE.newX{f e:Expr}{c:List Expr}{pos:dc}{J:List DE}{I:Nat}(L:Fj C K ah mN)(hF:FS C Φ n)(hf:SE C (n+1) S f (Am (.cls ah)))(ha:DV C (n+1) S (e::c) J)(hi:mN "__init__"=some (.ref (C.fnv I)))
  (N:∃ of fd,C.base.get? (C.fnv I)=some of/\of.cls=.type "function"/\of.data=.func fd)
  (hc:∀ v,eval (.Call f (e::c) [] pos) v=(do callWith pos (<- eval f v) [] (backTo pos (starEach (e::c) v)) (backToKw pos (cz [] v))))
  (j:∀ v,starEach (e::c) v=(false,eval e v)::starEach c v)
  (h:∀ v,(backTo pos (starEach c v)).any (·.1)=false) (p:J.length<=1048576) (hS:S.calm=true) :
  SE C (n+1) S (.Call f (e::c) [] pos) (G1 Φ ah I J):=by
 refine⟨fun A v σ H β s Q E P hp=>?_⟩;refine l9 (bJ (hf.go A v σ H β s (fun x z=>∃ B,Au C Bv β s B z H/\VR C B z.heap x (.cls ah)) E P (fun x s' u a hx=>⟨u,a,hx⟩)) ?_ fun _ _ e=>e) (hc v);intro x z hZ;refine Ah hZ fun B U V=>?_;have e':=VR.inv V;subst e';have ai:=AE.shift U hp;refine Bu L.obj fun kd hC hN T=>B2 N fun of fd R O hod=>?_;have W:=P.after U;refine Zgy (D:=C.clv ah) (kd:=kd) (AE.then ai (fun _ G=>ha.go A v σ H B z _ E pos W G) ?_) (j v) (h v);intro y m us ac X he d vy aq;have bk:=W.after d;have q:y.length<=sizeLine:=by refine Ac vy.length (Ac (Va he) ?_);exact al p (Al rfl)
 refine⟨d.inv.base _ _ hC,?_⟩;have w:m.heap.get? (m.heap.objs.size+1)=none:=dX (cJ _)
 have F:=d.inv.allocAt (s:=m) (h':=IO m.heap (C.clv ah) y) (a:=m.heap.objs.size+1) (ao:=.exo ah none true) m.toks (fun b o e=>Vs e) w
  (fun u g=>⟨_,_,Zgo,rfl,rfl,fun _=>⟨rfl,rfl⟩,rfl⟩)
 have V:VR C (X++[m.heap.objs.size+1]) (IO m.heap (C.clv ah) y) (.ref (m.heap.objs.size+1)) (.ref ac.length):=.ref (by refine BE d.inv.len ?_;simp);have hh:(A.under (.builtin "type.__call__" ⟨.ref (C.clv ah)::y,[]⟩)).handled=none:=P.calm hS
 have i:Ed n (A.under (.builtin "type.__call__" ⟨.ref (C.clv ah)::y,[]⟩)):=by
  refine⟨?_,?_⟩
  .have:=P.room.depth;show A.depth+1+n+110<gX;exact om2 this
  .have:=P.room.units
   have M:(jw "type.__call__" ⟨.ref (C.clv ah)::y,[]⟩).cUnits<=7:=by
    show (jw "type.__call__" ⟨[],[]⟩).cUnits<=7
    decide +kernel
   show A.units+_+8*n+200<cLine;exact om3 this M
 have t:Fi C (A.under (.builtin "type.__call__" ⟨.ref (C.clv ah)::y,[]⟩)) (X++[m.heap.objs.size+1]) (IO m.heap (C.clv ah) y):=by
  refine Ah (bk.stk.mono F.grow) fun l hl k=>⟨l,?_,k⟩
  have e:(A.under (.builtin "type.__call__" ⟨.ref (C.clv ah)::y,[]⟩)).frames=A.frames:=by
   first
    | rfl
    | (unfold jx;rfl)
    | simp[jx,pushEnvs]
  exact Ac e hl
 obtain⟨hp',gg,dr,tt,oo⟩:=m;refine Qn (T.keeps d.inv.base) (d.inv.base _ _ hC) (hN.keeps d.inv.base) hi (d.inv.base _ _ R) O ?_ q;have ay:=AE.shift F aq;refine AE.then ay (fun _ G=>(hF _ I _ _ _ _ _ _ _ i (fun _=>hh) t F.inv (.cons V (vy.mono F.grow)) G).2) ?_;intro r bv rv bj cf _ Y vr Z;have e0:=Zb3 Z;subst e0;exact⟨vr.inv,Z _ _ cf (.refl Y.inv) (V.mono Y.grow)⟩
theorem Zgz{m c:Nat}{x:AV}{p:AV×AH}(h:Vt m c H x=some p):∃ i d,x=.ref i/\m<=i/\H[i]?=some (.exo c d true)/\p=(.ref i,H.set i (.exo c d false)):=Dq h fun i e g=>B9 g fun k g=>Gu g fun C d b j g=>B9 g fun f g=>B9 g fun a g=>⟨i,d,e,k,f▸a▸j,(inj g).symm⟩
theorem B7.raised{h:aX}(I:B7 C β h H){i c:Nat}{d:Option Nat}(f:H[i]?=some (.exo c d true)):B7 C β h (H.set i (.exo c d false)):=by
 refine⟨by refine Ac bZ ?_;exact I.len,I.nodup,fun j b A e a=>?_,I.base,I.fresh⟩
 by_cases q:j=i
 .subst q;rw[bR (Bm f)] at a;obtain rfl:=inj a;obtain⟨o,v,l,g,k,_,dl⟩:=I.obj j b _ e f;exact⟨o,v,l,g,k,fun q=>(nomatch q),dl⟩
 .rw[bI (ct q)] at a;exact I.obj j b A e a
theorem SS.raiseX{e:Expr}{pos:dc}{a:DE}(L:Fj C K ah mN)(h:SE C n S e a)(U:S.calm=true):SS C n S (.Raise (some e) none pos) (Se ah a):=by
 refine⟨fun A m σ H β s Q E F P c=>?_⟩;refine Bu L.obj fun l hC hN T=>?_;have b:l.bm.contains (.type "BaseException")=true:=T.hasType (by decide +kernel)
 have key:wpAny (model C.prog C.w) A (eval e m) (fun v k=>∃ f o V,v=.ref f/\k.heap.get? (C.clv ah)=some (l.obj (C.clv ah)) /\
   k.heap.get? f=some o/\o.cls=.ref (C.clv ah)/\o.data=.fields V/\V[1]?=some .none/\E (.ref f) k) E s:=by
  refine h.go A m σ H β s _ E P ?_;unfold Se at c
  cases J:a σ H with
  | bad=>rw[J] at c;exact c
  | err y t=>rw[J] at c;exact fun e' s' O g hx=>c e' s' O (g.weaken P.own) hx
  | ok v t =>
   rw[J,Rs.bind_ok] at c;intro x k R g vx
   cases M:Vt H.length ah t v with
   | none=>rw[M] at c;exact c.elim
   | some p =>
    rw[M] at c;refine BJ (Zgz M) fun i d z hm I G=>?_;subst z;subst G;refine Ah vx.inv fun f u r=>?_;subst u;refine CZ (g.inv.obj i f _ r I) fun o V Z W X Y dl=>⟨f,o,V,rfl,g.inv.base _ _ hC,Z,W,X,(Y rfl).2,?_⟩;refine Ah g.grow.ext fun ν N j=>?_
    have q:s.heap.get? f=none:=by
     refine j f ?_;rw[N,bT (by refine Ac P.inv.len ?_;exact hm)] at r;exact aV r
    have i0:Au C Bv β s R k (t.set i (.exo ah d false)):=⟨g.grow,g.inv.raised I,g.same⟩;exact c _ k R (i0.weaken P.own) ⟨f,ah,.none,rfl,.inr ⟨i,d,rfl,r,bR (Bm I)⟩,o,V,Z,W,X,q,.inl ⟨(Y rfl).2,rfl⟩⟩
 rw[arm_exec_Raise]
 first
  | refine aB (cW (Zgq (D:=C.clv ah) (kd:=l) b (P.calm U) (aB (bJ key (fun v a8 B=>aB (cW (aH B))) fun _ _ x=>x))))
  | (simp only[evalOpt,gr];refine aB (cW (Zgq (D:=C.clv ah) (kd:=l) b (P.calm U) (aB (bJ key (fun v a8 B=>aB (cW (aH B))) fun _ _ x=>x)))))
theorem Zg0{nm:aW}{x r:AV}(h:attrX ah H nm x=some r):∃ i j f l,x=.ref i/\H[i]?=some (.exo ah (some j) f)/\H[j]?=some (.attrs l)/\l.lookup nm=some r/\∀ b,r≠.bi b:=Dq h fun i e g=>Gu g fun c o f d g=>B9 g fun a g=>Bf g fun j m g=>Za2 g fun l k g=>Bf (o:=l.lookup nm) (f:=DF) g fun u p G=>by
 subst a m;obtain⟨rfl,n⟩:=Zf6 G;exact⟨i,j,f,l,e,d,k,p,n⟩
theorem SE.attrX{o:Expr}{name:aW}{pos:dc}{d:DE}(L:Fj C K ah mN)(ho:SE C n S o d)(w:findIn K (.ref (C.clv ah)) name=some none)
  (U:∀ e,eval (.Attribute o name pos) e=(do
   let v <- eval o e
   standAt pos.atName
   let r <- holding [v] (getAttr v name true)
   gY o v r
   pure r)):SE C n S (.Attribute o name pos) (FE ah name d):=by
 refine⟨fun A e σ H β s Q E P hp=>?_⟩;refine Attribute_any_ (AE.then hp (fun _ N=>ho.go A e σ H β s _ E P N) ?_) (U e);intro x I v aa aj _ g vx J;refine Ah (GP J) fun r hr M=>Z2i (Zg0 hr) fun i j f l k W Y X R=>?_;subst k;refine Ah vx.inv fun a c q=>?_;subst c;obtain⟨ob,vs,B,D,F,_,y,G,u⟩:=g.inv.obj i a _ q W;refine Ah (g.inv.obj j y _ u Y) fun m Z t=>Bu L.obj fun kd O hN T=>?_;have h:=t name;rw[X] at h;refine Ah h fun z hz V=>?_;have hK:=g.inv.kin L.kin;have p:=g.inv.base _ _ O;have b:=g.inv;obtain⟨hh,gg,dr,tt,oo⟩:=I;exact Qp hK (E0.of L.exk) w p B D F G Z hz (IL V R) (M _ _ _ (b.toks _) V)
theorem B7.allocSet(I:B7 C β s.heap H){i:Nat}{a y:aF}{h':aX}{ao ao' ao2:AO}(hb:β[i]?=some a)(G:H[i]?=some ao)(p:s.heap.get? y=none)(w:∀ b o,b≠a->s.heap.get? b=some o->h'.get? b=some o)
  (B:∀ g:BS Bv β s.heap (β++[y]) h',OR C (β++[y]) h' a ao'/\OR C (β++[y]) h' y ao2) (tk:Nat) :
  Au C Bv β s (β++[y]) { s with heap:=h',toks:=tk } (H.set i ao'++[ao2]):=by
 have A:a∈β:=aV hb;have g:BS Bv β s.heap (β++[y]) h':=⟨⟨⟨[y],rfl,fun b hb=>by refine Ac (aJ.mp hb) ?_;exact p⟩,fun b o m K _=>⟨o,w b o (fun q=>K (q▸A)) m,.refl _⟩,fun _ h=>h.elim⟩,fun _ h=>h.elim⟩;have z:y∉β:=fun J=>by refine aD (I.live y J) fun o m=>?_;rw[p] at m;injection m
 refine⟨g,⟨by simp[I.len],?_,fun j b x d f=>?_,fun b o l=>?_,?_⟩,h',tk,rfl⟩
 .refine cK.mpr ⟨I.nodup,by simp,fun b hb c F=>?_⟩;refine Ac (aJ.mp F) ?_;rintro rfl;exact z hb
 .by_cases t:j<β.length
  .rw[aM t] at d;rw[aM (by refine Ac bZ (BE I.len ?_);exact t)] at f
   by_cases q:j=i
   .subst q;rw[hb] at d;obtain rfl:=inj d;rw[bR (Bm G)] at f;obtain rfl:=inj f;exact (B g).1
   .rw[bI (ct q)] at f
    have k:b≠a:=fun e=>by
     subst e;have D:=(bp.mp d);have E:=(bp.mp hb);exact q ((dH I.nodup).mp (D.2.trans E.2.symm))
    exact (I.obj j b x d f).keep g.toGrow0 fun _ v=>w b _ k v
  .have n:j<(β++[y]).length:=(Bm d);have u:j=β.length:=by simp at n;exact om4 t n
   subst u;rw[bT (bB _)] at d;rw[bT (by refine Ac bZ (Ac I.len ?_);exact bB _),bZ,<- I.len] at f;simp at d f;subst d f;exact (B g).2
 .have k:b≠a:=fun q=>by have:=I.fresh a A;rw[<- q,l] at this;injection this
  exact w b o k (I.base b o l)
 .intro b r
  rcases bl.mp r with d|d
  .exact I.fresh b d
  .refine Ac (aJ.mp d) ?_
   cases q:C.base.get? y with
   | none=>rfl
   | some O=>rw[I.base _ _ q] at p;injection p
theorem Zg1{nm:aW}{x v:AV}(h:putX ah H nm x v=some H'):∃ i f,x=.ref i/\H[i]?=some (.exo ah none f)/\H'=H.set i (.exo ah (some H.length) f)++[AO.attrs [(nm,v)]]:=Dq h fun i e g=>Gu g fun c o f b g=>B9 g fun a g=>B9 g fun d G=>by
 subst a d;exact⟨i,f,e,b,(inj G).symm⟩
theorem SS.putX{o e:Expr}{name:aW}{p pos:dc}{a d:DE}(L:Fj C K ah mN)(i3:HR K (C.clv ah) name)(ho:SE C n S o d)(he:SE C n S e a)
  (hs:∀ j,dR e (some (.Attribute o name p)) pos.line j=pure false):SS C n S (.Assign [.Attribute o name p] e pos) (Hy ah name d a):=by
 refine⟨fun A j σ H β s Q E F P hp=>?_⟩;refine fR (AE.thenE P.own hp (fun _ q=>he.go A j σ H β s _ E P q) ?_) (hs j);intro y ae v aa aj _ ag vy ai;have O:=P.after ag;refine AE.thenE O.own ai (fun _ q=>ho.go A j σ aa aj ae _ E O q) ?_;intro x am u M aw _ N vx J;have bk:=O.after N;have vy:=vy.mono N.grow
 cases t:Mine.putX ah M name u v with
 | none=>rw[t] at J;exact J.elim
 | some an =>
  rw[t] at J;refine B2 (Zg1 t) fun i f U hi V=>?_;subst U;subst V;refine Ah vx.inv fun xa R B=>?_;subst R;have c:=N.inv;refine CZ (c.obj i xa _ B hi) fun ob vs Y G I hf X=>Bu L.obj fun kd hC hN T=>?_;have W:=c.base _ _ hC;have hK:=c.kin L.kin;have T':=T.keeps c.base;obtain⟨k,gg,dr,tt,oo⟩:=am;refine Zgu hK i3 W T' Y G I X fun q tk' q1 q2 q3=>?_;have w:k.get? k.objs.size=none:=dX (bB _);have r:(aw++[k.objs.size])[M.length]?=some k.objs.size:=by refine BE c.len ?_;simp
  have af:=c.allocSet (s:=⟨k,gg,dr,tt,oo⟩) (h':=q) (y:=k.objs.size) (ao':=.exo ah (some M.length) f) (ao2:=.attrs [(name,v)]) B hi w (fun b Z hb D=>q3 b Z hb D)
   (fun g=>⟨⟨_,vs,q2,G,I,hf,k.objs.size,rfl,r⟩,_,q1,fun z=>by
    have:=Hu.put (C:=C) (β:=aw++[k.objs.size]) (h:=q) (m:=fun _=>none) (l:=[]) (fun _=>rfl) (nm:=name) (vy.mono g) z;exact this⟩) tk'
  exact J _ _ _ (af.weaken bk.own) ⟨trivial,(bk.after af).env⟩
structure IQ(K:aG)(B:aF):Prop where
 ga:specialIn K (.ref B) "__getattribute__"=some (some (.builtin "type.__getattribute__"))
 reads:readsIn K B (.type "type")=true
 find:findCls K (.ref B) (.type "type") "__init__"=some (.val (.builtin "ValueError.__init__"))
theorem Zg2{x:AV}(h:Hz ah H x=true):∃ i d,x=.ref i/\H[i]?=some (.exo ah d true) :=
 aD (d3.mp h) fun u e=>Dq e fun i E e=>Gu e fun c d b g e=>B9 e fun f e=>B9 e fun a _=>by
  subst f;subst a;exact⟨i,d,E,g⟩
theorem Zg3{i:Nat}{d:Option Nat}(h:H[i]?=some (.exo ah d true)):Hz ah H (.ref i)=true:=by
 show (match H[i]? with|some (.exo c _ b)=>if c=ah then (if b=true then some () else none) else none|_=>none:Option Unit).isSome=true;refine Ac h ?_;show (if ah=ah then (if true=true then some () else none) else none:Option Unit).isSome=true;exact Ac (if_pos rfl) rfl
set_option tactic.hygienic true in
theorem SE.initX{o:Expr}{d pos:dc}{e:Expr}{c:List Expr}{ds:List DE}{kB:Nat}(L:Fj C K ah mN)(V:IQ K (C.clv kB))(ho:SE C n S o (Am (.cls kB)))(ha:DV C n S (e::c) ds)
  (j:∀ v,gC o "__init__" v (eval o v)=eval o v)
  (t:∀ v,((backTo pos (starEach (e::c) v)).all (fun x=>!x.1)&&(backToKw pos (cz [] v)).all (fun x=>x.1.isSome)&&decide ((e::c).length+([]:List fJ).length+(if ([]:List fJ).isEmpty then 0 else 1)<30))=true)
  (l:∀ v,starEach (e::c) v=(false,eval e v)::starEach c v)
  (f:∀ v,(backTo pos (starEach (e::c) v)).any (·.1)=false)
  (k:(d.endLine == pos.line)=true) :
  SE C n S (.Call (.Attribute o "__init__" d) (e::c) [] pos) (FF ah ds):=by
 refine⟨fun A v σ H β s Q E P hp=>?_⟩
 (rewrite [arm_eval_Call];refine Ac (j v) ?_)
 refine aB (bJ (ho.go A v σ H β s (fun x p=>∃ R,Au C Bv β s R p H/\VR C R p.heap x (.cls kB)) E P (fun x s' β' a hx=>⟨β',a,hx⟩)) ?_ fun _ _ e=>e);intro x p hZ;refine Ah hZ fun R q vx=>?_;have e':=VR.inv vx;subst e';have ai:=AE.shift q hp;have ar:=P.after q;refine aB (cW ?_);have m:methodCallForm ((e::c).length+([]:List fJ).length) (backTo pos (starEach (e::c) v)) (backToKw pos (cz [] v))=true:=t v;have I:iJ true o v d pos=pure pos:=by unfold iJ;simp[k]
 unfold methodCall;refine Ac m (aB (bN (method_cls (q.inv.kin L.kin) V.ga (cls_value (q.inv.kin L.kin) V.reads V.find rfl ?_))));refine aB (wpAny_of_eq I ?_);have at_:=q.inv.toks (p.toks+1);have bk:=ar.after at_;have aq:=AE.shift at_ ai;have y:=f v;refine Bu L.obj fun kd hC hN T=>?_
 have key:wpAny (model C.prog C.w) A (spliced (backTo pos (starEach (e::c) v))) (fun ys U=>wpAny (model C.prog C.w) A (call (.builtin "ValueError.__init__") ys) Q E U) E { p with toks:=p.toks+1 }:=by
  refine AE.then aq (fun _ h'=>ha.go A v σ H R _ _ E pos bk h') ?_;intro ys U us ac aw _ ak vy ay;refine Ah (GP ay) fun r J c7=>I7 J fun jj u eu J=>B9 J fun hx J=>?_;obtain rfl:=inj J;refine Cg (Zg2 hx) fun i dx ex Y=>?_;subst ex;subst eu;refine B2 vy.two_inv fun y0 uv e0 v1 v2=>?_;subst e0;refine Ah v1.inv fun ea W hb=>?_;subst W;have h:=ak.inv;refine CZ (h.obj i ea _ hb Y) fun oe vs G D F z dl=>?_;have N:=(z rfl).1;have h1:=(z rfl).2;obtain⟨B,gg,dr,tt,oo⟩:=U;refine Qo (T.keeps h.base) (h.base _ _ hC) G D F N ?_
  have M:ac.set i (.exo ah dx true)=ac:=by
   exact aD (bp.mp Y) fun Z hv=>BE hv (jJ Z)
  have i4:=aP { cls:=.type "tuple",data:=.seq #[uv] } G;have g7:=dL F (·.setIfInBounds 0 (cD B.objs.size));have O:=bM (dk (·.setIfInBounds 0 (.ref B.objs.size))) i4 (eK g7)
  have af:=h.setObj' (s:=⟨B,gg,dr,tt,oo⟩) (h':=(B.push { cls:=.type "tuple",data:=.seq #[uv] }).update ea (dk (·.setIfInBounds 0 (.ref B.objs.size)))) (ao':=.exo ah dx true) hb Y
   (fun b o X hob=>by refine Ac (dA _ _ (ct X)) ?_;exact aP _ hob)
   (fun g=>⟨_,_,O,(cM _ _).trans D,g7,fun _=>⟨by simp[N],by simp[h1]⟩,by rw[fj.dict_mapFields];exact dl⟩) tt
  rw[M] at af;exact c7 _ _ _ af .none
 rw[l v] at key y ⊢;exact cH y (bU key)
end
end Mine
namespace Mine
open PySem PySem.W PyProof.Rows PySem.Calls PySem.SeqAt
def FG(h:Nat)(nm:aW)(o:DE)(i:Nat)(a:DE):DS:=fun σ H=>(a σ H).bind fun v aa=>match v with
 | .tup [u,w]=>(o σ aa).bind fun x A=>match putA h A nm x u with
  | some n=>.ok (.next,AM σ i w) n
  | none=>.bad
 | _=>.bad
section
variable {C:Cx}{n:Nat}{S:AN}{env:f3}{β β':List aF}{s s':aE}{σ σ':AW}{H H':AH}{A:bY}{E:aC->aE->Prop}{mg mb:aW->Option aC}{ah:Nat}{mN:aW->Option aC}{Φ:As}{K:aG}
theorem SS.ret0{pos:dc}:SS C n S (.Return none pos) (Av (Am .none)):=by
 refine⟨fun A e b H a s Q E F P h=>?_⟩;exact wpAny_Return_none (h _ s a ((Au.refl P.inv).weaken P.own) ⟨.none,P.env⟩)
theorem Qq{name:aW}(L:Dt C ah mN)(R:mN name=none)(hB:bE (.type "object") name=pure none)(I:B7 C β s.heap H){x y:aC}{u v:AV}(vx:VR C β s.heap x u)(vy:VR C β s.heap y v)(t:putA ah H name u v=some H'){Q:Unit->aE->Prop}
  (hq:∀ s',Au C Bv β s β s' H'->Q () s'):wpAny (model C.prog C.w) A (setAttr x name y) Q E s:=by
 refine BJ (Zga t) fun j l G hl r K=>?_;subst G;subst K;refine Ho (Zf9 I vx hl) fun a D ob m J h hoc S c hb N hm ha hI=>?_;subst J;refine Ah L.obj fun kd hC hN=>?_;have p:=I.base _ _ hC
 have T:a≠C.clv ah:=fun q=>by
  rw[q,p] at h;obtain rfl:=inj h;injection S
 have hW:Within m (l.map (·.1)):=fun z hz=>by
  have:=ha z
  cases B:l.lookup z with
  | none=>rw[B] at this;exact absurd this hz
  | some d=>exact a7.mpr ⟨(z,d),mem_of_lookup B,rfl⟩
 have hadx:a≠D:=fun q=>N (q▸aV hb);obtain⟨hh,gg,dr,tt,oo⟩:=s;refine store_attr j0 p (hN.keeps I.base) L.sa R hB T hI (fun X U M B i=>?_) hW (by rw[aK];exact al r (Al rfl));refine PL (i ob h) fun k W fu fw bu d0=>?_
 have br:k=ob:=by
  have h0:k=⟨k.cls,k.dict,k.data,k.slots⟩:=rfl;exact h0.trans (Ac fu (Ac fw (Ac bu (Ac (d0 D c) (BE c rfl)))))
 subst br
 have keep:∀ b o,b≠D->hh.get? b=some o->X.get? b=some o:=fun b o O e=>by
  by_cases q:b=a
  .subst q;rw[h] at e;obtain rfl:=inj e;exact W
  .exact B b o q (fun iy iz Y Z=>by rw[h] at Y;obtain rfl:=inj Y;rw[c] at Z;obtain rfl:=inj Z;exact O) e
 have f:X.Ns1 D (fun z=>if z=name then some y else m z):=by
  refine F4 M fun bn V _ _ P=>?_;rw[W] at V;obtain rfl:=inj V
  rcases P with ⟨q,_⟩|⟨d',q,_,f⟩
  .rw[c] at q;injection q
  .rw[c] at q;obtain rfl:=inj q;exact f
 exact hq _ (I.setObj' (s:=⟨hh,gg,dr,tt,oo⟩) (ao':=.attrs (D1 l name v)) hb hl keep (fun g=>⟨_,f,Hu.put (fun n=>(ha n).mono0 g.toGrow0) (vy.mono g)⟩) U)
theorem Zg4{M:Model}{o:Expr}{attr:aW}{pos:dc}{v:aC}{Q:Unit->aE->Prop}(h:wpAny M A (eval o env) (fun ov m=>wpAny M A (setAttr ov attr v) Q E m) E s):wpAny M A (assign (.Attribute o attr pos) env v) Q E s:=fun a p H=>by
 simp only[assign_Attribute,Sem.wp_bind',Sem.wp_holding,Sem.wp_cmd_standAt,Sem.wp_release,Sem.wp_pure'];exact Sem.wp_mono M a _ (fun ov _ m u=>u a _ H) (fun _ _ _ b=>b) _ _ (h a _ H)
theorem Qr{a:Type}{P:Rs a->Prop}(hb:¬ P .bad){v:AV}{f:AV->AV->Rs a}(h:P (match v with|.tup [u,w]=>f u w|_=>.bad)):∃ u w,v=.tup [u,w]:=by
 cases v with
 | tup l=>cases l with
  | nil=>exact (hb h).elim
  | cons u l=>cases l with
   | nil=>exact (hb h).elim
   | cons w l=>cases l with
    | nil=>exact⟨u,w,rfl⟩
    | cons=>exact (hb h).elim
 | _=>exact (hb h).elim
theorem SS.asgTA{o e:Expr}{name x:aW}{p N tp pos:dc}{k i:Nat}{a d:DE}(L:Dt C ah mN)(O:mN name=none)(hB:bE (.type "object") name=pure none)(ho:SE C n S o d)(h:SE C n S e a)(hx:S.Γ.lookup x=some i)(hS:S.calm=true)
  (R:∀ c,(fA [.Attribute o name p,.Name x N] c).map (·.2)=[assign (.Attribute o name p) c,assign (.Name x N) c]) (hns:[Expr.Attribute o name p,.Name x N].all Et=true)
  (hs:∀ c,iH [.Tuple [.Attribute o name p,.Name x N] k tp] e pos.line c=pure false) (hw:∀ c,iI [.Tuple [.Attribute o name p,.Name x N] k tp] e c=pure none) :
  SS C n S (.Assign [.Tuple [.Attribute o name p,.Name x N] k tp] e pos) (FG ah name d i a):=by
 refine⟨fun A c σ H β s Q E F P hp=>?_⟩;refine la (AE.thenE P.own hp (fun _ g=>h.go A c σ H β s _ E P g) ?_) (hs c) (hw c);intro y m v aa V _ T vx U;have W:=P.after T;refine Ez (Qr (P:=fun r=>AE C (CL c) (FR C S c) V m r Q E) id U) fun u w K=>?_;subst K;refine BJ (VR.inv vx) fun ta I M ht hn Z=>?_;subst M;have f:=Z.length;rw[aR] at f;refine kG (P.calm hS) ht (by refine Ac f ?_;rfl) rfl fun g j=>?_;have hk:∀ b o,m.heap.get? b=some o->g.get? b=some o:=fun b o e=>j b o (bV (bX e)) e;have J:=T.inv.keeps (s:=m) m.toks hk;have G:=W.after J;have aq:=AE.shift (J.weaken W.own) U;have Y:=Z.mono J.grow;refine Ac (R c) ?_;obtain⟨l⟩:=I;dsimp only at Y ⊢;refine B2 (Bg.two_inv Y) fun y0 y1 K v1 v2=>?_;subst K;refine fh (Zg4 (AE.thenE G.own aq (fun _ g=>ho.go A c σ aa V _ _ E G g) ?_));intro z a8 zz an bh _ q vz B;have X:=G.after q
 cases t:Mine.putA ah an name zz u with
 | none=>rw[t] at B;exact B.elim
 | some bj =>
  rw[t] at B;refine Qq L O hB q.inv vz (v1.mono q.grow) t fun bv D=>?_;have i5:=X.after D;refine fh (eO (Qb D.inv i5.env hx (F.1 x) ((v2.mono q.grow).mono D.grow) fun dw cn fb=>?_));exact iG (B _ dw bh ((D.weaken X.own).trans cn) ⟨trivial,fb⟩)
end
end Mine
namespace Mine
open PySem
def W{b:Type}(r:Rs b)(Q:b->AH->Prop):Prop:=∃ a H,r=.ok a H/\Q a H
def WS(r:Rs (Fl×AW))(N:AW->AH->Prop)(R:AV->AH->Prop):Prop:=W r fun p H=>match p with
 | (.next,σ)=>N σ H
 | (.ret v,_)=>R v H
def OB{a:Type}(o:Option a)(Q:a->Prop):Prop:=∃ v,o=some v/\Q v
section
variable {α β:Type}{Φ:As}{σ:AW}{H:AH}{Q:AV->AH->Prop}{T:Bool->AH->Prop}{N:AW->AH->Prop}{R:AV->AH->Prop}
theorem W.mono{r:Rs α}{P Q:α->AH->Prop}(h:W r P)(q:∀ a H,P a H->Q a H):W r Q:=by
 exact Cg h fun a H e p=>⟨a,H,e,q a H p⟩
theorem W.bind{r:Rs α}{f:α->AH->Rs β}{Q:β->AH->Prop}(h:W r fun a H=>W (f a H) Q):W (r.bind f) Q:=by
 exact Zak h fun a H e b c E q=>⟨b,c,by rw[e];exact E,q⟩
theorem W.bindB{r:Rs α}{f:α->AH->Rs β}{Q:β->AH->Prop}(h:W r fun a H=>W (f a H) Q):W (r.bindB f) Q:=by
 exact Zak h fun a H e b c E q=>⟨b,c,by rw[e];exact E,q⟩
theorem OB.of{o:Option α}{v:α}{Q:α->Prop}(e:o=some v)(q:Q v):OB o Q:=⟨v,e,q⟩
theorem C4{o:Option AV}(h:OB o fun v=>Q v H):W (DZ H o) Q:=by
 exact Ah h fun v e q=>⟨v,H,by rw[e];rfl,q⟩
theorem Ak{v:AV}(q:Q v H):W (Am v σ H) Q:=⟨_,_,rfl,q⟩
theorem Ax{i:Nat}{v:AV}(e:σ i=some v)(q:Q v H):W (Aa i σ H) Q:=⟨v,H,by unfold Aa;rw[e],q⟩
theorem Br{op:Gh}{a b:DE}(h:W (a σ H) fun x aa=>W (b σ aa) fun y A=>OB (BN A op x y) fun v=>Q v A):W (Ap op a b σ H) Q :=
 W.bind (h.mono fun x aa h=>W.bind (h.mono fun y A h=>C4 h))
theorem G2{a:DE}(h:W (a σ H) fun x aa=>∃ i,x=.int i/\Q (.int (-i)) aa):W (Fe a σ H) Q :=
 W.bind (h.mono fun x aa h=>by refine Ah h fun i e q=>?_;subst e;exact⟨_,_,rfl,q⟩)
theorem G3{t:DT}(h:W (t σ H) fun b aa=>Q (.bool (!b)) aa):W (GK t σ H) Q :=
 W.bind (h.mono fun b aa h=>⟨_,_,rfl,h⟩)
theorem Ci{op:F5}{a b:DE}(h:W (a σ H) fun x aa=>W (b σ aa) fun y A=>OB (Bl A op x y) fun c=>Q (.bool c) A):W (Aw op a b σ H) Q :=
 W.bind (h.mono fun x aa h=>W.bind (h.mono fun y A h=>C4 (by refine Ah h fun c e q=>?_;exact⟨_,by rw[e];rfl,q⟩)))
theorem FH{f B:F5}{a b c:DE}(h:W (a σ H) fun x aa=>W (b σ aa) fun y A=>OB (Bl A f x y) fun d=>(d=true->W (c σ A) fun z n=>OB (Bl n B y z) fun g=>Q (.bool g) n)/\(d=false->Q (.bool false) A)):W (DQ f B a b c σ H) Q :=
 W.bind (h.mono fun x aa h=>W.bind (h.mono fun y A h=>by
  refine Ah h fun d e q=>?_;simp only[e]
  cases d with
  | true=>exact W.bind ((q.1 rfl).mono fun z n h=>C4 (by refine Ah h fun c e q=>?_;exact⟨_,by rw[e];rfl,q⟩))
  | false=>exact⟨_,_,rfl,q.2 rfl⟩))
theorem D7{a b:DE}(h:W (a σ H) fun x aa=>∃ c,x=.bool c/\(c=true->W (b σ aa) Q)/\(c=false->Q (.bool false) aa)):W (DU a b σ H) Q :=
 W.bind (h.mono fun x aa h=>by
  obtain⟨c,rfl,h⟩:=h
  cases c with
  | true=>exact h.1 rfl
  | false=>exact⟨_,_,rfl,h.2 rfl⟩)
theorem Qs{a b:DE}(h:W (a σ H) fun x aa=>∃ c,x=.bool c/\(c=false->W (b σ aa) Q)/\(c=true->Q (.bool true) aa)):W (UV a b σ H) Q :=
 W.bind (h.mono fun x aa h=>by
  obtain⟨c,rfl,h⟩:=h
  cases c with
  | false=>exact h.1 rfl
  | true=>exact⟨_,_,rfl,h.2 rfl⟩)
theorem An{Q:List AV->AH->Prop}(q:Q [] H):W (AL [] σ H) Q:=⟨_,_,rfl,q⟩
theorem Af{d:DE}{r:List DE}{Q:List AV->AH->Prop}(h:W (d σ H) fun v aa=>W (AL r σ aa) fun vs a=>Q (v::vs) a):W (AL (d::r) σ H) Q :=
 W.bind (h.mono fun x aa h=>W.bind (h.mono fun y a h=>⟨_,_,rfl,h⟩))
theorem AP{l:List DE}(h:W (AL l σ H) fun vs aa=>Q (.tup vs) aa):W (Az l σ H) Q:=W.bind (h.mono fun x aa h=>⟨_,_,rfl,h⟩)
theorem BW{l:List DE}(h:W (AL l σ H) fun vs aa=>Q (.lst vs) aa):W (B3 l σ H) Q:=W.bind (h.mono fun x aa h=>⟨_,_,rfl,h⟩)
theorem Du{l:List DE}(h:W (AL l σ H) fun vs aa=>Q (.ref aa.length) (aa++[.list vs])):W (Di l σ H) Q:=W.bind (h.mono fun x aa h=>⟨_,_,rfl,h⟩)
theorem Bp{a i:DE}(h:W (a σ H) fun x aa=>W (i σ aa) fun k A=>OB (Cy A x k) fun v=>Q v A):W (Aj a i σ H) Q :=
 W.bind (h.mono fun x aa h=>W.bind (h.mono fun y A h=>C4 h))
theorem B4{k:Nat}{l:List DE}(h:W (AL l σ H) fun vs aa=>W (Φ k vs aa) Q):W (Cz Φ (Am (.fn k)) l σ H) Q :=
 W.bind ⟨_,_,rfl,W.bind (h.mono fun vs aa h=>h)⟩
theorem BX{n:BI}{l:List DE}(h:W (AL l σ H) fun vs aa=>OB (BK aa n vs) fun v=>Q v aa):W (Cz Φ (Am (.bi n)) l σ H) Q :=
 W.bind ⟨_,_,rfl,W.bind (h.mono fun vs aa h=>C4 h)⟩
theorem DG{f:List AV->List AV->Option (List AV)}{o:DE}{l:List DE}(h:W (o σ H) fun x aa=>I1 aa x=true/\W (AL l σ aa) fun us a=>OB (BO a x (f us)) fun A=>Q .none A):W (Cq f o l σ H) Q :=
 W.bind (h.mono fun x aa h=>by
  show W (if I1 aa x then _ else _) Q;rw[if_pos h.1];exact W.bind (h.2.mono fun us a h=>by refine Ah h fun A e q=>?_;exact⟨_,_,by rw[e];rfl,q⟩))
theorem AZ{a:DE}(h:W (a σ H) fun x aa=>∃ c,x=.bool c/\T c aa):W (Aq a σ H) T :=
 W.bind (h.mono fun x aa h=>by obtain⟨c,rfl,h⟩:=h;exact⟨_,_,rfl,h⟩)
theorem AU{op:F5}{a b:DE}(h:W (a σ H) fun x aa=>W (b σ aa) fun y A=>OB (Bl A op x y) fun c=>T c A):W (Aq (Aw op a b) σ H) T :=
 AZ (Ci (h.mono fun x aa h=>h.mono fun y A h=>by refine Ah h fun c e q=>?_;exact⟨c,e,c,rfl,q⟩))
theorem B0{t:DT}(h:W (t σ H) fun b aa=>T (!b) aa):W (BU t σ H) T:=W.bind (h.mono fun b aa h=>⟨_,_,rfl,h⟩)
theorem G4{a b:DT}(h:W (a σ H) fun c aa=>(c=true->W (b σ aa) T)/\(c=false->T false aa)):W (Gl a b σ H) T :=
 W.bind (h.mono fun c aa h=>by
  cases c with
  | true=>exact h.1 rfl
  | false=>exact⟨_,_,rfl,h.2 rfl⟩)
theorem CH{a b:DT}(h:W (a σ H) fun c aa=>(c=true->T true aa)/\(c=false->W (b σ aa) T)):W (D8 a b σ H) T :=
 W.bind (h.mono fun c aa h=>by
  cases c with
  | false=>exact h.2 rfl
  | true=>exact⟨_,_,rfl,h.1 rfl⟩)
theorem BY{i:Nat}{v:AV}{r:List DE}{Q:List AV->AH->Prop}(e:σ i=some v)(q:W (AL r σ H) fun vs a=>Q (v::vs) a):W (AL (Aa i::r) σ H) Q:=Af (Ax e q)
theorem CA{v:AV}{r:List DE}{Q:List AV->AH->Prop}(q:W (AL r σ H) fun vs a=>Q (v::vs) a):W (AL (Am v::r) σ H) Q:=Af (Ak q)
theorem Ay{i:Nat}{v:AV}{Q:List AV->AH->Prop}(e:σ i=some v)(q:Q [v] H):W (AL [Aa i] σ H) Q:=BY e (An q)
theorem AI{v:AV}{Q:List AV->AH->Prop}(q:Q [v] H):W (AL [Am v] σ H) Q:=CA (An q)
theorem H0{i:Nat}{v c:AV}{Q:List AV->AH->Prop}(e:σ i=some v)(q:Q [v,c] H):W (AL [Aa i,Am c] σ H) Q:=BY e (AI q)
theorem Dy{i j:Nat}{v u:AV}{Q:List AV->AH->Prop}(e:σ i=some v)(E:σ j=some u)(q:Q [v,u] H):W (AL [Aa i,Aa j] σ H) Q:=BY e (Ay E q)
theorem Ba{i:Nat}{v:AV}{a:DE}(e:σ i=some v)(q:W (a σ H) fun k A=>OB (Cy A v k) fun u=>Q u A):W (Aj (Aa i) a σ H) Q:=Bp (Ax e q)
theorem B5{i:Nat}{v c:AV}(e:σ i=some v)(q:OB (Cy H v c) fun u=>Q u H):W (Aj (Aa i) (Am c) σ H) Q:=Ba e (Ak q)
theorem Zhc{i j:Nat}{v u:AV}(e:σ i=some v)(E:σ j=some u)(q:OB (Cy H v u) fun u=>Q u H):W (Aj (Aa i) (Aa j) σ H) Q:=Ba e (Ax E q)
theorem Cf{op:F5}{i:Nat}{v:AV}{b:DE}(e:σ i=some v)(h:W (b σ H) fun y a=>OB (Bl a op v y) fun c=>T c a):W (Aq (Aw op (Aa i) b) σ H) T:=AU (Ax e h)
theorem KP{op:F5}{i:Nat}{v c:AV}(e:σ i=some v)(h:OB (Bl H op v c) fun c=>T c H):W (Aq (Aw op (Aa i) (Am c)) σ H) T:=Cf e (Ak h)
theorem Zhe{op:F5}{i j:Nat}{v u:AV}(e:σ i=some v)(E:σ j=some u)(h:OB (Bl H op v u) fun c=>T c H):W (Aq (Aw op (Aa i) (Aa j)) σ H) T:=Cf e (Ax E h)
theorem Bk{op:Gh}{i:Nat}{v:AV}{b:DE}(e:σ i=some v)(h:W (b σ H) fun y a=>OB (BN a op v y) fun u=>Q u a):W (Ap op (Aa i) b σ H) Q:=Br (Ax e h)
theorem EL{op:Gh}{v:AV}{b:DE}(h:W (b σ H) fun y a=>OB (BN a op v y) fun u=>Q u a):W (Ap op (Am v) b σ H) Q:=Br (Ak h)
theorem GD{op:Gh}{i:Nat}{v c:AV}(e:σ i=some v)(h:OB (BN H op v c) fun u=>Q u H):W (Ap op (Aa i) (Am c) σ H) Q:=Bk e (Ak h)
theorem Zhg{op:Gh}{i j:Nat}{v u:AV}(e:σ i=some v)(E:σ j=some u)(h:OB (BN H op v u) fun u=>Q u H):W (Ap op (Aa i) (Aa j) σ H) Q:=Bk e (Ax E h)
theorem FI{op:F5}{i:Nat}{v:AV}{b:DE}(e:σ i=some v)(h:W (b σ H) fun y a=>OB (Bl a op v y) fun c=>Q (.bool c) a):W (Aw op (Aa i) b σ H) Q:=Ci (Ax e h)
theorem Zhh{op:F5}{i j:Nat}{v u:AV}(e:σ i=some v)(E:σ j=some u)(h:OB (Bl H op v u) fun c=>Q (.bool c) H):W (Aw op (Aa i) (Aa j) σ H) Q:=FI e (Ax E h)
theorem Mg{f:List AV->List AV->Option (List AV)}{i:Nat}{v:AV}{l:List DE}(e:σ i=some v)(h:I1 H v=true/\W (AL l σ H) fun us a=>OB (BO a v (f us)) fun A=>Q .none A):W (Cq f (Aa i) l σ H) Q:=DG (Ax e h)
theorem Ag{a b:DS}(h:WS (a σ H) (fun A aa=>WS (b A aa) N R) R):WS (Ai a b σ H) N R :=
 W.bind (W.mono h fun p aa h=>by
  obtain⟨f,A⟩:=p
  cases f with
  | next=>exact h
  | ret v=>exact⟨_,_,rfl,h⟩)
theorem A9(h:N σ H):WS (AC σ H) N R:=⟨_,_,rfl,h⟩
theorem Ar{a:DE}(h:W (a σ H) fun v aa=>R v aa):WS (Av a σ H) N R:=W.bind (h.mono fun v aa h=>⟨_,_,rfl,h⟩)
theorem IR{i:Nat}{v:AV}(e:σ i=some v)(h:R v H):WS (Av (Aa i) σ H) N R:=Ar (Ax e h)
theorem AD{i:Nat}{a:DE}(h:W (a σ H) fun v aa=>N (AM σ i v) aa):WS (AG i a σ H) N R:=W.bind (h.mono fun v aa h=>⟨_,_,rfl,h⟩)
theorem Bt{a:DE}(h:W (a σ H) fun _ aa=>N σ aa):WS (Bj a σ H) N R:=W.bind (h.mono fun v aa h=>⟨_,_,rfl,h⟩)
theorem AK{t:DT}{a b:DS}(h:W (t σ H) fun c aa=>(c=true->WS (a σ aa) N R)/\(c=false->WS (b σ aa) N R)):WS (Bo t a b σ H) N R :=
 W.bind (h.mono fun c aa h=>by
  cases c with
  | true=>exact h.1 rfl
  | false=>exact h.2 rfl)
theorem Mh{o k a:DE}(h:W (a σ H) fun v aa=>W (o σ aa) fun x A=>W (k σ A) fun p n=>OB (BO n x (Fg p v)) fun b=>N σ b):WS (Cb o k a σ H) N R :=
 W.bind (h.mono fun v aa h=>W.bind (h.mono fun v aa h=>W.bind (h.mono fun v aa h=>by
  refine Ah h fun b e q=>?_;exact⟨_,_,by rw[e],q⟩)))
theorem CX{t:Tg}{it:DE}{b:DS}(h:W (it σ H) fun x aa=>OB (iter? x) fun l=>WS (Gn t b l σ aa) N R):WS (Da t it b σ H) N R :=
 W.bind (h.mono fun x aa h=>by
  refine Ah h fun l e q=>?_;simp only[e];exact q)
theorem BV{p:Prop}[Decidable p]{A B:Prop}(a:p->A)(b:¬ p->B):(decide p=true->A)/\(decide p=false->B) :=
 ⟨fun h=>a (of_decide_eq_true h),fun h=>b (of_decide_eq_false h)⟩
theorem Qt{p:Prop}[Decidable p]{A B:Prop}(a:¬ p->A)(b:p->B):((!decide p)=true->A)/\((!decide p)=false->B) :=
 ⟨fun h=>a (by simpa using h),fun h=>b (by simpa using h)⟩
theorem AA{A B:Prop}(a:A):(true=true->A)/\(true=false->B):=⟨fun _=>a,fun h=>nomatch h⟩
theorem A8{A B:Prop}(b:B):(false=true->A)/\(false=false->B):=⟨fun h=>(nomatch h),fun _=>b⟩
theorem Vu{A B:Prop}(b:A):(false=false->A)/\(false=true->B):=⟨fun _=>b,fun h=>nomatch h⟩
theorem Mi{A B:Prop}(b:B):(true=false->A)/\(true=true->B):=⟨fun h=>(nomatch h),fun _=>b⟩
theorem Vv{c:Bool}{A B:Prop}(a:c=true->A)(b:c=false->B):(c=true->A)/\(c=false->B):=⟨a,b⟩
theorem Cn{c:Bool}{P:Bool->Prop}(h:P c):∃ d,AV.bool c=.bool d/\P d:=⟨_,rfl,h⟩
theorem Eg{c:Int}{P:Int->Prop}(h:P c):∃ d,AV.int c=.int d/\P d:=⟨_,rfl,h⟩
end
theorem Bq{H:AH}{a b:Int}{Q:AV->Prop}(hb:b≠0)(q:Q (.int (a.fmod b))):OB (BN H .mod (.int a) (.int b)) Q :=
 ⟨_,by show (if b=0 then none else _)=_;rw[if_neg hb],q⟩
theorem Fu{H:AH}{a b:Int}{Q:AV->Prop}(hb:b≠0)(q:Q (.int (a.fdiv b))):OB (BN H .fdiv (.int a) (.int b)) Q :=
 ⟨_,by show (if b=0 then none else _)=_;rw[if_neg hb],q⟩
theorem EM{H:AH}{a b:Int}{Q:AV->Prop}(hb:b.natAbs<2 ^ 60\/a.natAbs<2 ^ 60)(q:Q (.int (a*b))):OB (BN H .mul (.int a) (.int b)) Q :=
 ⟨_,by unfold BN E7;simp only;rw[if_pos hb],q⟩
theorem Bn{H:AH}{a b:Int}{Q:AV->Prop}(q:Q (.int (a+b))):OB (BN H .add (.int a) (.int b)) Q:=⟨_,rfl,q⟩
theorem EN{H:AH}{a b:Int}{Q:AV->Prop}(q:Q (.int (a-b))):OB (BN H .sub (.int a) (.int b)) Q:=⟨_,rfl,q⟩
theorem Zhn(a b:Int):ce (.int a) (.int b)=decide (a=b):=by
 unfold ce
 by_cases h:a=b<;>simp[h]
theorem Zho(a b:aW):ce (.str a) (.str b)=decide (a=b):=by
 unfold ce
 by_cases h:a=b<;>simp[h]
theorem Zhp(H:AH)(a b:Int):D3 H (.int a) (.int b)=some (decide (a=b)):=by
 show (if bx (.int a)&&bx (.int b) then some (ce (.int a) (.int b)) else none)=_;rw[Zhn];rfl
theorem Zhq(H:AH){a b:aW}(h:bx (.str a)=true)(hb:bx (.str b)=true):D3 H (.str a) (.str b)=some (decide (a=b)):=by
 show (if bx (.str a)&&bx (.str b) then some (ce (.str a) (.str b)) else none)=_;rw[Zho,h,hb];rfl
theorem Qu{H:AH}{a b:AV}{d e:gV}(h:data H 12 a=some d)(h':data H 12 b=some e)(s:bx d=true)(c:bx e=true):D3 H a b=some (ce d e):=by
 unfold D3;refine Ac h (Ac h' ?_);exact if_pos (aL.mpr ⟨s,c⟩)
theorem BG{H:AH}{a b:Int}{Q:Bool->Prop}(q:Q (decide (a=b))):OB (Bl H .eq (.int a) (.int b)) Q:=⟨_,Zhp H a b,q⟩
theorem Eh{H:AH}{a b:Int}{Q:Bool->Prop}(q:Q (!decide (a=b))):OB (Bl H .ne (.int a) (.int b)) Q:=⟨_,by unfold Bl;simp only[Zhp];rfl,q⟩
theorem IS{H:AH}{a b:aW}{Q:Bool->Prop}(h:bx (.str a)=true)(hb:bx (.str b)=true)(q:Q (decide (a=b))):OB (Bl H .eq (.str a) (.str b)) Q:=⟨_,Zhq H h hb,q⟩
theorem Zhr{l:List AV}{k:Int}{v:AV}(b:0<=k)(h₁:k<=1048576)(e:l[k.toNat]?=some v):Ce l k=some v:=by
 unfold Ce;rw[if_pos ⟨by exact Z2a b h₁,by assumption⟩,if_pos b];exact e
theorem fm(a:Int){b:Int}(h:0<b):0<=a.fmod b/\a.fmod b<b:=⟨Int.fmod_nonneg_of_pos a h,Int.fmod_lt_of_pos a h⟩
theorem fd(a:Int){b:Int}(H:0<=a)(h:0<b):0<=a.fdiv b:=Int.fdiv_nonneg H (by exact c0 (by assumption))
theorem B1{m:Nat}{b:As->DS}{d:As}{a:List AV}{H:AH}{Q:AV->AH->Prop}(l:a.length=m)(h:WS (b d (BL a 0) H) (fun _ aa=>aa.take H.length=H/\Q .none H) (fun v aa=>aa.take H.length=H/\OB (AR H.length aa 12 v) fun V=>Q V H)) :
  W (CK.run ⟨m,true,b⟩ d a H) Q:=by
 refine Cg h fun c aa e q=>?_;obtain⟨f,i⟩:=c
 cases f with
 | next =>
  refine⟨_,_,?_,q.2⟩;unfold CK.run;rw[if_pos l];simp only[e,Rs.bind_ok,Rs.bindB_ok,if_pos q.1,Fl.val];rfl
 | ret v =>
  obtain⟨t,V,g,q⟩:=q;refine⟨_,_,?_,q⟩;unfold CK.run;rw[if_pos l];simp only[e,Rs.bind_ok,Rs.bindB_ok,if_pos t,Fl.val,g];rfl
theorem AB{t:Nat->Option CK}{n k:Nat}{f:CK}{a:List AV}{H:AH}{Q:AV->AH->Prop}(h:t k=some f)(q:W (f.run (AF t n) a H) Q):W (AF t (n+1) k a H) Q:=by
 show W (match t k with|some f=>f.run (AF t n) a H|none=>.bad) Q;exact Ac h q
theorem Zhs(H:AH)(o:AO):(H++[o])[H.length]?=some o:=by simp
theorem Zht(H X:AH):(H++X).take H.length=H:=by simp
theorem Vw(H:AH):H.take H.length=H:=by simp
theorem Zhv(H:AH)(l:List AV):I1 (H++[.list l]) (.ref H.length)=true:=by unfold I1;simp
theorem Zhw(H:AH)(l:List AV):listOf? (H++[.list l]) (.ref H.length)=some l:=by unfold listOf?;simp
theorem Vx{H:AH}{l l':List AV}{f:List AV->Option (List AV)}(e:f l=some l'):BO (H++[.list l]) (.ref H.length) f=some (H++[.list l']):=by
 unfold BO;simp[e]
theorem Zhy{H:AH}{l:List AV}{v:AV}(h:l.length<=1048576):BO (H++[.list l]) (.ref H.length) (CV [v])=some (H++[.list (l++[v])]) :=
 Vx (by unfold CV Ff;simp[h])
noncomputable def flat:Nat->AV->Bool
 | 0,_=>false
 | n+1,v=>match v with
  | .tup l=>l.all (flat n)
  | .lst l=>l.all (flat n)
  | .ref _=>false
  | .inst _ _=>false
  | .exc _=>false
  | _=>true
theorem Zhz{f:AV->Option AV}:∀ {l:List AV},(∀ v∈l,f v=some v)->l.mapM f=some l
 | [],_=>rfl
 | v::r,h=>by
  rw[dN,h v (aN ..),Zhz (l:=r) fun w H=>h w (aT _ H)];rfl
theorem KQ{m:Nat}{H:AH}:∀ (n:Nat) (v:AV),flat n v=true->AR m H n v=some v
 | 0,_,h=>nomatch h
 | n+1,v,h=>by
  cases v with
  | tup l =>
   have h:l.all (flat n)=true:=h;show (l.mapM (AR m H n)).map AV.tup=_;rw[Zhz fun v a=>KQ n v (aI.mp h v a)];rfl
  | lst l =>
   have h:l.all (flat n)=true:=h;show (l.mapM (AR m H n)).map AV.lst=_;rw[Zhz fun v a=>KQ n v (aI.mp h v a)];rfl
  | ref _=>exact nomatch h
  | inst _ _=>exact nomatch h
  | exc _=>exact nomatch h
  | _=>rfl
theorem Mj:∀ {n k:Nat} (v:AV),n<=k->flat n v=true->flat k v=true
 | 0,_,_,_,h=>nomatch h
 | n+1,0,_,H,_=>absurd H (j2 _)
 | n+1,k+1,v,H,h=>by
  cases v with
  | tup l =>
   have h:l.all (flat n)=true:=h;show l.all (flat k)=true;exact aI.mpr fun v a=>Mj v (Ir H) (aI.mp h v a)
  | lst l =>
   have h:l.all (flat n)=true:=h;show l.all (flat k)=true;exact aI.mpr fun v a=>Mj v (Ir H) (aI.mp h v a)
  | ref _=>exact nomatch h
  | inst _ _=>exact nomatch h
  | exc _=>exact nomatch h
  | _=>rfl
theorem Zh2{H:AH}{l:List AV}{n:Nat}(h:∀ v∈l,flat n v=true):AR H.length (H++[.list l]) (n+1) (.ref H.length)=some (.lst l):=by
 unfold AR;simp only;rw[if_neg (by exact dj _),Zhs];show gr AV.lst (l.mapM (AR H.length (H++[.list l]) n))=_;rw[Zhz fun v a=>KQ n v (h v a)];rfl
theorem Zh3{E:DE}{ifs:DT}{k:Nat}{σ:AW}{x:AV}{H:AH}{l:List AV}(e:iter? x=some l):Ca E ifs k σ x H=E5 E ifs k σ H.length (fun _=>some l) (l.length+1) 0 (H++[.list []]):=by unfold Ca;rw[e]
end Mine
namespace Mine
open PySem
variable {σ:AW}{H:AH}{N:AW->AH->Prop}{R:AV->AH->Prop}
theorem Zh4{X:Type}{t:Tg}{f:X->AV}{b:DS}{src:AH->Option (List AV)}{L:List AV}{I:List X->AW->AH->Prop}(s:∀ r σ H,I r σ H->src H=some L)(hb:∀ x r σ H,I (x::r) σ H->∃ a,t.bind (f x) σ=some a/\WS (b a H) (I r) R)(g:∀ σ H,I [] σ H->N σ H){l:List X} :
  ∀ {dn:List AV} {m j:Nat} {σ:AW} {H:AH},dn.length=j->L=dn++l.map f->l.length<m->I l σ H->WS (BF t b src m j σ H) N R:=by
 induction l with
 | nil =>
  intro dn m j σ H d e c i
  cases m with
  | zero=>exact absurd c (cO _)
  | succ m =>
   rw[lf,bS] at e;subst e;subst d;exact⟨_,_,(GL (s _ _ _ i) (dO (bB _))).trans (if_pos rfl),g _ _ i⟩
 | cons x r k =>
  intro dn m j σ H d e c i
  cases m with
  | zero=>exact absurd c (cO _)
  | succ m =>
   subst d;refine Ah (hb _ _ _ _ i) fun a E h=>?_;refine Ac (Zaw (s _ _ _ i) ((congrArg (·[dn.length]?) e).trans Zau)) (Ac E ?_)
   exact W.bind (W.mono h fun p A h=>by
    obtain⟨fl,a⟩:=p
    cases fl with
    | next=>exact k (dn:=dn++[f x]) bH (e.trans (cu dn [f x] _).symm) (jy c) h
    | ret v=>exact⟨_,_,rfl,h⟩)
theorem Zh5{X:Type}{t:Tg}{f:X->AV}{b:DS}(I:List X->AW->AH->Prop)(hb:∀ x r σ H,I (x::r) σ H->∃ a,t.bind (f x) σ=some a/\WS (b a H) (I r) R)(h:∀ σ H,I [] σ H->N σ H){l:List X}(B:I l σ H) :
  WS (Gn t b (l.map f) σ H) N R:=Zh4 (dn:=[]) (fun _ _ _ _=>rfl) hb h rfl rfl (eQ (bW (aK ..).symm)) B
theorem Qv{X:Type}{i:Nat}{f:X->AV}{b:DS}(I:List X->AW->AH->Prop)(hb:∀ x r σ H,I (x::r) σ H->WS (b (AM σ i (f x)) H) (I r) R)(a:∀ σ H,I [] σ H->N σ H){l:List X}(B:I l σ H) :
  WS (Gn (.one i) b (l.map f) σ H) N R:=Zh5 I (fun x r σ H h=>⟨_,rfl,hb x r σ H h⟩) a B
theorem Sf{i:Nat}{b:Int}{B:DS}(I:Nat->AW->AH->Prop)(hb:∀ (j:Nat) σ H,(j:Int)<b->I j σ H->WS (B (AM σ i (.int j)) H) (I (j+1)) R)(g:∀ σ H,I b.toNat σ H->N σ H)(c:I 0 σ H) :
  WS (Gn (.one i) B (BP b) σ H) N R:=by
 refine Qv (X:=Nat) (f:=fun k=>.int k) (l:=eT b.toNat) (fun r σ H=>∃ j n,j+n=b.toNat/\r=List.range' j n/\I j σ H) (fun x r σ H h=>?_) (fun σ H h=>?_) ⟨0,b.toNat,ey _,List.range_eq_range',c⟩
 .refine B2 h fun j n a e h=>?_
  cases n with
  | zero=>injection e
  | succ n =>
   injection e with d F
   subst d
   exact W.mono (hb x σ H (kO.mp (a▸cR (fE n))) h) fun p A q=>by
    obtain⟨f,z⟩:=p
    cases f with
    | next=>exact⟨x+1,n,(kP x n).trans a,F,q⟩
    | ret v=>exact q
 .refine B2 h fun j n a e h=>?_
  cases n with
  | zero=>exact g σ H (a▸h)
  | succ n=>injection e
theorem GU{a b:AV}{k:Int}{Q:AV->Prop}(B:0<=k)(h₁:k<2)(q:k=0->Q a)(c:k=1->Q b):OB (Cy H (.lst [a,b]) (.int k)) Q:=by
 have:k=0\/k=1:=by exact om5 B h₁
 rcases this with rfl|rfl
 .exact⟨_,rfl,q rfl⟩
 .exact⟨_,rfl,c rfl⟩
theorem Mk{b:Int}{Q:AV->Prop}(B:0<=b)(h₁:b<=1000000)(q:Q (.rng b)):OB (BK H .range [.int b]) Q :=
 ⟨_,by show (if -1048576<=b/\b<=1048576 then some (AV.rng b) else none)=_;exact Ac (if_pos ⟨by exact om6 B h₁,by exact aO (by assumption) (Al rfl)⟩) rfl,q⟩
theorem Sg{b:Int}{Q:List AV->Prop}(B:0<=b)(h₁:b<=1000000)(q:Q (BP b)):OB (iter? (.rng b)) Q :=
 ⟨_,by show (if -1048576<=b/\b<=1048576 then some (BP b) else none)=_;exact Ac (if_pos ⟨by exact om6 B h₁,by exact aO (by assumption) (Al rfl)⟩) rfl,q⟩
noncomputable def ov:Option Int->AV
 | none=>.none
 | some i=>.int i
theorem Zia(v:Option Int){n:Nat}:flat (n+1) (ov v)=true:=by cases v<;>rfl
theorem GV{x:Int}{c:Bool}{Q:AV->Prop}(q:∀ v:Option Int,(∀ i,v=some i->i=x)->Q (ov v)):OB (Cy H (.lst [.int x,.none]) (.int (if c=true then 1 else 0))) Q:=by
 cases c with
 | true=>exact⟨_,rfl,q none fun i h=>nomatch h⟩
 | false=>exact⟨_,rfl,q (some x) fun i h=>by injection h with h;exact h.symm⟩
theorem KR{c:Bool}{Q:AV->Prop}(q:Q (.int (if c=true then 1 else 0))):OB (BK H .int [.bool c]) Q:=⟨_,rfl,q⟩
theorem Zic(a:Int){b:Int}(h:0<=b):a.fdiv b=a / b:=Int.fdiv_eq_ediv_of_nonneg a h
theorem Zid(a:Int){b:Int}(h:0<=b):a.fmod b=a % b:=Int.fmod_eq_emod_of_nonneg a h
theorem Ie{l:List AV}{k:Int}{v:AV}{Q:AV->Prop}(b:0<=k)(h₁:k<=1000000)(e:l[k.toNat]?=some v)(q:Q v):OB (Cy H (.tup l) (.int k)) Q:=⟨v,Zhr b (by exact aO (by assumption) (Al rfl)) e,q⟩
theorem Zif{l:List AV}{k:Int}{v:AV}{Q:AV->Prop}(b:0<=k)(h₁:k<=1000000)(e:l[k.toNat]?=some v)(q:Q v):OB (Cy H (.lst l) (.int k)) Q:=⟨v,Zhr b (by exact aO (by assumption) (Al rfl)) e,q⟩
theorem Zig{l:List AV}{Q:AV->Prop}(h:l.length<=1000000)(q:Q (.tup l)):OB (BK (H++[.list l]) .tuple [.ref H.length]) Q:=by
 refine⟨_,?_,q⟩;show Hq (H++[.list l]) (.ref H.length)=_;unfold Hq;exact Ac (Zhw _ _) (if_pos (al h (Al rfl)))
theorem Zih{l:List AV}{Q:AV->Prop}(h:l.length<=1000000)(q:Q (.tup l)):OB (BK H .tuple [.lst l]) Q:=by
 refine⟨_,?_,q⟩;show (if l.length<=1048576 then some (AV.tup l) else none)=_;exact Ac (if_pos (by exact al (by assumption) (Al rfl))) rfl
theorem GW{a b:List AV}{Q:AV->Prop}(h:a.length+b.length<=1000000)(q:Q (.tup (a++b))):OB (BN H .add (.tup a) (.tup b)) Q:=by
 refine⟨_,?_,q⟩;show (if a.length+b.length<=1048576 then some (AV.tup (a++b)) else none)=_;exact Ac (if_pos (by exact al (by assumption) (Al rfl))) rfl
theorem GX{l:List AV}{v:AV}{Q:AH->Prop}(h:l.length<=1000000)(q:Q (H++[.list (l++[v])])):OB (BO (H++[.list l]) (.ref H.length) (CV [v])) Q:=⟨_,Zhy (by exact al (by assumption) (Al rfl)),q⟩
theorem H7{l:List AV}{n:Nat}(h:∀ v∈l,flat n v=true):flat (n+1) (.tup l)=true:=aI.mpr h
theorem Zij{l:List AV}{n:Nat}(h:∀ v∈l,flat n v=true):flat (n+1) (.lst l)=true:=aI.mpr h
theorem GY{v:AV}{Q:AV->AH->Prop}{X:AH}(h:flat 12 v=true)(q:Q v H):(H++X).take H.length=H/\OB (AR H.length (H++X) 12 v) fun V=>Q V H:=⟨Zht H X,_,KQ _ _ h,q⟩
theorem CM{v:AV}{Q:AV->AH->Prop}(h:flat 12 v=true)(q:Q v H):H.take H.length=H/\OB (AR H.length H 12 v) fun V=>Q V H:=⟨Vw H,_,KQ _ _ h,q⟩
theorem Zim{l:List AV}{Q:AV->AH->Prop}(h:∀ v∈l,flat 11 v=true)(q:Q (.lst l) H):(H++[AO.list l]).take H.length=H/\OB (AR H.length (H++[AO.list l]) 12 (.ref H.length)) fun V=>Q V H:=⟨Zht H _,_,Zh2 h,q⟩
theorem Sh{f:AV->Option AV}{a b:AV}{r r':List AV}(h:f a=some b)(A:r.mapM f=some r'):(a::r).mapM f=some (b::r'):=by
 refine Ac dN (Ac h (Ac A ?_));rfl
theorem Zio{f:AV->Option AV}:([]:List AV).mapM f=some []:=rfl
theorem Zip{m n:Nat}{l l':List AV}(h:l.mapM (AR m H n)=some l'):AR m H (n+1) (.tup l)=some (.tup l'):=by
 unfold AR;simp only;refine Ac h ?_;rfl
theorem Ziq{m n:Nat}{i:Int}:AR m H (n+1) (.int i)=some (.int i):=rfl
theorem Zir{a:aW}{Q:Bool->Prop}(h:bx (.str a)=true)(q:Q true):OB (Bl H .eq (.str a) (.str a)) Q:=IS h h (by simpa using q)
theorem Zis{a b:aW}{Q:Bool->Prop}(h:(bx (.str a)&&bx (.str b)&&!decide (a=b))=true)(q:Q false):OB (Bl H .eq (.str a) (.str b)) Q:=by
 simp only[cV,h9,decide_eq_false_iff_not] at h;exact IS h.1.1 h.1.2 (by simpa [h.2] using q)
inductive Cv {α β:Type} (P:α->β->Prop):List α->List β->Prop
 | nil:Cv P [] []
 | cons {a:α} {b:β} {l:List α} {k:List β}:P a b->Cv P l k->Cv P (a::l) (b::k)
theorem Cv.map_eq{c β:Type}{f:c->β}{l:List c}{k:List β}(h:Cv (fun a b=>b=f a) l k):k=l.map f:=by
 induction h with
 | nil=>rfl
 | cons h r i=>refine Ac h (Ac i ?_);rfl
theorem Cv.length{a β:Type}{P:a->β->Prop}{l:List a}{k:List β}(h:Cv P l k):k.length=l.length:=by
 induction h with
 | nil=>rfl
 | cons _ r i=>exact congrArg Nat.succ i
theorem Cv.mem{c β:Type}{P:c->β->Prop}{l:List c}{k:List β}(a:Cv P l k):∀ b∈k,∃ a∈l,P a b:=by
 induction a with
 | nil=>exact fun b h=>nomatch h
 | cons p r i =>
  intro b h
  rcases aU.mp h with rfl|h
  .exact⟨_,aN ..,p⟩
  .exact Ah (i b h) fun a H q=>⟨a,aT _ H,q⟩
theorem Cv.imp{c β:Type}{P Q:c->β->Prop}(h:∀ a b,P a b->Q a b){l:List c}{k:List β}(a:Cv P l k):Cv Q l k:=by
 induction a with
 | nil=>exact .nil
 | cons p r i=>exact .cons (h _ _ p) i
end Mine
namespace Mine
open PySem
section
variable {σ:AW}{H:AH}{N:AW->AH->Prop}{R:AV->AH->Prop}{Q:AV->AH->Prop}
noncomputable def Cw:Nat->AV->Bool
 | 0,_=>false
 | n+1,v=>match v with
  | .none=>true
  | .int _=>true
  | .str x=>bx (.str x)
  | .tup l=>decide (l.length<=1000)&&l.all (Cw n)
  | .lst l=>decide (l.length<=1000)&&l.all (Cw n)
  | _=>false
theorem Qw:∀ {n k:Nat} (v:AV),n<=k->Cw n v=true->Cw k v=true
 | 0,_,_,_,h=>nomatch h
 | n+1,0,_,H,_=>absurd H (j2 _)
 | n+1,k+1,v,H,h=>by
  cases v with
  | tup l =>
   have h:(decide (l.length<=1000)&&l.all (Cw n))=true:=h;obtain⟨a,h⟩:=aL.mp h;show (decide (l.length<=1000)&&l.all (Cw k))=true;exact aL.mpr ⟨a,aI.mpr fun v b=>Qw v (Ir H) (aI.mp h v b)⟩
  | lst l =>
   have h:(decide (l.length<=1000)&&l.all (Cw n))=true:=h;obtain⟨a,h⟩:=aL.mp h;show (decide (l.length<=1000)&&l.all (Cw k))=true;exact aL.mpr ⟨a,aI.mpr fun v b=>Qw v (Ir H) (aI.mp h v b)⟩
  | none=>rfl
  | int _=>rfl
  | str x=>exact h
  | _=>exact nomatch h
theorem Vy:∀ {n:Nat} {v:AV},Cw n v=true->flat n v=true
 | 0,_,h=>nomatch h
 | n+1,v,h=>by
  cases v with
  | tup l =>
   have h:(decide (l.length<=1000)&&l.all (Cw n))=true:=h;obtain⟨a,h⟩:=aL.mp h;exact aI.mpr fun v H=>Vy (aI.mp h v H)
  | lst l =>
   have h:(decide (l.length<=1000)&&l.all (Cw n))=true:=h;obtain⟨a,h⟩:=aL.mp h;exact aI.mpr fun v H=>Vy (aI.mp h v H)
  | none=>rfl
  | int _=>rfl
  | str x=>rfl
  | _=>exact nomatch h
theorem Ig{l:List AV}{n:Nat}(H:l.length<=1000)(h:∀ v∈l,Cw n v=true):Cw (n+1) (.tup l)=true:=aL.mpr ⟨decide_eq_true H,aI.mpr h⟩
theorem Ml{l:List AV}{n:Nat}(H:l.length<=1000)(h:∀ v∈l,Cw n v=true):Cw (n+1) (.lst l)=true:=aL.mpr ⟨decide_eq_true H,aI.mpr h⟩
theorem Zix{l:List AV}{n:Nat}(h:(decide (l.length<=1000)&&l.all (Cw n))=true):l.length<=1000/\∀ v∈l,Cw n v=true:=by
 exact AX (aL.mp h) fun H a=>⟨of_decide_eq_true H,aI.mp a⟩
theorem Ziy{n:Nat}(i:∀ v:AV,Cw n v=true->∃ d,data H n v=some d/\d.canLay0=true/\d.depth<=n):∀ {l:List AV},(∀ v∈l,Cw n v=true)->∃ D,l.mapM (data H n)=some D/\ll D=true/\jB D<=n
 | [],_=>⟨[],rfl,rfl,by simp[jB]⟩
 | v::r,h=>by
  refine Bu (i v (h v (aN ..))) fun d a b c=>Bu (Ziy i (l:=r) fun w e=>h w (aT _ e)) fun D k1 k2 k3=>⟨d::D,by refine Ac dN (Ac a (Ac k1 ?_));rfl,by simp[ll,b,k2],?_⟩;rw[jB];exact Nat.max_le.mpr ⟨c,k3⟩
theorem Sj:∀ (n:Nat) (v:AV),Cw n v=true->∃ d,data H n v=some d/\d.canLay0=true/\d.depth<=n
 | 0,_,h=>nomatch h
 | n+1,v,h=>by
  cases v with
  | tup l =>
   have h:(decide (l.length<=1000)&&l.all (Cw n))=true:=h;obtain⟨f,h⟩:=aL.mp h;refine Bu (Ziy (H:=H) (fun v e=>Sj n v e) (aI.mp h)) fun D a b c=>⟨.tuple D,?_,by rw[mn];exact b,by rw[gQ];exact HJ c⟩;show (l.mapM (data H n)).map e5=_;refine Ac a ?_;rfl
  | lst l =>
   have h:(decide (l.length<=1000)&&l.all (Cw n))=true:=h;obtain⟨f,h⟩:=aL.mp h;refine Bu (Ziy (H:=H) (fun v e=>Sj n v e) (aI.mp h)) fun D a b c=>⟨.list D,?_,by rw[mn];exact b,by rw[gQ];exact HJ c⟩;show (l.mapM (data H n)).map dY=_;refine Ac a ?_;rfl
  | none=>exact⟨.none,rfl,rfl,by simp[gQ]⟩
  | int i=>exact⟨.int i,rfl,rfl,by simp[gQ]⟩
  | str x=>exact⟨.str x,rfl,dm h,by simp[gQ]⟩
  | _=>exact nomatch h
theorem Zi0{a b:AV}(h:Cw 12 b=true)(e:data H 12 a=data H 12 b):D3 H a b=some true:=by
 refine Bu (Sj (H:=H) 12 b h) fun d c f g=>?_
 have s:bx d=true:=by
  unfold bx;refine Ac f ?_;simp;exact al (by assumption) (Al rfl)
 exact (Qu (e.trans c) c s s).trans (congrArg some (SeqAt.eqv_refl d (dm s)))
theorem Zi1{a b:AV}{Q:Bool->Prop}(h:Cw 12 b=true)(e:data H 12 a=data H 12 b)(q:Q true):OB (Bl H .eq a b) Q:=⟨true,Zi0 h e,q⟩
theorem Zi2{a b:AV}{Q:Bool->Prop}(h:Cw 12 b=true)(e:data H 12 a=data H 12 b)(q:Q false):OB (Bl H .ne a b) Q:=⟨false,by unfold Bl;simp only[Zi0 h e];rfl,q⟩
theorem Zi3{k:Nat}{l:List AV}(h:H[k]?=some (.list l)):data H 12 (.ref k)=data H 12 (.lst l):=by
 show (match H[k]? with|some (.list l)=>(l.mapM (data H 11)).map dY|_=>none)=_;refine Ac h ?_;rfl
theorem BZ{m:Nat}{b:As->DS}{d:As}{a:List AV}(l:a.length=m)(h:WS (b d (BL a 0) H) (fun _ aa=>Q .none aa) (fun v aa=>Q v aa)):W (CK.run ⟨m,false,b⟩ d a H) Q:=by
 refine Cg h fun c aa e q=>?_;obtain⟨f,g⟩:=c
 cases f with
 | next =>
  refine⟨_,_,?_,q⟩;unfold CK.run;refine Ac (if_pos l) ?_;simp only[e,Rs.bind_ok,Rs.bindB_ok,Fl.val];rfl
 | ret v =>
  refine⟨_,_,?_,q⟩;unfold CK.run;refine Ac (if_pos l) ?_;simp only[e,Rs.bind_ok,Rs.bindB_ok,Fl.val];rfl
theorem GZ{t:Tg}{a:DE}(h:W (a σ H) fun v aa=>OB (t.bind v σ) fun A=>N A aa):WS (EJ t a σ H) N R :=
 W.bind (h.mono fun v aa h=>by
  refine Ah h fun A e q=>?_;simp only[e];exact⟨_,_,rfl,q⟩)
theorem Qx{d:DE}{t:List BI}(h:W (d σ H) fun x aa=>OB (DB aa x t) fun b=>Q (.bool b) aa):W (Gz d t σ H) Q :=
 W.bind (h.mono fun x aa h=>C4 (by refine Ah h fun c e q=>?_;exact⟨_,by refine Ac e ?_;rfl,q⟩))
theorem Ei{Q:Option Int->AH->Prop}(q:Q none H):W (DC none σ H) Q:=⟨_,_,rfl,q⟩
theorem Dv{d:DE}{Q:Option Int->AH->Prop}(h:W (d σ H) fun x aa=>∃ i,x=.int i/\Q (some i) aa):W (DC (some d) σ H) Q :=
 W.bind (h.mono fun x aa h=>by refine Ah h fun i e q=>?_;subst e;exact⟨_,_,rfl,q⟩)
theorem Zi4{i:Nat}{v:AV}{t:List BI}(e:σ i=some v)(h:OB (DB H v t) fun b=>Q (.bool b) H):W (Gz (Aa i) t σ H) Q:=Qx (Ax e h)
theorem EO{a:DE}{lo i:Option DE}(h:W (a σ H) fun x aa=>W (DC lo σ aa) fun l c=>W (DC i σ c) fun u A=>OB (G0 A x l u) fun v=>Q v A):W (HQ a lo i σ H) Q :=
 W.bind (h.mono fun x aa h=>W.bind (h.mono fun l c h=>W.bind (h.mono fun u A h=>C4 h)))
theorem Zi5{l:List AV}{lo i:Option Int}{Q:AV->Prop}(h:(Ev lo&&Ev i)=true)(a:l.length<=1000000)(q:Q (.tup (cut l lo i))):OB (G0 H (.tup l) lo i) Q:=⟨_,(if_pos h).trans (if_pos (al a (Al rfl))),q⟩
theorem Zi6{l:List AV}{lo i:Option Int}{Q:AV->Prop}(h:(Ev lo&&Ev i)=true)(a:l.length<=1000000)(q:Q (.lst (cut l lo i))):OB (G0 H (.lst l) lo i) Q:=⟨_,(if_pos h).trans (if_pos (al a (Al rfl))),q⟩
theorem Qy{t:Tg}{it:DE}{b:DS}(h:W (it σ H) fun x aa=>∃ k,x=.ref k/\WS (BF t b (fun H=>listOf? H (.ref k)) 20000 0 σ aa) N R):WS (Da t it b σ H) N R :=
 W.bind (h.mono fun x aa h=>by
  refine Ah h fun k e q=>?_;subst e;exact q)
theorem Zi7{H:AH}{j:Nat}{l:List AV}(h:H[j]?=some (.list l))(X:AH):listOf? (H++X) (.ref j)=some l:=by
 have a:=(Bm h);show (match (H++X)[j]? with|some (.list l)=>some l|_=>none)=_;exact Ac (aM a) (Ac h rfl)
inductive BA (H:AH) (l:List AV):AV->Prop
 | lst:BA H l (.lst l)
 | ref {i:Nat}:H[i]?=some (.list l)->BA H l (.ref i)
theorem BA.more{H:AH}{l:List AV}{r:AV}(h:BA H l r)(X:AH):BA (H++X) l r:=by
 cases h with
 | lst=>exact .lst
 | ref h=>exact .ref (by refine Ac (aM (Bm h)) ?_;exact h)
theorem BA.of{H:AH}{l:List AV}{r:AV}(h:BA H l r):listOf? H r=some l:=by
 cases h with
 | lst=>rfl
 | ref h=>exact bS H▸Zi7 h []
theorem Cv.all{c β:Type}{P:c->β->Prop}{T:β->Prop}(h:∀ a b,P a b->T b){l:List c}{k:List β}(a:Cv P l k):∀ b∈k,T b:=fun b H=>by
 exact Ah (a.mem b H) fun x _ p=>h x b p
theorem Zi8{X:Type}{f:X->AV}{p:X->Bool}{E:DE}{ifs:DT}{k:Nat}{P:X->AV->Prop}{src:AH->Option (List AV)}{L:List AV}(t:∀ acc,src (H++[.list acc])=some L){l:List X} :
  ∀ {dn acc:List AV} {m j:Nat},dn.length=j->L=dn++l.map f->(∀ v∈l,∀ X,W (ifs (AM σ k (f v)) (H++X)) fun c h=>h=H++X/\c=p v)->(∀ v∈l,p v=true->∀ X,W (E (AM σ k (f v)) (H++X)) fun x h=>h=H++X/\P v x)->l.length<m->acc.length+l.length<=1048576 ->
  ∃ xs,Cv P (l.filter p) xs/\E5 E ifs k σ H.length src m j (H++[.list acc])=.ok () (H++[.list (acc++xs)]):=by
 induction l with
 | nil =>
  intro dn acc m j g e _ _ a _
  cases m with
  | zero=>exact absurd a (cO _)
  | succ m =>
   rw[lf,bS] at e;subst e;subst g;exact⟨[],.nil,(GM (t acc) (dO (bB _))).trans ((if_pos rfl).trans (by rw[bS]))⟩
 | cons v r A =>
  intro dn acc m j g e s q a i
  cases m with
  | zero=>exact absurd a (cO _)
  | succ m =>
   subst g;have nx:=fun acc=>A (dn:=dn++[f v]) (acc:=acc) (m:=m) bH (e.trans (cu dn [f v] _).symm) (fun w o=>s w (aT _ o)) (fun w o=>q w (aT _ o)) (jy a);refine Ac (Zay (t acc) ((congrArg (·[dn.length]?) e).trans Zau)) (B2 (s v (aN ..) [.list acc]) fun c h B F I=>?_);subst F;refine Ac B (Ac I ?_)
   cases n:p v with
   | false =>
    exact Ah (nx acc (Nat.le_of_succ_le i)) fun xs d b=>⟨xs,Ac (i8 (fN.mp n)) d,b⟩
   | true =>
    refine B2 (q v (aN ..) n [.list acc]) fun x h y z u=>?_;subst z;refine Ah (nx (acc++[x]) (by rw[bH];exact om7 i)) fun xs d b=>⟨x::xs,Ac (i9 n) (.cons u d),?_⟩;show (E (AM σ k (f v)) (H++[.list acc])).bindB _=_;refine Ac y ?_;show (match BO (H++[.list acc]) (.ref H.length) (Ff x) with|some _=>_|none=>_)=_;exact Ac (Vx (l':=acc++[x]) (if_pos (al (aQ _ _) i))) (b.trans (by rw[cu];rfl))
theorem Zi9{X:Type}{f:X->AV}{p:X->Bool}{elt it:DE}{ifs:DT}{k:Nat}{P:X->AV->Prop}(h:W (it σ H) fun x aa=>∃ (l:List X) (src:AH->Option (List AV)) (m:Nat),(Ca elt ifs k σ x aa=E5 elt ifs k σ aa.length src m 0 (aa++[.list []])/\l.length<m/\∀ acc,src (aa++[AO.list acc])=some (l.map f))/\l.length<=1000000/\(∀ v∈l,∀ X,W (ifs (AM σ k (f v)) (aa++X)) fun c a=>a=aa++X/\c=p v)/\(∀ v∈l,p v=true->∀ X,W (elt (AM σ k (f v)) (aa++X)) fun x a=>a=aa++X/\flat 10 x=true/\P v x)/\∀ xs,Cv P (l.filter p) xs->Q (.lst xs) aa) :
  W (Cl elt ifs k it σ H) Q :=
 W.bind (h.mono fun x aa h=>by
  refine GI h fun l src m B g i d q=>GH B fun e j s=>Ah (Zi8 (dn:=[]) (acc:=[]) s rfl rfl i d j (al (bW (ey _)) (al g (Al rfl)))) fun xs b E=>⟨_,_,?_,q xs (b.imp fun _ _ p=>p.2)⟩;unfold Zas;refine Ac e (Ac E ((if_pos (Zht aa _)).trans ?_));exact Ac (Zh2 (n:=11) (b.all fun _ _ p=>Mj _ (Al rfl) p.1)) rfl)
theorem Zja{a:Type}{l:List a}:l.filter (fun _=>true)=l:=List.filter_eq_self.mpr fun _ _=>rfl
theorem KS{X:Type}{f:X->AV}{elt it:DE}{k:Nat}{P:X->AV->Prop}(h:W (it σ H) fun x aa=>∃ l:List X,iter? x=some (l.map f)/\l.length<=1000000/\(∀ v∈l,∀ b,W (elt (AM σ k (f v)) b) fun x a=>a=b/\flat 10 x=true/\P v x)/\∀ xs,Cv P l xs->Q (.lst xs) aa) :
  W (Cl elt Ch k it σ H) Q :=
 Zi9 (p:=fun _=>true) (h.mono fun x aa h=>F4 h fun l e g d q=>⟨l,_,_,⟨Zh3 e,eQ (bW (aK ..).symm),fun _=>rfl⟩,g,fun _ _ _=>⟨_,_,rfl,rfl,rfl⟩,fun v i _ X=>d v i _,fun xs c=>q xs (BE (Zja (l:=l)) c)⟩)
theorem Zjc{elt it:DE}{k:Nat}{P:AV->AV->Prop}(h:W (it σ H) fun x aa=>∃ l,iter? x=some l/\l.length<=1000000/\(∀ v∈l,∀ b,W (elt (AM σ k v) b) fun x a=>a=b/\flat 10 x=true/\P v x)/\∀ xs,Cv P l xs->Q (.lst xs) aa) :
  W (Cl elt Ch k it σ H) Q :=
 KS (f:=id) (h.mono fun x aa h=>F4 h fun l e d c q=>⟨l,e.trans (congrArg some (lL l).symm),d,c,q⟩)
theorem Zjd{elt it:DE}{k:Nat}{P:AV->AV->Prop}(h:W (it σ H) fun x aa=>∃ l,(x=.tup l\/BA aa l x)/\l.length<=10000/\(∀ v∈l,∀ X,W (elt (AM σ k v) (aa++X)) fun x b=>b=aa++X/\flat 10 x=true/\P v x)/\∀ xs,Cv P l xs->Q (.lst xs) aa) :
  W (Cl elt Ch k it σ H) Q :=
 Zi9 (f:=id) (p:=fun _=>true) (h.mono fun x aa h=>by
  refine F4 h fun l r c e q=>?_
  have key:∃ S m,Ca elt Ch k σ x aa=E5 elt Ch k σ aa.length S m 0 (aa++[.list []])/\l.length<m/\∀ a,S (aa++[AO.list a])=some (l.map id):=by
   refine Ac (lL l) ?_
   rcases r with rfl|r
   .exact⟨fun _=>some l,l.length+1,rfl,cp _,fun _=>rfl⟩
   cases r with
   | lst=>exact⟨fun _=>some l,l.length+1,rfl,cp _,fun _=>rfl⟩
   | @ref j g=>exact⟨fun H=>listOf? H (.ref j),20000,rfl,bP c (Al rfl),fun a=>Zi7 g _⟩
  exact Ez key fun S m s=>⟨l,S,m,s,al c (Al rfl),fun _ _ _=>⟨_,_,rfl,rfl,rfl⟩,fun v i _=>e v i,fun xs d=>q xs (BE (Zja (l:=l)) d)⟩)
theorem Zje{X:Type}{f g:X->AV}{p:X->Bool}{elt it:DE}{ifs:DT}{k:Nat}(h:W (it σ H) fun x aa=>∃ l:List X,iter? x=some (l.map f)/\l.length<=1000000/\(∀ x∈l,∀ X,W (ifs (AM σ k (f x)) (aa++X)) fun c a=>a=aa++X/\c=p x)/\(∀ x∈l,∀ X,W (elt (AM σ k (f x)) (aa++X)) fun v a=>a=aa++X/\flat 10 v=true/\v=g x)/\Q (.lst ((l.filter p).map g)) aa) :
  W (Cl elt ifs k it σ H) Q :=
 Zi9 (h.mono fun x aa h=>PL h fun l e j i d q=>⟨l,_,_,⟨Zh3 e,eQ (bW (aK ..).symm),fun _=>rfl⟩,j,i,fun v m _=>d v m,fun s b=>Ac b.map_eq q⟩)
theorem Zjf{elt it:DE}{ifs:DT}{k:Nat}(h:W (it σ H) fun x aa=>∃ r l,x=.ref r/\aa[r]?=some (.list l)/\l.length<=10000/\(∀ v∈l,∀ X,W (ifs (AM σ k v) (aa++X)) fun c a=>a=aa++X/\c=false)/\Q (.lst []) aa):W (Cl elt ifs k it σ H) Q :=
 Zi9 (f:=id) (p:=fun _=>false) (P:=fun _ _=>True) (h.mono fun x aa h=>by
  refine CZ h fun r l e g d i q=>?_;subst e;refine⟨l,fun H=>listOf? H (.ref r),20000,⟨rfl,bP d (Al rfl),fun A=>Ac (lL l) (Zi7 g _)⟩,al d (Al rfl),i,fun _ _ h=>nb h,fun s b=>?_⟩;rw[List.filter_eq_nil_iff.mpr fun _ _=>kI] at b
  cases b
  exact q)
theorem Qz{l:List AV}{v:AV}{j:Int}{Q:AH->Prop}(h:l.length<=1000000)(a:0<=j)(b:j<=l.length)(q:Q (H++[.list (l.take j.toNat++v::l.drop j.toNat)])):OB (BO (H++[.list l]) (.ref H.length) (PS [.int j,v])) Q:=by
 refine⟨_,Vx ?_,q⟩;exact if_pos ⟨al h (Al rfl),a,b⟩
theorem Vz{l:List AV}{Q:AV->Prop}(h:l.length<=1000000)(q:Q (.int l.length)):OB (BK H .len [.tup l]) Q:=⟨_,by show (if _ then _ else _)=_;exact Ac (if_pos (by exact al (by assumption) (Al rfl))) rfl,q⟩
theorem Zjh{l:List AV}{Q:AV->Prop}(h:l.length<=1000000)(q:Q (.int l.length)):OB (BK H .len [.lst l]) Q:=⟨_,by show (if _ then _ else _)=_;exact Ac (if_pos (by exact al (by assumption) (Al rfl))) rfl,q⟩
theorem Zji{l:List AV}{Q:AV->Prop}(h:l.length<=1000000)(q:Q (.int l.length)):OB (BK (H++[.list l]) .len [.ref H.length]) Q:=by
 refine⟨_,?_,q⟩;show (listOf? (H++[.list l]) (.ref H.length)).bind _=_;exact Ac (Zhw _ _) (if_pos (al h (Al rfl)))
theorem Zjj{H:AH}:∀ (l:List AV),(∀ v∈l,v=.bool true)->allTrue? l=some true
 | [],_=>rfl
 | v::r,h=>by
  refine Ac (h v (aN ..)) ?_;show (allTrue? r).map _=_;refine Ac (Zjj (H:=H) r fun w a=>h w (aT _ a)) ?_;rfl
theorem Zjk{l:List AV}{Q:AV->Prop}(h:∀ v∈l,v=.bool true)(q:Q (.bool true)):OB (BK H .all [.lst l]) Q:=by
 refine⟨_,?_,q⟩;show gr AV.bool (allTrue? l)=_;refine Ac (Zjj (H:=H) l h) ?_;rfl
theorem Cv.pick{d:Type}{P:d->AV->Prop}{X:Type}{f:X->AV}{R:X->Prop}{l:List d}{k:List AV}(a:Cv P l k)(h:∀ a b,P a b->∃ x,R x/\b=f x):∃ xs:List X,k=xs.map f/\∀ x∈xs,R x:=by
 induction a with
 | nil=>exact⟨[],rfl,fun _ h=>(nomatch h)⟩
 | cons p r i =>
  refine Ah (h _ _ p) fun x g e=>Ah i fun xs E H=>⟨x::xs,by refine Ac e (Ac E ?_);rfl,?_⟩;intro y c
  rcases aU.mp c with rfl|c
  .exact g
  .exact H y c
theorem V0{X:Type}{f:X->AV}{l:List X}{Q:AV->Prop}(h:l.length<=1000000)(q:Q (.int l.length)):OB (BK H .len [.lst (l.map f)]) Q:=Zjh (by simpa using h) (by simpa using q)
theorem Zjm{X:Type}{f:X->AV}{l:List X}{Q:AV->Prop}(h:l.length<=1000000)(q:Q (.int l.length)):OB (BK (H++[.list (l.map f)]) .len [.ref H.length]) Q:=Zji (by simpa using h) (by simpa using q)
theorem EP{a:DE}(h:W (a σ H) fun x aa=>OB (E9 aa x) fun l=>Q (.ref aa.length) (aa++[.list l])):W (D4 a σ H) Q :=
 W.bind (h.mono fun x aa h=>by
  refine Ah h fun l e q=>?_;exact⟨_,_,by exact Ac e rfl,q⟩)
def Z{a:Type}(r:Rs a)(c:Nat)(H:AH):Prop:=r=.err (.exc c) H
variable {c:Nat}{H':AH}
theorem Z.bind{a b:Type}{r:Rs a}{f:a->AH->Rs b}(h:Z r c H'):Z (r.bind f) c H':=by
 unfold Z at h ⊢;refine Ac h ?_;rfl
theorem Z.after{b d:Type}{r:Rs b}{f:b->AH->Rs d}(h:W r fun a aa=>Z (f a aa) c H'):Z (r.bind f) c H':=by
 refine Cg h fun a aa e z=>?_;unfold Z at z ⊢;exact Ac e z
theorem De{a b:DS}(h:Z (a σ H) c H'):Z (Ai a b σ H) c H':=Z.bind h
theorem IT{a b:DS}(h:WS (a σ H) (fun A aa=>Z (b A aa) c H') (fun _ _=>False)):Z (Ai a b σ H) c H' :=
 Z.after (W.mono h fun p aa h=>by
  obtain⟨f,A⟩:=p
  cases f with
  | next=>exact h
  | ret v=>exact h.elim)
theorem IU{t:DT}{a b:DS}(h:W (t σ H) fun x aa=>(x=true->Z (a σ aa) c H')/\(x=false->Z (b σ aa) c H')):Z (Bo t a b σ H) c H' :=
 Z.after (h.mono fun x aa h=>by
  cases x with
  | true=>exact h.1 rfl
  | false=>exact h.2 rfl)
theorem Sk{a:DE}(h:W (a σ H) fun _ aa=>aa=H'):Z (Db c a σ H) c H':=Z.after (h.mono fun _ aa e=>by refine Ac e ?_;rfl)
theorem IV{a:DE}(h:Z (a σ H) c H'):Z (Bj a σ H) c H':=Z.bind h
theorem Zjo{a:As}{k:Nat}{l:List DE}(h:W (AL l σ H) fun vs aa=>Z (a k vs aa) c H'):Z (Cz a (Am (.fn k)) l σ H) c H' :=
 Z.after ⟨_,_,rfl,Z.after (h.mono fun vs aa h=>h)⟩
theorem Ew{m:Nat}{f:Bool}{b:As->DS}{d:As}{a:List AV}(l:a.length=m)(h:Z (b d (BL a 0) H) c H'):Z (CK.run ⟨m,f,b⟩ d a H) c H':=by
 unfold CK.run;exact Ac (if_pos l) (Z.bind h)
theorem H8{t:Nat->Option CK}{n k:Nat}{f:CK}{a:List AV}(h:t k=some f)(q:Z (f.run (AF t n) a H) c H'):Z (AF t (n+1) k a H) c H':=by
 have:AF t (n+1) k a H=f.run (AF t n) a H:=by
  show (match t k with|some f=>f.run (AF t n) a H|none=>.bad)=_;exact Ac h rfl
 exact Ac this q
theorem Q0{a:DE}{c:List Nat}{i:Nat}{d:DS}(h:W (a σ H) fun _ aa=>N σ aa):WS (EA a c i d σ H) N R:=by
 exact Cg h fun v aa e q=>⟨_,_,by unfold EA;exact Ac e rfl,q⟩
theorem IW{a:DE}{C:List Nat}{i:Nat}{d:DS}{aa:AH}(h:Z (a σ H) c aa)(b:c∈C)(g:WS (d (AM σ i (.exc c)) aa) (fun _ A=>N Go A) R):WS (EA a C i d σ H) N R:=by
 refine Cg g fun Q A e q=>?_;obtain⟨f,z⟩:=Q;unfold Z at h;refine⟨(f,Go),A,?_,?_⟩
 .unfold EA;refine Ac h ?_;simp only[CC,if_pos b,e,Rs.bindB_ok]
 .cases f with
  | next=>exact q
  | ret v=>exact q
theorem Q1{f:Nat->Option Bool}{d:DE}(h:W (d σ H) fun x aa=>OB (I0 f aa x) fun v=>Q v aa):W (CU f d σ H) Q:=W.bind (h.mono fun x aa h=>C4 h)
theorem Zjp{a b:List AV}{Q:AV->Prop}(h:a.length+b.length<=1000000)(q:Q (.lst (a++b))):OB (BN H .add (.lst a) (.lst b)) Q:=by
 refine⟨_,?_,q⟩;show (if a.length+b.length<=1048576 then some (AV.lst (a++b)) else none)=_;exact Ac (if_pos (by exact al (by assumption) (Al rfl))) rfl
theorem IX{l:List AV}{j:Int}{Q:AV->Prop}(h:l.length*j.toNat<=1000000/\-1000000<=j/\j<=1000000)(q:Q (.lst (aS j.toNat l).flatten)):OB (BN H .rep (.lst l) (.int j)) Q:=by
 refine⟨_,?_,q⟩;show (if l.length*j.toNat<=1048576/\-1048576<=j/\j<=1048576 then some (AV.lst (aS j.toNat l).flatten) else none)=_;exact Ac (if_pos ⟨by exact Z05 h,by exact Z08 h,by exact Z07 h⟩) rfl
theorem Zjq{v:AV}{c:Bool}{Q:AV->Prop}(q:Q (.lst (if c=true then [v] else []))):OB (BN H .rep (.lst [v]) (.int (if c=true then 1 else 0))) Q:=by
 cases c with
 | true=>exact⟨_,rfl,q⟩
 | false=>exact⟨_,rfl,q⟩
theorem Ha(q:Q (.ref H.length) (H++[.dict []])):W (Gi σ H) Q:=⟨_,_,rfl,q⟩
theorem Zjr{t:DT}{b:DS}{I:Nat->AW->AH->Prop}(s:∀ k σ H,I k σ H->W (t σ H) fun c aa=>(c=true->∃ j,k=j+1/\WS (b σ aa) (I j) R)/\(c=false->N σ aa)) :
  ∀ (f k:Nat) (σ:AW) (H:AH),k<f->I k σ H->WS (UW t b f σ H) N R
 | 0,_,_,_,h,_=>absurd h (cO _)
 | f+1,k,σ,H,h,i=>by
  refine W.bindB ((s k σ H i).mono fun c aa a=>?_)
  cases c with
  | true =>
   refine Ah (a.1 rfl) fun j e hb=>?_;subst e;refine W.bindB (W.mono hb fun p A d=>?_);obtain⟨fl,B⟩:=p
   cases fl with
   | next=>exact Zjr s f j B A (KJ h) d
   | ret w=>exact⟨_,_,rfl,d⟩
  | false=>exact⟨_,_,rfl,a.2 rfl⟩
theorem Zjs{t:DT}{b:DS}(I:Nat->AW->AH->Prop)(k:Nat)(h:k<20000)(B:I k σ H)(s:∀ k σ H,I k σ H->W (t σ H) fun c aa=>(c=true->∃ j,k=j+1/\WS (b σ aa) (I j) R)/\(c=false->N σ aa)):WS (E8 t b σ H) N R :=
 Zjr s _ k σ H h B
theorem Hb{k d:DE}(h:W (k σ H) fun x aa=>W (d σ aa) fun y a=>OB (hasI a x y) fun v=>Q v a):W (Gk k d σ H) Q :=
 W.bind (h.mono fun x aa h=>W.bind (h.mono fun y a h=>C4 h))
theorem Q2{k d:DE}(h:W (d σ H) fun x aa=>W (k σ aa) fun y a=>OB (getI a x y) fun v=>Q v a):W (Hp d k σ H) Q :=
 W.bind (h.mono fun x aa h=>W.bind (h.mono fun y a h=>C4 h))
theorem IY{o k a:DE}(h:W (a σ H) fun v aa=>W (o σ aa) fun x A=>W (k σ A) fun p n=>OB (putI n x p v) fun b=>N σ b):WS (Gp o k a σ H) N R :=
 W.bind (h.mono fun v aa h=>W.bind (h.mono fun v aa h=>W.bind (h.mono fun v aa h=>by
  refine Ah h fun b e q=>?_;exact⟨_,_,by exact Ac e rfl,q⟩)))
theorem Zjt{l:List (Int×AV)}{k:Int}{Q:AV->Prop}(q:Q (.bool (AY l k).isSome)):OB (hasI (H++[.dict l]) (.int k) (.ref H.length)) Q :=
 ⟨_,by unfold hasI dictI?;simp,q⟩
theorem Zju{l:List (Int×AV)}{k:Int}{v:AV}{Q:AH->Prop}(h:l.length<=1000000)(q:Q (H++[.dict (Cp l k v)])):OB (putI (H++[.dict l]) (.ref H.length) (.int k) v) Q :=
 ⟨_,by unfold putI;simp[h],q⟩
theorem Zjv{j:Nat}{l:List (Int×AV)}{k:Int}{Q:AV->Prop}(h:H[j]?=some (.dict l))(q:Q (.bool (AY l k).isSome)):OB (hasI H (.int k) (.ref j)) Q :=
 ⟨_,by unfold hasI dictI?;simp[h],q⟩
theorem Zjw{j:Nat}{l:List (Int×AV)}{k:Int}{v:AV}{Q:AV->Prop}(h:H[j]?=some (.dict l))(e:AY l k=some v)(q:Q v):OB (getI H (.ref j) (.int k)) Q :=
 ⟨_,by unfold getI dictI?;simp[h,e],q⟩
theorem IZ(q:Q (.ref H.length) (H++[.dictS []])):W (Gj σ H) Q:=⟨_,_,rfl,q⟩
theorem Ja{k d:DE}(h:W (k σ H) fun x aa=>W (d σ aa) fun y a=>OB (hasT a x y) fun v=>Q v a):W (Gq k d σ H) Q :=
 W.bind (h.mono fun x aa h=>W.bind (h.mono fun y a h=>C4 h))
theorem Jb{k d:DE}(h:W (d σ H) fun x aa=>W (k σ aa) fun y a=>OB (getT a x y) fun v=>Q v a):W (EB d k σ H) Q :=
 W.bind (h.mono fun x aa h=>W.bind (h.mono fun y a h=>C4 h))
theorem FJ{d:DE}(h:W (d σ H) fun x aa=>OB (lenT aa x) fun v=>Q v aa):W (EC d σ H) Q:=W.bind (h.mono fun x aa h=>C4 h)
theorem Jc{o k a:DE}(h:W (a σ H) fun v aa=>W (o σ aa) fun x A=>W (k σ A) fun p n=>OB (putT n x p v) fun b=>N σ b):WS (Gr o k a σ H) N R :=
 W.bind (h.mono fun v aa h=>W.bind (h.mono fun v aa h=>W.bind (h.mono fun v aa h=>by
  refine Ah h fun b e q=>?_;exact⟨_,_,by exact Ac e rfl,q⟩)))
theorem Zjx:∀ xs:List Int,ints? (xs.map .int)=some xs
 | []=>rfl
 | x::xs=>by
  show (ints? (xs.map .int)).map (x::·)=_;refine Ac (Zjx xs) ?_;rfl
theorem Zjy(k:Int×List Int):I2 (CO k)=some k:=by
 show (ints? (k.2.map .int)).map _=_;rw[Zjx];rfl
theorem Zjz{l:List ((Int×List Int)×AV)}{k:Int×List Int}{Q:AV->Prop}(q:Q (.bool (AY l k).isSome)):OB (hasT (H++[.dictS l]) (CO k) (.ref H.length)) Q :=
 ⟨_,by unfold hasT dictS?;rw[Zjy];simp,q⟩
theorem Zj0{l:List ((Int×List Int)×AV)}{k:Int×List Int}{v:AV}{Q:AV->Prop}(e:AY l k=some v)(q:Q v):OB (getT (H++[.dictS l]) (.ref H.length) (CO k)) Q :=
 ⟨_,by unfold getT dictS?;rw[Zjy];simp[e],q⟩
theorem Zj1{l:List ((Int×List Int)×AV)}{Q:AV->Prop}(h:l.length<=1000000)(q:Q (.int l.length)):OB (lenT (H++[.dictS l]) (.ref H.length)) Q :=
 ⟨_,by unfold lenT dictS?;simp;exact al (by assumption) (Al rfl),q⟩
theorem Zj2{l:List ((Int×List Int)×AV)}{k:Int×List Int}{v:AV}{Q:AH->Prop}(h:l.length<=1000000)(q:Q (H++[.dictS (Cp l k v)])):OB (putT (H++[.dictS l]) (.ref H.length) (CO k) v) Q :=
 ⟨_,by unfold putT;rw[Zjy];simp[h],q⟩
theorem Fv{m:Nat}{b:As->DS}{c:As}{a:List AV}(l:a.length=m)(h:∀ R:AV->AH->Prop,(∀ v aa,(aa.take H.length=H/\OB (AR H.length aa 12 v) fun V=>Q V H)->R v aa)->WS (b c (BL a 0) H) (fun _ _=>False) R) :
  W (CK.run ⟨m,true,b⟩ c a H) Q :=
 B1 l (W.mono (h _ fun _ _ h=>h) fun p H h=>by
  obtain⟨f,d⟩:=p
  cases f with
  | next=>exact h.elim
  | ret v=>exact h)
theorem FK{b:As->DS}{c:As}{a:AV}(h:∀ (σ:AW) (R:AV->AH->Prop),σ 0=some a->(∀ v aa,(aa.take H.length=H/\OB (AR H.length aa 12 v) fun V=>Q V H)->R v aa)->WS (b c σ H) (fun _ _=>False) R) :
  W (CK.run ⟨1,true,b⟩ c [a] H) Q:=Fv rfl fun R=>h _ R rfl
theorem EQ{b:As->DS}{c:As}{a A:AV}(h:∀ (σ:AW) (R:AV->AH->Prop),σ 0=some a->σ 1=some A->(∀ v aa,(aa.take H.length=H/\OB (AR H.length aa 12 v) fun V=>Q V H)->R v aa)->WS (b c σ H) (fun _ _=>False) R) :
  W (CK.run ⟨2,true,b⟩ c [a,A] H) Q:=Fv rfl fun R=>h _ R rfl rfl
theorem ES{b:As->DS}{d:As}{a A c:AV}(h:∀ (σ:AW) (R:AV->AH->Prop),σ 0=some a->σ 1=some A->σ 2=some c->(∀ v aa,(aa.take H.length=H/\OB (AR H.length aa 12 v) fun V=>Q V H)->R v aa)->WS (b d σ H) (fun _ _=>False) R) :
  W (CK.run ⟨3,true,b⟩ d [a,A,c] H) Q:=Fv rfl fun R=>h _ R rfl rfl rfl
theorem Q3{b:As->DS}{e:As}{a A c d:AV}(h:∀ (σ:AW) (R:AV->AH->Prop),σ 0=some a->σ 1=some A->σ 2=some c->σ 3=some d->(∀ v aa,(aa.take H.length=H/\OB (AR H.length aa 12 v) fun V=>Q V H)->R v aa)->WS (b e σ H) (fun _ _=>False) R) :
  W (CK.run ⟨4,true,b⟩ e [a,A,c,d] H) Q:=Fv rfl fun R=>h _ R rfl rfl rfl rfl
theorem Q4{a:Nat}{nm:aW}{o:DE}(h:W (o σ H) fun x aa=>OB (CE a aa nm x) fun v=>Q v aa):W (BM a nm o σ H) Q:=W.bind (h.mono fun x aa h=>C4 h)
theorem Ea{a i:Nat}{nm:aW}{v:AV}(e:σ i=some v)(h:OB (CE a H nm v) fun u=>Q u H):W (BM a nm (Aa i) σ H) Q:=Q4 (Ax e h)
theorem CJ{b:Nat}{nm:aW}{o a:DE}(h:W (a σ H) fun v aa=>W (o σ aa) fun x A=>OB (putA b A nm x v) fun n=>N σ n):WS (CF b nm o a σ H) N R :=
 W.bind (h.mono fun v aa h=>W.bind (h.mono fun x A h=>by
  refine Ah h fun n e q=>?_;exact⟨_,_,by exact Ac e rfl,q⟩))
theorem V1{a j:Nat}{nm:aW}{l:List (aW×AV)}{v:AV}{Q:AV->Prop}(h:H[j]?=some (.attrs l))(e:atName l nm=some v)(q:Q v):OB (CE a H nm (.inst a j)) Q :=
 ⟨v,by unfold CE;simp[h,e],q⟩
theorem V2{a j:Nat}{nm:aW}{l:List (aW×AV)}{v:AV}{Q:AH->Prop}(h:H[j]?=some (.attrs l))(b:l.length<=100000)(q:Q (H.set j (.attrs (D1 l nm v)))):OB (putA a H nm (.inst a j) v) Q :=
 ⟨_,by unfold putA;simp[h,b],q⟩
theorem Zj6{b:As}{a k:Nat}{nm:aW}{o:DE}{d:List DE}(h:W (o σ H) fun x aa=>∃ j l,x=.inst a j/\aa[j]?=some (.attrs l)/\l.lookup nm=none/\W (AL d σ aa) fun vs A=>W (b k (.inst a j::vs) A) Q):W (BD b a nm k o d σ H) Q :=
 W.bind (h.mono fun x aa h=>BJ h fun j l e c n g=>by
  subst e;exact Ac (Zf7 c n) (W.bind g))
theorem Zj7{b:As}{a k:Nat}{nm:aW}{o:DE}{d:List DE}(h:W (o σ H) fun x aa=>∃ j l,x=.inst a j/\aa[j]?=some (.attrs l)/\l.lookup nm=none/\W (AL d σ aa) fun vs A=>Z (b k (.inst a j::vs) A) c H'):Z (BD b a nm k o d σ H) c H' :=
 Z.after (h.mono fun x aa h=>BJ h fun j l e f n g=>by
  subst e;exact Ac (Zf7 f n) (Z.after g))
theorem KT{b:As}{a k i:Nat}{nm:aW}{v:AV}{d:List DE}(e:σ i=some v)(h:∃ j l,v=.inst a j/\H[j]?=some (.attrs l)/\l.lookup nm=none/\W (AL d σ H) fun vs A=>W (b k (.inst a j::vs) A) Q):W (BD b a nm k (Aa i) d σ H) Q:=Zj6 (Ax e h)
theorem Q5{b:As}{a k:Nat}{d:List DE}(h:W (AL d σ H) fun vs aa=>W (b k (.inst a aa.length::vs) (aa++[.attrs []])) fun r A=>r=.none/\Q (.inst a aa.length) A):W (Ft b a k d σ H) Q :=
 W.bind (h.mono fun vs aa h=>W.bind (h.mono fun r A h=>by
  refine AX h fun e q=>?_;subst e;exact⟨_,_,rfl,q⟩))
def ZX{a:Type}(r:Rs a)(P:AV->AH->Prop):Prop:=∃ x H,r=.err x H/\P x H
variable {P:AV->AH->Prop}
theorem ZX.bind{a b:Type}{r:Rs a}{f:a->AH->Rs b}(h:ZX r P):ZX (r.bind f) P:=by
 exact Cg h fun x H e p=>⟨x,H,by refine Ac e ?_;rfl,p⟩
theorem ZX.after{b c:Type}{r:Rs b}{f:b->AH->Rs c}(h:W r fun a aa=>ZX (f a aa) P):ZX (r.bind f) P:=by
 exact Cg h fun a aa e z=>Ac e z
theorem Zj9{a b:DS}(h:ZX (a σ H) P):ZX (Ai a b σ H) P:=ZX.bind h
theorem V3{t:DT}{a b:DS}(h:W (t σ H) fun x aa=>(x=true->ZX (a σ aa) P)/\(x=false->ZX (b σ aa) P)):ZX (Bo t a b σ H) P :=
 ZX.after (h.mono fun x aa h=>by
  cases x with
  | true=>exact h.1 rfl
  | false=>exact h.2 rfl)
theorem Zka{a:DE}(h:W (a σ H) fun x aa=>∃ i d,x=.ref i/\H.length<=i/\aa[i]?=some (.exo c d true)/\P (.ref i) (aa.set i (.exo c d false))):ZX (Se c a σ H) P :=
 ZX.after (h.mono fun x aa h=>by
  refine BJ h fun i d E f b p=>?_;subst E
  have e:Vt H.length c aa (.ref i)=some (.ref i,aa.set i (.exo c d false)):=by
   unfold Vt;simp only[if_pos f,b,if_true]
  refine Ac e ?_;exact⟨_,_,rfl,p⟩)
theorem Q6{m:Nat}{f:Bool}{b:As->DS}{c:As}{a:List AV}(l:a.length=m)(h:ZX (b c (BL a 0) H) P):ZX (CK.run ⟨m,f,b⟩ c a H) P:=by
 unfold CK.run;exact Ac (if_pos l) (ZX.bind h)
theorem Q7{t:Nat->Option CK}{n k:Nat}{f:CK}{a:List AV}(h:t k=some f)(q:ZX (f.run (AF t n) a H) P):ZX (AF t (n+1) k a H) P:=by
 have:AF t (n+1) k a H=f.run (AF t n) a H:=by
  show (match t k with|some f=>f.run (AF t n) a H|none=>.bad)=_;exact Ac h rfl
 exact Ac this q
theorem Zkb{b:As}{a k:Nat}{nm:aW}{o:DE}{d:List DE}(h:W (o σ H) fun x aa=>∃ j l,x=.inst a j/\aa[j]?=some (.attrs l)/\l.lookup nm=none/\W (AL d σ aa) fun vs A=>ZX (b k (.inst a j::vs) A) P):ZX (BD b a nm k o d σ H) P :=
 ZX.after (h.mono fun x aa h=>BJ h fun j l e c n g=>by
  subst e;exact Ac (Zf7 c n) (ZX.after g))
theorem Q8{a:DE}{C:List Nat}{i:Nat}{d:DS}(h:ZX (a σ H) fun x aa=>∃ c,CC aa x=some c/\c∈C/\WS (d (AM σ i x) aa) (fun _ A=>N Go A) R):WS (EA a C i d σ H) N R:=by
 refine Zaj h fun x aa b c j g Q A e q=>?_;obtain⟨f,z⟩:=Q;refine⟨(f,Go),A,?_,?_⟩
 .unfold EA;refine Ac b ?_;simp only[j,if_pos g,e,Rs.bindB_ok]
 .cases f with
  | next=>exact q
  | ret v=>exact q
theorem Q9{b:As}{A k:Nat}{d:List DE}(h:W (AL d σ H) fun vs aa=>W (b k (.ref aa.length::vs) (aa++[AO.exo A none true])) fun r a=>r=.none/\Q (.ref aa.length) a):W (G1 b A k d σ H) Q :=
 W.bind (h.mono fun vs aa h=>W.bind (h.mono fun r a h=>by
  refine AX h fun e q=>?_;subst e;exact⟨_,_,rfl,q⟩))
theorem Zkc{a:Nat}{nm:aW}{o:DE}(h:W (o σ H) fun x aa=>OB (attrX a aa nm x) fun v=>Q v aa):W (FE a nm o σ H) Q:=W.bind (h.mono fun x aa h=>C4 h)
theorem Zkd{a i j:Nat}{f:Bool}{nm:aW}{l:List (aW×AV)}{v:AV}{Q:AV->Prop}(b:H[i]?=some (.exo a (some j) f))(h:H[j]?=some (.attrs l))(e:atName l nm=some v)(q:Q v):OB (attrX a H nm (.ref i)) Q :=
 ⟨v,by unfold attrX;simp[b,h,e],q⟩
theorem QA{b:Nat}{nm:aW}{o a:DE}(h:W (a σ H) fun v aa=>W (o σ aa) fun x A=>OB (putX b A nm x v) fun n=>N σ n):WS (Hy b nm o a σ H) N R :=
 W.bind (h.mono fun v aa h=>W.bind (h.mono fun x A h=>by
  refine Ah h fun n e q=>?_;exact⟨_,_,by exact Ac e rfl,q⟩))
theorem Zke{a i:Nat}{f:Bool}{nm:aW}{v:AV}{Q:AH->Prop}(h:H[i]?=some (.exo a none f))(q:Q (H.set i (.exo a (some H.length) f)++[AO.attrs [(nm,v)]])):OB (putX a H nm (.ref i) v) Q :=
 ⟨_,by unfold putX;simp[h],q⟩
theorem Zkf{a:Nat}{d:List DE}(h:W (AL d σ H) fun vs aa=>∃ x y,vs=[x,y]/\Hz a aa x=true/\Q .none aa):W (FF a d σ H) Q :=
 W.bind (h.mono fun vs aa h=>B2 h fun x y e b q=>by
  subst e;exact C4 ⟨.none,if_pos b,q⟩)
theorem Zkg{b i:Nat}{nm:aW}{o a:DE}(h:W (a σ H) fun v aa=>∃ u w,v=.tup [u,w]/\W (o σ aa) fun x A=>OB (putA b A nm x u) fun n=>N (AM σ i w) n):WS (FG b nm o i a σ H) N R :=
 W.bind (h.mono fun v aa h=>by
  obtain⟨u,w,rfl,h⟩:=h
  exact W.bind (h.mono fun x A h=>by
   refine Ah h fun n e q=>?_;exact⟨_,_,by exact Ac e rfl,q⟩))
end
theorem Zkh{K:aG}{h:aX}{D a:aF}{x:aW}(f:a=GC K D x)(X:K.In h)(e:GT K D x=true):h.nsMap (DA K D) x=some (.ref a):=by refine Ac f ?_;exact Zgk X e
theorem QB{K:aG}{h:aX}{D a:aF}{x:aW}(f:a=GC K D x)(X:K.In h)(e:Ql K (GC K D x)=true):∃ of fd,h.get? a=some of/\of.cls=.type "function"/\of.data=.func fd:=by refine Ac f ?_;exact Vr X e
end Mine
namespace Mine
open PySem PySem.W PyProof.Rows PySem.Calls PySem.SeqAt
section
variable {C:Cx}{n:Nat}{S:AN}{env:f3}{β β':List aF}{s s':aE}{σ σ':AW}{H H':AH}{A:bY}{E:aC->aE->Prop}{mg mb:aW->Option aC}
theorem Zki{it t:aF}{items:Array aC}(e:t≠it):∀ (n i:Nat) (s:aE) (Q:List aC->aE->Prop),s.heap.IsListIter it t i->s.heap.IsList t items->i+n<=items.size ->
  (∀ h',h'.IsListIter it t (i+n)->dZ it s.heap h'->Q ((items.toList.drop i).take n) { s with heap:=h' })->wpAny (model C.prog C.w) A (draw (.ref it) n) Q E s
 | 0,i,s,Q,h,_,_,b=>by
  show wpAny _ _ (pure []) Q E s;exact aH (by simpa using b s.heap h (mX ..))
 | n+1,i,s,Q,h,c,H,b=>by
  have a:i<items.size:=by exact Z1e H
  show wpAny _ _ (pyNext (.ref it) >>= _) Q E s;refine aB (jr h c (x:=items[i]) (by simp[a]) fun d f B=>?_);refine aB (bN (Zki e n (i+1) _ _ f (c.extBut B.extBut e) (Z1k H) fun u I D=>aH ?_));have g:items.toList.drop i=items[i]::items.toList.drop (i+1):=by simp[List.drop_eq_getElem_cons,a]
  have:=b u (by refine Ac (show i+(n+1)=i+1+n by exact Uh) ?_;exact I) (B.trans D);rw[g,ki] at this;exact this
theorem Zkj{d:List Expr}{k:Nat}{pos:dc}{t:aF}{items:Array aC}{Q:Unit->aE->Prop}(m:A.handled=none)(f:s.heap.IsList t items)
  (n:(fA d env).length=items.size) (h:(fA d env).findIdx? (·.1)=none)
  (l:∀ h',Heap.ExtBut s.heap.objs.size s.heap h'->wpAny (model C.prog C.w) A (assignInOrder ((fA d env).map (·.2)) items.toList) Q E { s with heap:=h' }) :
  wpAny (model C.prog C.w) A (assign (.Tuple d k pos) env (.ref t)) Q E s:=by
 have a:t≠s.heap.objs.size:=by obtain⟨o,g,_⟩:=f;exact bV (bX g)
 rw[arm_assign_Tuple];refine aB (cW ?_);unfold unpack;refine Ac n (Ac h ?_);refine aB (bN ?_);unfold unpackItems;refine aB ?_;unfold notIterableAtAll;refine aB (dQ f.typeIs slot_list_iter.lookup ?_);refine aH ?_;simp only[cv,if_false];refine aB (bN (fI f ?_))
 have G:(s.heap.push { cls:=.type "list_iterator",data:=.fields #[.ref t,.int 0 0] }).IsList t items:=by
  obtain⟨O,g,r⟩:=f;exact⟨O,aP _ g,r⟩
 refine aB (bN (Zki a items.size 0 _ _ ⟨_,bC _ rfl,rfl,rfl⟩ G (Z17) fun c F B=>?_))
 have H:List.take items.size (List.drop 0 items.toList)=items.toList:=by
  exact Ac fM (cI (by simp))
 refine Ac H (Ac (if_neg (by simp)) ?_);have J:c.IsList t items:=G.extBut B.extBut a;refine aB (bN (jH m F J (by simp) fun u j=>?_));simp only[Option.isSome_none,cv,if_false];exact aH (l u fun b o i e=>j b o i (B.extBut b o i (aP _ e)))
theorem SS.asgL{f:List Expr}{k:Nat}{tp:dc}{e:Expr}{pos:dc}{is:List Nat}{a:DE}(u:Id S f is)(h:SE C n S e a)(J:S.calm=true)
  (O:∀ c,iH [.Tuple f k tp] e pos.line c=pure false) (R:∀ c,iI [.Tuple f k tp] e c=pure none):SS C n S (.Assign [.Tuple f k tp] e pos) (Hs is a):=by
 refine⟨fun A c z H W s Q E F P N=>?_⟩;refine la (AE.thenE P.own N (fun _ r=>h.go A c z H W s _ E P r) ?_) (O c) (R c);intro y j v B D _ m U i
 cases L:listOf? B v with
 | none=>rw[L] at i;exact i.elim
 | some V =>
  rw[L] at i;dsimp only at i
  cases g:PQ is V z with
  | none=>rw[g] at i;exact i.elim
  | some X =>
   rw[g] at i;refine B2 (Gw m.inv U L) fun ad I q M x=>?_;subst q;have d:=x.length;rw[aR] at d;have w:=P.after m;refine Zkj (P.calm J) M (by exact Ac u.length (Ac (Zec g) (Ac d rfl))) u.nostar fun r t=>?_;have K:∀ b o,j.heap.get? b=some o->r.get? b=some o:=fun b o e=>t b o (bV (bX e)) e;have p:=m.inv.keeps (s:=j) j.toks K;have l:=p.weaken w.own;exact Zed F u l (w.env.mono p.grow) (x.mono p.grow) g fun T l G=>i _ T D l ⟨trivial,G⟩
structure H9(C:Cx)(n:Nat)(S:AN)(keys:List (Option Expr))(vals:List Expr)(ks:List aW)(ds:List DE):Prop where
 some:keys.all (·.isSome)=true
 len:keys.length=vals.length
 go:∀ A env σ H β s Q E pos,DO C n A S env β s σ H->AE C Bv (fun β h (ps:List (aC×aC)) us=>∃ kvs:List (aW×aC),Carries (strKind C.prog C.w) ps kvs/\kvs.map (·.1)=ks/\Bg C β h (kvs.map (·.2)) us) β s (AL ds σ H) Q E->wpAny (model C.prog C.w) A (evalPairs (pairTrees keys vals env pos)) Q E s
theorem H9.nil:H9 C n S [] [] [] []:=⟨rfl,rfl,fun A e b H a s Q E p P h=>pairTrees_nil_walk (h.ok_here P.inv ⟨[],trivial,rfl,.nil⟩)⟩
theorem H9.cons{x:aW}{k:Nat}{kp:dc}{e:Expr}{K:List (Option Expr)}{V:List Expr}{ks:List aW}{d:DE}{D:List DE}(h:SE C n S e d)(r:H9 C n S K V ks D):H9 C n S (Option.some (.Constant (.str x) k kp)::K) (e::V) (x::ks) (d::D):=by
 refine⟨r.some,congrArg (·+1) r.len,fun A a j H J s Q E p P B=>?_⟩;refine pairTrees_cons_walk (kv ?_);have i:=P.inv.toks (s:=s) (s.toks+1);have F:=P.after i;refine AE.then (AE.shift i B) (fun _ b=>h.go A a j H J _ _ E F b) ?_;intro y m v l t _ o I q;refine AE.then q (fun _ b=>r.go A a j l t m _ E p (F.after o) b) ?_;intro O M U L N _ g f u;exact Bu f fun c w z G=>u.ok_here g.inv ⟨(x,y)::c,⟨Qj,rfl,w⟩,by exact Ac ci (Ac z rfl),.cons (I.mono g.grow) G⟩
theorem Zkk{h:aX}:∀ {kvs:List (aW×aC)} {ks:List aW} {us:List AV} {acc:List (aW×aC)} {l:List (aW×AV)},kvs.map (·.1)=ks->Bg C β h (kvs.map (·.2)) us->acc.map (·.1)=l.map (·.1)->Bg C β h (acc.map (·.2)) (l.map (·.2)) ->
  (merged acc kvs).map (·.1)=(ED l ks us).map (·.1)/\Bg C β h ((merged acc kvs).map (·.2)) ((ED l ks us).map (·.2)):=by
 intro kvs
 induction kvs with
 | nil =>
  intro ks us acc l b v H a;subst b;exact⟨H,a⟩
 | cons p kvs i =>
  intro ks us acc l b v H a;subst b
  cases us with
  | nil=>cases v
  | cons u us =>
   have q:=v.uncons;refine AX (Zfk (k:=p.1) q.1 H a) fun r R=>?_;exact i (ks:=kvs.map (·.1)) (us:=us) rfl q.2 r R
theorem SE.newN{k:List (Option Expr)}{v:List Expr}{pos:dc}{ks:List aW}{D:List DE}(h:H9 C n S k v ks D)(B:k≠[])(N:k.length<=15):SE C n S (.Dict k v pos) (Hr ks D):=by
 refine⟨fun A e σ H Y s Q E P O=>?_⟩;refine wpAny_Dict_walk (knd:=strKind C.prog C.w) h.some h.len B N ?_
 have q:=P.inv.alloc (s:=s) (o:={ cls:=.type "dict",data:=.dict #[] }) (ao:=.dictN []) s.toks rfl
  (fun Z d g L=>⟨[],⟨_,#[],0,L,⟨rfl,rfl,rfl⟩,rfl,fun _ J=>by simp at J,.nil,.nil⟩,rfl,.nil⟩)
 have F:=P.after q;have z:(Y++[s.heap.objs.size])[H.length]?=some s.heap.objs.size:=by refine BE P.inv.len ?_;simp
 refine AE.then (AE.shift q O) (fun _ d=>h.go A e σ _ _ _ _ E pos F d) ?_;intro T t X r x _ c V a;have i:x[H.length]?=some s.heap.objs.size:=c.grow.at_ z
 cases b:r[H.length]? with
 | none=>rw[b] at a;exact a.elim
 | some o =>
  rw[b] at a
  cases o with
  | dictN l =>
   cases l with
   | cons _ _=>exact a.elim
   | nil =>
    refine Bu V fun p I M R=>Bu (c.inv.obj _ _ _ i b) fun K G j _=>?_;have y:K=[]:=List.map_eq_nil_iff.mp j;subst y;refine⟨p,I,G,fun d f m=>?_⟩
    have u:=c.inv.setObj i b m (ao':=.dictN (ED [] ks X)) (fun g=>by
     refine AX (Zkk (acc:=[]) (l:=[]) M R rfl .nil) fun U W=>?_;exact⟨_,f,U,W.mono g⟩) (t.toks+T.length)
    exact a _ _ _ u (.ref i)
  | _=>exact a.elim
def Jd(C:Cx)(id:String)(f:List AV->Option (AV×List AV)):Prop :=
 ∀ {A:bY} {β:List aF} {s:aE} {a:aF} {items:Array aC} {l:List AV} {p:AV×List AV} {Q:aC->aE->Prop} {E:aC->aE->Prop},s.heap.PlainList a items->Bg C β s.heap items.toList l ->
  f l=some p->(∀ y h' i tk,dZ a s.heap h'->h'.PlainList a i->Bg C β s.heap i.toList p.2->VR C β s.heap y p.1->Q y { s with heap:=h',toks:=tk })->wpAny (model C.prog C.w) A (call (.builtin id) [.ref a]) Q E s
theorem SE.methR{o:Expr}{name:aW}{g pos:dc}{id:String}{d:DE}{f:List AV->Option (AV×List AV)}
  (t:Slot "list" name id) (G:typeOf (.builtin id)=pure (.type "method_descriptor")) (j:Jd C id f) (U:SE C n S o d)
  (h:∀ e,gC o name e (eval o e)=eval o e)
  (w:∀ e,((backTo pos (starEach [] e)).all (fun x=>!x.1)&&(backToKw pos (cz [] e)).all (fun x=>x.1.isSome)&&decide (([]:List Expr).length+([]:List fJ).length+(if ([]:List fJ).isEmpty then 0 else 1)<30))=true)
  (k:(g.endLine == pos.line)=true) :
  SE C n S (.Call (.Attribute o name g) [] [] pos) (Cr f d):=by
 refine⟨fun A e σ H β s Q E P V=>?_⟩;refine k7 (h e) (w e) k iY t G (AE.then V (fun _ N=>U.go A e σ H β s _ E P N) ?_);intro x ae v R aj _ M vx c
 cases v with
 | ref i =>
  refine Ah vx.inv fun a T O=>?_;subst T;dsimp only at c
  cases u:R[i]? with
  | none=>rw[u] at c;exact c.elim
  | some o' =>
   rw[u] at c
   cases o' with
   | list l =>
    dsimp only at c
    cases B:f l with
    | none=>rw[B] at c;exact c.elim
    | some p =>
     rw[B] at c;refine Ah (M.inv.obj i a _ O u) fun K r X=>?_;have Z:=r;refine aD Z fun m q=>⟨⟨_,q,rfl⟩,fun b z=>by cases z;exact⟨_,q,rfl⟩,?_⟩;refine cH rfl (Zgc (pos:=pos) _ _ e _ _ _ _ (dv ?_));refine j r X B fun y N I tk W D J Y=>?_;have L:=M.inv.setList O u W D J tk;exact c _ _ _ L (Y.mono L.grow)
   | _=>exact c.elim
 | _=>exact c.elim
theorem Zkl:Jd C "list.clear" EE:=by
 intro A b s a i l p Q E h v f q;have f:(if l.length<=1000000 then some (AV.none,[]) else none)=some p:=f
 by_cases e:l.length<=1000000
 .rw[if_pos e] at f;obtain rfl:=inj f;have H:=v.length;rw[aR] at H;obtain⟨m,h⟩:=h;refine f4 ja ⟨_,h,rfl⟩ PySem.F.entry_list_clear (PySem.F.args_list_clear_1 _) (lm a i m (by refine Ac H ?_;exact al e (Al rfl))) ⟨h,?_⟩;exact q .none _ _ s.toks (dy ..) ⟨_,bM _ h rfl⟩ .nil .none
 .rw[if_neg e] at f;injection f
theorem V4:Jd C "list.pop" HL:=by
 intro A k s a i l p Q E H d f q;have f:(if l.length<=1000000 then l.getLast?.map fun v=>(v,l.dropLast) else none)=some p:=f
 by_cases b:l.length<=1000000
 .rw[if_pos b] at f;refine Ah (aY.mp f) fun v c Z=>?_;subst Z;have h:=d.length;rw[aR] at h;rw[List.getLast?_eq_getElem?] at c;refine Ah (d.get c) fun y j V=>?_;have g:i[i.size-1]?=some y:=by refine Ac h ?_;simpa using j
  obtain⟨m,H⟩:=H;refine f4 jK ⟨_,H,rfl⟩ PySem.F.entry_list_pop (PySem.F.args_list_pop_1 _) (lX a i m y g (by refine Ac h ?_;exact al b (Al rfl))) ⟨H,?_⟩;refine q y _ _ s.toks (dy ..) ⟨_,bM _ H rfl⟩ ?_ V
  have e:(i.eraseIdxIfInBounds (i.size-1)).toList=i.toList.take (l.length-1):=by
   (refine Ac fS (Ac h ?_);rewrite [ed];refine Ac (fL (by simp;exact Z0z b h)) ?_;rw[bS])
  show Bg C k s.heap (i.eraseIdxIfInBounds (i.size-1)).toList l.dropLast;refine Ac e (Ac List.dropLast_eq_take ?_);exact d.take _
 .rw[if_neg b] at f;injection f
open AutoSeq1 (wpAny_loadPart') in
theorem Zkm(l:aF)(items:Array aC)(n:Nat)(b:aF)(i:Array aC)(N:Nat)(dd:Option aF)(S:Array (Option aC))(j:¬(!items.isEmpty&&fg (items.size+i.size))=true)(H:items.size<=sizeLine)(a:items.size+i.size<=sizeLine+1) :
  Meets (fs.«list.extend» ⟨[.ref l,.ref b],[]⟩) (fun _ R s=>s.heap.get? l=some { cls:=.type "list",dict:=none,data:=.seq items n,slots:=#[] }/\s.heap.get? b=some { cls:=.type "list",dict:=dd,data:=.seq i N,slots:=S }/\R (.ok (.ret cQ)) { s with heap:=s.heap.update l (kC fun x=>x++i),toks:=s.toks }) :=
 .of_wp fun p w A R s h=>by
  obtain⟨k,g,d,t,os⟩:=s;obtain⟨e,f,h⟩:=h;have F:=sub_list_list;have c:(items++i).size<=sizeLine+1:=by refine Ac Array.size_append ?_;exact a
  wp_walk using (lY e rfl (hz:=H) (_hz':=c)),eH e,eH f;exact⟨_,rfl,h⟩
set_option tactic.hygienic true in
theorem Zkn:Ee C n "list.extend" UX:=by
 intro A O s H a i l N Y U Q E I R h t V z J;refine I6 z fun v w g=>UZ g fun k u g=>B9 g fun f G=>?_;subst w u;refine Ah V.one_inv fun y e K=>?_;subst e;obtain rfl:=inj G;refine BJ K.inv fun b d e x L c=>?_;subst e;have o:=t.length;have p:=c.length;rw[aR] at o p;obtain⟨m,h⟩:=h;refine C3 x fun Z B q M r=>?_;obtain⟨cls,D,data,S⟩:=Z;simp only at q r;subst q r;have j:i.size+d.size<=1000000:=by refine Ac o (Ac p ?_);exact f
 refine f4 iK ⟨_,h,rfl⟩ PySem.F.entry_list_extend (PySem.F.args_list_extend_2 _ _) (Zkm a i m b d M D S (by simp[fg,sizeLine];exact fun _=>al j (Al rfl)) (al (al (aQ _ _) j) (Al rfl)) (al j (Al rfl))) ⟨h,B,?_⟩;exact J _ _ s.toks (dy ..) ⟨_,bM _ h rfl⟩ (by simpa using t.append c)
open AutoSeq1 (wpAny_loadPart') in
open MeetsSeq in
theorem Zko(l:aF)(items:Array aC)(n:Nat)(x:aC)(j:Nat)(r:j<items.size)(k:Nat)(e:items.size<=sizeLine) :
  ∀ i:Nat,j-i=k->i<=j->Meets (fs.«list.remove.loop» ⟨[.ref l,x,rawInt i],[]⟩)
   (fun A R s=>s.heap.get? l=some { cls:=.type "list",dict:=none,data:=.seq items n,slots:=#[] }/\(∀ m (z:m<items.size),m<=j->EqAt A.in1 s items[m] x (dD m j))/\R (.ok (.ret .none)) { s with heap:=s.heap.update l (kC fun xs=>xs.eraseIdxIfInBounds j) }):=by
 induction k with
 | zero =>
  intro i c H p w A R s h;obtain⟨y,g,d,T,os⟩:=s;obtain⟨a,f,h⟩:=h;have b:i=j:=by exact Z04 c H
  subst b
  wp_walk using eH a
  have o:items[((i:Nat):Int).toNat]?=some items[i]:=by simp[r]
  refine Ac o (aB (f i r (bB _) p w _ _ ?_));rw[mK];have u:(items.eraseIdxIfInBounds i).size<=sizeLine+1:=al (size_erased items _) (fD e)
  wp_walk using (lY a rfl (hz:=e) (_hz':=u)),eH a
  simpa using h
 | succ k I =>
  intro i c H p w A R s h;obtain⟨y,g,d,T,os⟩:=s;obtain⟨a,f,h⟩:=h;have t:i<items.size:=by exact Z2b r H
  wp_walk using eH a
  have o:items[((i:Nat):Int).toNat]?=some items[i]:=by simp[t]
  have v:((i:Int)+1)=((i+1:Nat):Int):=by push_cast;rfl
  refine Ac o (aB (f i t H p w _ _ ?_));refine Ac (show dD i j=false from fN.mpr fun q=>by have:=cA q;exact Z01 c this) ?_
  wp_walk
  refine Ac v ?_
  exact⟨plainId_quiet plain_remove_loop _,jA entry_remove_loop (by
   refine Ac (j3 plain_remove_loop _) ?_;exact I (i+1) (Z0y c H) (Z03 c H) p w A R _ ⟨a,f,h⟩)⟩
open AutoSeq1 (wpAny_loadPart') in
open MeetsSeq in
theorem Zkp(l:aF)(items:Array aC)(n:Nat)(x:aC)(j:Nat)(b:j<items.size)(H:items.size<=sizeLine):Meets (fs.«list.remove» ⟨[.ref l,x],[]⟩)
   (fun A R s=>s.heap.get? l=some { cls:=.type "list",dict:=none,data:=.seq items n,slots:=#[] }/\(∀ m (c:m<items.size),m<=j->EqAt A.in1 s items[m] x (dD m j))/\R (.ok (.ret .none)) { s with heap:=s.heap.update l (kC fun xs=>xs.eraseIdxIfInBounds j) }):=by
 intro p w A R s h;obtain⟨f,g,d,t,os⟩:=s;obtain⟨a,e,h⟩:=h
 wp_walk using eH a
 exact⟨plainId_quiet plain_remove_loop _,jA entry_remove_loop (by
  refine Ac (j3 plain_remove_loop _) ?_;exact Zko l items n x j b _ H 0 rfl (jN _) p w A R _ ⟨a,e,h⟩)⟩
theorem Zkq{H:AH}:∀ (k:Nat) {v:AV} {d:gV},data [] k v=some d->data H k v=some d
 | 0,_,_,h=>h
 | k+1,v,d,h=>by
  have all:∀ {l:List AV} {D:List gV},l.mapM (data [] k)=some D->l.mapM (data H k)=some D:=by
   intro l
   induction l with
   | nil=>exact fun h=>h
   | cons a r I =>
    intro D h;refine B2 (Zbt h) fun y Y c f e=>Ac dN (Ac (Zkq k c) (Ac (I f) (Ac e ?_)));rfl
  cases v with
  | tup l =>
   refine Ah (aY.mp (show (l.mapM (data [] k)).map e5=some d from h)) fun D b e=>?_;show (l.mapM (data H k)).map e5=_;refine Ac (all b) (BE e ?_);rfl
  | lst l =>
   refine Ah (aY.mp (show (l.mapM (data [] k)).map dY=some d from h)) fun D b e=>?_;show (l.mapM (data H k)).map dY=_;refine Ac (all b) (BE e ?_);rfl
  | ref i=>injection h
  | _=>exact h
theorem Zkr{H:AH}{a b:AV}{c:Bool}(h:D3 [] a b=some c):D3 H a b=some c:=by
 refine CZ (Ve h) fun x y E d s S e=>?_;unfold D3;refine Ac (Zkq 12 E) (Ac (Zkq 12 d) ?_);show (if (shaped x&&shaped y)=true then some (ce x y) else none)=_;refine Ac s (Ac S (Ac e ?_));rfl
theorem Zks{v:AV}:∀ {l l':List AV},I3 v l=some l'->∃ j,j<l.length/\l'=l.eraseIdx j/\∀ m y,l[m]?=some y->m<=j->D3 [] y v=some (dD m j):=by
 intro l
 induction l with
 | nil=>intro l' h;injection h
 | cons y r i =>
  intro l' h;refine Bf h fun b q h=>Ht h (fun H h=>?_) (fun H h=>EF h fun k g e=>?_)
  .subst H;obtain rfl:=inj h;refine⟨0,fE _,rfl,fun m z hz a=>?_⟩;obtain rfl:=Nat.le_zero.mp a;obtain rfl:=inj hz;exact q
  .have H:=fN.mpr H;subst H;refine Bu (i g) fun j c d f=>⟨j+1,Nat.succ_lt_succ c,by refine BE e (Ac d ?_);rfl,fun m z hz a=>?_⟩
   cases m with
   | zero=>obtain rfl:=inj hz;exact q
   | succ m=>exact f m z hz (c8 a)
set_option tactic.hygienic true in
theorem Zkt:Ee C n "list.remove" UY:=by
 intro A T s H a b l L ys Y Q E I R c f V D J;refine I6 D fun v t g=>B9 g fun o G=>?_;subst t;refine Ah V.one_inv fun y Z K=>?_;subst Z;refine Bu (Zks G) fun j w x B=>?_;have h:=f.length;rw[aR] at h;obtain⟨m,c⟩:=c;refine f4 iM ⟨_,c,rfl⟩ PySem.F.entry_list_remove (PySem.F.args_list_remove_2 _ _) (Zkp a b m y j (by refine Ac h ?_;exact w) (by refine Ac h ?_;exact al o (Al rfl))) ⟨c,fun i p k=>?_,?_⟩
 .have d:i<l.length:=by refine BE h ?_;exact p
  refine Ah (f.get (bK d)) fun z hz P=>?_
  have u:b[i]=z:=by
   have:b.toList[i]?=some b[i]:=by simp[p]
   rw[hz] at this;exact (inj this).symm
  refine Ac u (CZ (Ve (Zkr (H:=H) (B i _ (bK d) k))) fun W X q r S O e=>Ac e (aD (P.reads I 12 q) fun as M=>aD (K.reads I 12 r) fun U N=>eqAt_reads _ _ _ _ _ _ _ _ M N (dm S) (dm O) (room_of_shaped S ?_)));have:=R.units;show A.units+1+64<cLine;exact om0 this
 .refine J _ _ s.toks (dy ..) ⟨_,bM _ c rfl⟩ ?_;show Bg C T s.heap (b.eraseIdxIfInBounds j).toList L
  (refine Ac fS (Ac x ?_);rw[ed,ed])
  exact (f.take _).append (f.drop _)
end
end Mine
namespace Mine
open PySem PySem.W PyProof.Rows PySem.Calls PySem.SeqAt
set_option genInjectivity false
set_option genSizeOf false
noncomputable def Fd{a:Type}(l:List (aW×a))(x:aW):Option a:=dT none (fun p _ i=>j4 i (some p.2) (Fast.sEq x p.1)) l
theorem Zku{c:Type}{x:aW}{a:c}{P:List (aW×c)->Prop}(d:∀ r,P ((x,a)::r))(f:∀ y b r,x≠y->P r->P ((y,b)::r)):∀ {l:List (aW×c)},Fd l x=some a->P l
 | [],h=>nomatch h
 | (y,b)::r,h=>by
  have h:(j4 (Fd r x) (some b) (Fast.sEq x y):Option c)=some a:=h
  cases H:Fast.sEq x y with
  | true =>
   rw[H] at h;have h:some b=some a:=h;obtain rfl:=inj h;have e:=Fast.sEq_iff.mp H;subst e;exact d r
  | false =>
   rw[H] at h;exact f y b r (fun e=>by rw[Fast.sEq_iff.mpr e] at H;injection H) (Zku d f h)
theorem Mm{b:Type}{l:List (aW×b)}{x:aW}{a:b}(h:Fd l x=some a):l.lookup x=some a :=
 Zku (P:=fun l=>l.lookup x=some a) (fun _=>List.lookup_cons_self) (fun _ _ _ n i=>by rw[cq,beq_eq_false_iff_ne.mpr n];exact i) h
theorem HB{b:Type}{l:List (aW×b)}{x:aW}{a:b}(h:Fd l x=some a):(x,a)∈l :=
 Zku (P:=fun l=>(x,a)∈l) (fun _=>aN) (fun _ _ _ _ i=>aT _ i) h
noncomputable def DH(x:aW)(l:List aW):Bool:=dT false (fun y _ i=>j4 i true (Fast.sEq x y)) l
theorem Fk{x:aW}:∀ {l:List aW},DH x l=true->x∈l
 | [],h=>nomatch h
 | y::r,h=>by
  have h:(j4 (DH x r) true (Fast.sEq x y):Bool)=true:=h
  cases H:Fast.sEq x y with
  | true=>rw[Fast.sEq_iff.mp H];exact aN
  | false=>rw[H] at h;exact aT _ (Fk h)
noncomputable def Sl{a:Type}(l:List (Nat×a))(x:Nat):Option a:=dT none (fun p _ i=>j4 i (some p.2) (dD x p.1)) l
theorem Zky{c:Type}{x:Nat}{a:c}:∀ {l:List (Nat×c)},Sl l x=some a->(x,a)∈l
 | [],h=>nomatch h
 | (y,b)::r,h=>by
  have h:(j4 (Sl r x) (some b) (dD x y):Option c)=some a:=h
  cases H:dD x y with
  | true =>
   rw[H] at h;obtain rfl:=inj (show some b=some a from h);rw[cA H];exact aN
  | false=>rw[H] at h;exact aT _ (Zky h)
noncomputable def Ih(x:aW):Bool:=!(Fast.sEq x "__debug__")&&!(Fast.sEq x "__classdict__")
theorem Ex{x:aW}(h:Ih x=true):(x == ("__debug__":aW))=false:=beq_eq_false_iff_ne.mpr fun e=>by
 unfold Ih at h;rw[Fast.sEq_iff.mpr e] at h;injection h
theorem V5{x:aW}(h:Ih x=true):(x == ("__classdict__":aW))=false:=beq_eq_false_iff_ne.mpr fun e=>by
 unfold Ih at h;rw[Fast.sEq_iff.mpr e,d5,j5] at h;injection h
noncomputable def Cm{b β:Type}(o:Option b)(f:∀ a,o=some a->Option β):Option β:=match o,f with
 | some a,f=>f a rfl
 | none,_=>none
noncomputable def AT{β:Type}(b:Bool)(f:b=true->Option β):Option β:=match b,f with
 | true,f=>f rfl
 | false,_=>none
noncomputable def Je{β:Type}(a b:Option β):Option β:=match a with
 | some x=>some x
 | none=>b
noncomputable def vE{M:Expr->Type}(e:Expr)(O:∀ e,M e)(t:∀ c k p,M (.Constant c k p))(n:∀ x p,M (.Name x p))(bin:∀ l o r p,M (.BinOp l o r p))(u:∀ o x p,M (.UnaryOp o x p))(b:∀ o E p,M (.BoolOp o E p))(cmp:∀ l os R p,M (.Compare l os R p))
  (D:∀ ks vs p,M (.Dict ks vs p)) (tup:∀ E k p,M (.Tuple E k p)) (lst:∀ E p,M (.List E p)) (slc:∀ lo h st p,M (.Slice lo h st p)) (sub:∀ v i p,M (.Subscript v i p)) (a:∀ o m p,M (.Attribute o m p)) (C:∀ f E ks p,M (.Call f E ks p)) (d:∀ x g s p,M (.ListComp x g s p)):M e:=match e with
 | .Constant c k p=>t c k p
 | .Name x p=>n x p
 | .BinOp l o r p=>bin l o r p
 | .UnaryOp o x p=>u o x p
 | .BoolOp o E p=>b o E p
 | .Compare l os R p=>cmp l os R p
 | .Dict ks vs p=>D ks vs p
 | .Tuple E k p=>tup E k p
 | .List E p=>lst E p
 | .Slice lo h st p=>slc lo h st p
 | .Subscript v i p=>sub v i p
 | .Attribute o m p=>a o m p
 | .Call f E ks p=>C f E ks p
 | .ListComp x g s p=>d x g s p
 | e=>O e
def FL{M:Expr->Type}(e:Expr)(o:∀ e,M e)(n:∀ x p,M (.Name x p)):M e:=vE e o (fun _ _ _=>o _) n (fun _ _ _ _=>o _) (fun _ _ _=>o _) (fun _ _ _=>o _) (fun _ _ _ _=>o _) (fun _ _ _=>o _) (fun _ _ _=>o _) (fun _ _=>o _) (fun _ _ _ _=>o _) (fun _ _ _=>o _) (fun _ _ _=>o _) (fun _ _ _ _=>o _) fun _ _ _ _=>o _
noncomputable def vL{b:Type}{M:List b->Type}(l:List b)(n:M [])(c:∀ a r,M (a::r)):M l:=match l with
 | []=>n
 | a::r=>c a r
noncomputable def vO{b:Type}{M:Option b->Type}(l:Option b)(n:M none)(c:∀ a,M (some a)):M l:=match l with
 | none=>n
 | some a=>c a
noncomputable def pk{β:Type}(h:Nat)(l:List (Option β)):Option β:=dT (fun _=>none) (fun a _ i h=>mE a (fun k _=>i k) h) l h
structure Pl(e:Expr):Prop where
 fold:∀ env x,c9 e env x=pure x
 sub:∀ o v,dG e false o v=operate [o,v] (getItem o v)
 swap:∀ t l env,dR e t l env=pure false
 mark:∀ o,gB o e=false
def HS(e:Expr):Option (PLift (Pl e)):=vE (M:=fun e=>Option (PLift (Pl e))) e (fun _=>none) (fun _ _ _=>some ⟨⟨fun _ _=>rfl,fun _ _=>rfl,fun _ _ _=>rfl,fun _=>rfl⟩⟩) (fun _ _=>some ⟨⟨fun _ _=>rfl,fun _ _=>rfl,fun _ _ _=>rfl,fun _=>rfl⟩⟩) (fun _ _ _ _=>some ⟨⟨fun _ _=>rfl,fun _ _=>rfl,fun _ _ _=>rfl,fun _=>rfl⟩⟩)
 (fun _ _ _=>some ⟨⟨fun _ _=>rfl,fun _ _=>rfl,fun _ _ _=>rfl,fun _=>rfl⟩⟩) (fun _ _ _=>some ⟨⟨fun _ _=>rfl,fun _ _=>rfl,fun _ _ _=>rfl,fun _=>rfl⟩⟩) (fun _ _ _ _=>some ⟨⟨fun _ _=>rfl,fun _ _=>rfl,fun _ _ _=>rfl,fun _=>rfl⟩⟩) (fun _ _ _=>some ⟨⟨fun _ _=>rfl,fun _ _=>rfl,fun _ _ _=>rfl,fun _=>rfl⟩⟩)
 (fun _ _ _=>some ⟨⟨fun _ _=>rfl,fun _ _=>rfl,fun _ _ _=>rfl,fun _=>rfl⟩⟩) (fun _ _=>some ⟨⟨fun _ _=>rfl,fun _ _=>rfl,fun _ _ _=>rfl,fun _=>rfl⟩⟩) (fun _ _ _ _=>none) (fun _ _ _=>some ⟨⟨fun _ _=>rfl,fun _ _=>rfl,fun _ _ _=>rfl,fun _=>rfl⟩⟩)
 (fun _ _ _=>some ⟨⟨fun _ _=>rfl,fun _ _=>rfl,fun _ _ _=>rfl,fun _=>rfl⟩⟩) (fun _ _ _ _=>some ⟨⟨fun _ _=>rfl,fun _ _=>rfl,fun _ _ _=>rfl,fun _=>rfl⟩⟩) fun _ _ _ _=>none
theorem Pl.sole{t e:Expr}(h:Pl e)(l:Nat)(E:f3):iH [t] e l E=pure false:=by
 show dR e (some t) l E=_;exact h.swap _ _ _
structure Si(e:Expr):Prop where
 nt:∀ es k tp env,iI [.Tuple es k tp] e env=pure none
 tp:∀ env whole,isTrue e env whole=(do let v <- whole;standAt e.pos;holding [v] (truthy v))
def siE(e:Expr):Option (PLift (Si e)):=vE (M:=fun e=>Option (PLift (Si e))) e (fun _=>none) (fun _ _ _=>none) (fun _ _=>some ⟨⟨fun _ _ _ _=>rfl,fun _ _=>rfl⟩⟩) (fun _ _ _ _=>some ⟨⟨fun _ _ _ _=>rfl,fun _ _=>rfl⟩⟩)
 (fun _ _ _=>none) (fun _ _ _=>none) (fun _ _ _ _=>none) (fun _ _ _=>none) (fun _ _ _=>none) (fun _ _=>none) (fun _ _ _ _=>none) (fun _ _ _=>some ⟨⟨fun _ _ _ _=>rfl,fun _ _=>rfl⟩⟩) (fun _ _ _=>some ⟨⟨fun _ _ _ _=>rfl,fun _ _=>rfl⟩⟩) (fun _ _ _ _=>some ⟨⟨fun _ _ _ _=>rfl,fun _ _=>rfl⟩⟩) fun _ _ _ _=>none
def Ab(o:Expr):Prop:=∀ m e,gC o m e (eval o e)=eval o e
def abE(e:Expr):Option (PLift (Ab e)):=vE (M:=fun e=>Option (PLift (Ab e))) e (fun _=>none) (fun _ _ _=>none) (fun _ _=>some ⟨fun _ _=>rfl⟩) (fun _ _ _ _=>none) (fun _ _ _=>none) (fun _ _ _=>none) (fun _ _ _ _=>none) (fun _ _ _=>none) (fun _ _ _=>none) (fun _ _=>none) (fun _ _ _ _=>none) (fun _ _ _=>some ⟨fun _ _=>rfl⟩) (fun _ _ _=>some ⟨fun _ _=>rfl⟩) (fun _ _ _ _=>none) fun _ _ _ _=>none
theorem Zkz{v:f3}{pos:dc}:∀ {E:List Expr},E.all Et=true->(backTo pos (starEach E v)).all (fun x=>!x.1)=true
 | [],_=>rfl
 | e::E,h=>by
  obtain⟨H,a⟩:=aL.mp (show (Et e&&E.all Et)=true from h);rw[F9 H];exact Zkz a
theorem ET{E:List Expr}{pos:dc}(h:E.all Et=true)(H:gA E.length 29=true)(e:f3):((backTo pos (starEach E e)).all (fun x=>!x.1)&&(backToKw pos (cz [] e)).all (fun x=>x.1.isSome)&&decide (E.length+([]:List fJ).length+(if ([]:List fJ).isEmpty then 0 else 1)<30))=true:=by
 rw[Zkz h];exact decide_eq_true (eQ (bb H))
theorem HT{e:Expr}{E:List Expr}(h:(e::E).all Et=true):Et e=true:=(aL.mp (show (Et e&&E.all Et)=true from h)).1
theorem Zk1{e:Expr}{E:List Expr}(h:(e::E).all Et=true):E.all Et=true:=(aL.mp (show (Et e&&E.all Et)=true from h)).2
noncomputable def Ii:(o:kW)->{c:F5 // c.op=o}
 | .Eq=>⟨.eq,rfl⟩
 | .NotEq=>⟨.ne,rfl⟩
 | .Lt=>⟨.lt,rfl⟩
 | .LtE=>⟨.le,rfl⟩
 | .Gt=>⟨.gt,rfl⟩
 | .GtE=>⟨.ge,rfl⟩
 | .Is=>⟨.is,rfl⟩
 | .IsNot=>⟨.isNot,rfl⟩
 | .In=>⟨.isIn,rfl⟩
 | .NotIn=>⟨.notIn,rfl⟩
noncomputable def bop(h:Nat):(o:l7)->Option {c:Gh // c.op=o}
 | .Add=>some ⟨.add,rfl⟩
 | .Sub=>some ⟨.sub,rfl⟩
 | .Mult=>match h with
  | 0=>some ⟨.mul,rfl⟩
  | _=>some ⟨.rep,rfl⟩
 | .FloorDiv=>some ⟨.fdiv,rfl⟩
 | .Mod=>some ⟨.mod,rfl⟩
 | .Pow=>some ⟨.pow,rfl⟩
 | _=>none
structure Ck where
 gf:List (aW×Nat)
 ga:List (aW×Nat)
 hot:List Nat
 gi:List (aW×Int)
 gb:List (aW×BI)
 cl:List (aW×Nat)
 own:List (aW×Nat)
 md:List (aW×Nat)
 ats:List aW
 tr:List (aW×List Nat)
 xa:List aW
 bs:List Nat
 cL:Nat
 iL:Nat
 cX:Nat
 iX:Nat
 x1:List (Nat×CT×List (Nat×Bool))
 xt:List (Nat×List CT×List (Nat×Bool))
 hint:List (Nat×Nat)
 comp:List (Nat×AN×Nat)
noncomputable def key(p:dc):Nat:=p.line*1000000+p.col*1000+p.endCol
def Ck.h(D:Ck)(S:AN)(p:dc):Nat:=(Sl D.hint (key p+S.bias)).getD 0
def Jf(C:Cx)(x:aW)(v:AV):Prop:=Ih x=true->∀ n S p,x∈S.G->SE C n S (.Name x p) (Am v)
def KU(C:Cx)(K:aG)(c:Nat):aW->Option aC:=C.base.nsMap (DA K (C.clv c))
def KV(C:Cx)(k:Nat):Prop:=∃ of fd,C.base.get? (C.fnv k)=some of/\of.cls=.type "function"/\of.data=.func fd
structure Ej(C:Cx)(K:aG)(mg mb:aW->Option aC)(D:Ck):Prop where
 B:Dc C mg mb
 kin:K.In C.base
 gf:∀ q∈D.gf,Jf C q.1 (.fn q.2)
 ga:∀ q∈D.ga,Jf C q.1 (.fn q.2)
 hot:∀ k∈D.hot,C.hot k=true
 gi:∀ q∈D.gi,Jf C q.1 (.int q.2)
 gb:∀ q∈D.gb,Jf C q.1 (.bi q.2)
 cl:∀ q∈D.cl,Jf C q.1 (.cls q.2)
 own:∀ q∈D.own,OwnCls q.1 (C.clv q.2) [.type "ValueError",.type "Exception",.type "BaseException",.type "object"] "ValueError.__new__" mg C.base
 L:Dt C D.cL (KU C K D.cL)
 md:∀ q∈D.md,KU C K D.cL q.1=some (.ref (C.fnv q.2))/\KV C q.2/\bE (.type "object") q.1=pure none
 ats:∀ m∈D.ats,KU C K D.cL m=none/\bE (.type "object") m=pure none
 il:KU C K D.cL "__init__"=some (.ref (C.fnv D.iL))/\KV C D.iL
 tr:∀ q∈D.tr,∃ k,mg q.1=some (.ref (C.clv k))/\∀ c∈q.2,exmOne K (.ref (C.clv c)) (.ref (C.clv k))=some true
 X:Fj C K D.cX (KU C K D.cX)
 ix:KU C K D.cX "__init__"=some (.ref (C.fnv D.iX))/\KV C D.iX
 xa:∀ m∈D.xa,HR K (C.clv D.cX) m
 bs:∀ k∈D.bs,IQ K (C.clv k)
 x1:∀ q∈D.x1,∀ c b,Fh q.2.2 c=some b->Dz K (C.clv c)=true/\kitOne K (.ref (C.clv c)) (q.2.1.val C)=some b
 xt:∀ q∈D.xt,∀ c b,Fh q.2.2 c=some b->Dz K (C.clv c)=true/\kitAny K (.ref (C.clv c)) (q.2.1.map (CT.val C))=some b
abbrev OE(C:Cx)(n:Nat)(S:AN)(e:Expr):Type:=Option {d:DE // SE C (n+1) S e d}
abbrev OEs(C:Cx)(n:Nat)(S:AN)(e:List Expr):Type:=Option {d:List DE // DV C (n+1) S e d}
abbrev OT(C:Cx)(n:Nat)(S:AN)(e:Expr):Type:=Option {d:DT // ST C (n+1) S e d}
abbrev V6(C:Cx)(n:Nat)(S:AN)(o:BoolOp)(e:List Expr):Type:=Option {d:DE // HN C (n+1) S o e d}
abbrev Sm(C:Cx)(n:Nat)(S:AN)(o:BoolOp)(e:List Expr):Type:=Option {d:DT // GB C (n+1) S o e d}
abbrev OS(C:Cx)(n:Nat)(S:AN)(e:eJ):Type:=Option {d:DS // SS C (n+1) S e d}
abbrev V7(C:Cx)(n:Nat)(S:AN)(e:List eJ):Type:=Option {d:DS // EH C (n+1) S e d}
abbrev Dn(C:Cx)(n:Nat):Type:=(∀ S e,OE C n S e)×(∀ S e,OEs C n S e)×(∀ S e,OT C n S e)×(∀ S o e,V6 C n S o e)×(∀ S o e,Sm C n S o e)×(∀ S e,OS C n S e)×(∀ S e,V7 C n S e)
section
variable {C:Cx}{K:aG}{mg mb:aW->Option aC}{D:Ck}{n:Nat}{Φ:As}
noncomputable def Dn.E(R:Dn C n)(S:AN)(e:Expr):OE C n S e:=R.1 S e
noncomputable def Dn.Es(R:Dn C n)(S:AN)(e:List Expr):OEs C n S e:=R.2.1 S e
noncomputable def Dn.T(R:Dn C n)(S:AN)(e:Expr):OT C n S e:=R.2.2.1 S e
noncomputable def Dn.Bs(R:Dn C n)(S:AN)(o:BoolOp)(e:List Expr):V6 C n S o e:=R.2.2.2.1 S o e
noncomputable def Dn.Ts(R:Dn C n)(S:AN)(o:BoolOp)(e:List Expr):Sm C n S o e:=R.2.2.2.2.1 S o e
noncomputable def Dn.St(R:Dn C n)(S:AN)(e:eJ):OS C n S e:=R.2.2.2.2.2.1 S e
noncomputable def Dn.Ss(R:Dn C n)(S:AN)(e:List eJ):V7 C n S e:=R.2.2.2.2.2.2 S e
def Mn(F:Ej C K mg mb D)(S:AN)(x:aW)(pos:dc):OE C n S (.Name x pos) :=
 AT (Ih x) fun H=>Je (Cm (Fd S.Γ x) fun i h=>some ⟨Aa i,SE.loc (Mm h) (Ex H) (V5 H)⟩)
  (AT (DH x S.G) fun g=>Je (Cm (Fd D.gf x) fun v h=>some ⟨Am (.fn v),F.gf (x,v) (HB h) H _ _ _ (Fk g)⟩) (Je (Cm (Fd D.gb x) fun v h=>some ⟨Am (.bi v),F.gb (x,v) (HB h) H _ _ _ (Fk g)⟩) (Je (Cm (Fd D.gi x) fun v h=>some ⟨Am (.int v),F.gi (x,v) (HB h) H _ _ _ (Fk g)⟩) (Cm (Fd D.cl x) fun v h=>some ⟨Am (.cls v),F.cl (x,v) (HB h) H _ _ _ (Fk g)⟩))))
def cEs(R:Dn C n)(S:AN)(s:List Expr):OEs C n S s:=vL (M:=OEs C n S) s (some ⟨[],DV.nil⟩) fun e s=>AT (Et e) fun h=>(R.E S e).bind fun a=>(R.Es S s).bind fun b=>some ⟨a.1::b.1,DV.cons a.2 b.2 fun _=>F9 h⟩
def cBs(R:Dn C n)(S:AN)(o:BoolOp)(s:List Expr):V6 C n S o s:=vL (M:=V6 C n S o) s none fun e s=>(R.E S e).bind fun a=>vL (M:=fun s=>V6 C n S o (e::s)) s (some ⟨a.1,HN.one a.2⟩) fun c s=>match o with
  | .And=>(R.Bs S .And (c::s)).bind fun b=>some ⟨DU a.1 b.1,HN.and a.2 b.2⟩
  | .Or=>(R.Bs S .Or (c::s)).bind fun b=>some ⟨UV a.1 b.1,HN.or a.2 b.2⟩
def cTs(R:Dn C n)(S:AN)(o:BoolOp)(E:List Expr):Sm C n S o E:=vL (M:=Sm C n S o) E none fun e E=>(R.T S e).bind fun a=>match o with
  | .And=>vL (M:=fun E=>Sm C n S .And (e::E)) E (some ⟨a.1,GB.andOne a.2⟩) fun c E=>(R.Ts S .And (c::E)).bind fun b=>some ⟨Gl a.1 b.1,GB.and a.2 b.2⟩
  | .Or=>vL (M:=fun E=>Sm C n S .Or (e::E)) E (some ⟨a.1,GB.orOne a.2⟩) fun c E=>(R.Ts S .Or (c::E)).bind fun b=>some ⟨D8 a.1 b.1,GB.or a.2 b.2⟩
noncomputable def V8{M:List kW->List Expr->Type}(os:List kW)(R:List Expr)(h:∀ os R,M os R)(one:∀ o r,M [o] [r])(two:∀ o O r t,M [o,O] [r,t]):M os R:=match os,R with
 | [o],[r]=>one o r
 | [o,O],[r,t]=>two o O r t
 | os,R=>h os R
def Z2p(F:Ej C K mg mb D)(R:Dn C n)(S:AN)(l:Expr)(pos:dc)(os:List kW)(s:List Expr):OE C n S (.Compare l os s pos):=V8 (M:=fun os s=>OE C n S (.Compare l os s pos)) os s (fun _ _=>none)
 (fun o r=>(HS r).bind fun h=>(R.E S l).bind fun a =>
  (R.E S r).bind fun b=>some ⟨Aw (Ii o).1 a.1 b.1,SE.cmp a.2 b.2 (Ii o).2 (h.1.mark _)⟩
  )
 fun o O r t=>(HS t).bind fun h=>(R.E S l).bind fun a=>(R.E S r).bind fun b=>(R.E S t).bind fun c=>some ⟨DQ (Ii o).1 (Ii O).1 a.1 b.1 c.1,SE.cmp2 a.2 b.2 c.2 (Ii o).2 (Ii O).2 (h.1.mark _)⟩
def Z2q(F:Ej C K mg mb D)(R:Dn C n)(S:AN)(l:Expr)(pos:dc)(os:List kW)(s:List Expr):OT C n S (.Compare l os s pos):=V8 (M:=fun os s=>OT C n S (.Compare l os s pos)) os s (fun _ _=>none)
 (fun o r=>(HS r).bind fun h=>(R.E S l).bind fun a=>(R.E S r).bind fun b=>match D.h S pos,o with
  | 1,.In=>some ⟨Aq (Gk a.1 b.1),ST.hasI F.B a.2 b.2 (h.1.mark _)⟩
  | 2,.In=>some ⟨Aq (Gq a.1 b.1),ST.hasT F.B a.2 b.2 (h.1.mark _)⟩
  | _,o=>some ⟨Aq (Aw (Ii o).1 a.1 b.1),ST.cmp a.2 b.2 (Ii o).2 (h.1.mark _)⟩)
 fun o O r t=>(HS t).bind fun h=>(R.E S l).bind fun a=>(R.E S r).bind fun b=>(R.E S t).bind fun c=>some ⟨Aq (DQ (Ii o).1 (Ii O).1 a.1 b.1 c.1),ST.cmp2 a.2 b.2 c.2 (Ii o).2 (Ii O).2 (h.1.mark _)⟩
def Jg(R:Dn C n)(S:AN)(e:Expr):OT C n S e:=(siE e).bind fun h=>(R.E S e).bind fun a=>some ⟨Aq a.1,ST.val a.2 h.1.tp⟩
def cT(F:Ej C K mg mb D)(R:Dn C n)(S:AN)(e:Expr):OT C n S e:=vE (M:=OT C n S) e (fun _=>none) (fun _ _ _=>none) (fun _ _=>Jg R S _) (fun _ _ _ _=>Jg R S _)
 (fun o x _=>match o with
  | .Not=>(R.T S x).bind fun a=>some ⟨BU a.1,ST.not a.2⟩
  | _=>none)
 (fun o E _=>(R.Ts S o E).bind fun a=>some ⟨a.1,ST.boolOp a.2⟩) (fun l os r pos=>Z2q F R S l pos os r) (fun _ _ _=>none) (fun _ _ _=>none) (fun _ _=>none) (fun _ _ _ _=>none) (fun _ _ _=>Jg R S _) (fun _ _ _=>Jg R S _) (fun _ _ _ _=>Jg R S _) fun _ _ _ _=>none
def cP(R:Dn C n)(S:AN)(x:Option Expr):Option {d:Option DE // SP C (n+1) S x d}:=vO (M:=fun x=>Option {d:Option DE // SP C (n+1) S x d}) x (some ⟨none,SP.none⟩) fun e=>(R.E S e).bind fun a=>some ⟨some a.1,SP.some a.2⟩
def Z2r(R:Dn C n)(S:AN)(E:List Expr):Option {d:DT // Gy C (n+1) S E d}:=vL (M:=fun E=>Option {d:DT // Gy C (n+1) S E d}) E (some ⟨Ch,Gy.none⟩) fun e E=>vL (M:=fun E=>Option {d:DT // Gy C (n+1) S (e::E) d}) E ((R.T S e).bind fun a=>some ⟨a.1,Gy.one a.2⟩) fun _ _=>none
def Mo{β:Type}(D:Ck)(R:Dn C n)(S:AN)(e iter:Expr)(ifs:List Expr)(scope:ec)(x:aW)(pos:dc)(f:∀ s k it d t,SE C (n+1) S iter it->CW S s scope x k->SE C (n+1) s e d->Gy C (n+1) s ifs t->S.calm=true->(∀ v x,c9 iter v x=pure x)->Option β):Option β :=
 (Sl D.comp (key pos)).bind fun q=>AT (Zdw S q.1 scope x q.2) fun H=>AT S.calm fun h=>(HS iter).bind fun p =>
  (R.E S iter).bind fun i=>(R.E q.1 e).bind fun d=>(Z2r R q.1 ifs).bind fun t=>f q.1 q.2 i.1 d.1 t.1 i.2 (CW.of H) d.2 t.2 h p.1.fold
def V9{M:List Comprehension->Type}(gs:List Comprehension)(o:∀ gs,M gs)(f:∀ x p iter ifs,M [⟨.Name x p,iter,ifs,0⟩]):M gs:=match gs with
 | [⟨t,iter,ifs,0⟩]=>FL (M:=fun t=>M [⟨t,iter,ifs,0⟩]) t (fun _=>o _) fun x p=>f x p iter ifs
 | gs=>o gs
def KW(F:Ej C K mg mb D)(S:AN)(x:aW)(p:dc):Option {c:Nat // SE C (n+1) S (.Name x p) (Am (.cls c))} :=
 AT (Ih x) fun H=>AT (DH x S.G) fun h=>Cm (Fd D.cl x) fun v a=>some ⟨v,F.cl (x,v) (HB a) H _ _ _ (Fk h)⟩
def cBI(F:Ej C K mg mb D)(S:AN)(x:aW)(p:dc):Option {b:BI // SE C (n+1) S (.Name x p) (Am (.bi b))} :=
 AT (Ih x) fun H=>AT (DH x S.G) fun h=>Cm (Fd D.gb x) fun v a=>some ⟨v,F.gb (x,v) (HB a) H _ _ _ (Fk h)⟩
def Jh(F:Ej C K mg mb D)(S:AN)(x:aW)(p:dc)(b:BI):Option (PLift (SE C (n+1) S (.Name x p) (Am (.bi b)))):=(cBI F S x p).bind fun q=>AT (decide (q.1=b)) fun h=>some ⟨of_decide_eq_true h▸q.2⟩
def cCT(F:Ej C K mg mb D)(S:AN)(e:Expr)(t:CT):Option (PLift (SE C (n+1) S e (Am t.av))):=FL (M:=fun e=>Option (PLift (SE C (n+1) S e (Am t.av)))) e (fun _=>none) fun x p=>match t with
 | .own k=>(KW F S x p).bind fun c=>AT (dD c.1 k) fun h=>some ⟨cA h▸c.2⟩
 | .bi b=>(Jh F S x p b).bind fun h=>some ⟨h.1⟩
def Z2s(F:Ej C K mg mb D)(S:AN)(E:List Expr)(T:List CT):Option (PLift (DV C (n+1) S E (T.map fun t=>Am t.av))):=dT (motive:=fun E=>∀ T:List CT,Option (PLift (DV C (n+1) S E (T.map fun t=>Am t.av))))
 (fun T=>vL (M:=fun T=>Option (PLift (DV C (n+1) S [] (T.map fun t=>Am t.av)))) T (some ⟨DV.nil⟩) fun _ _=>none)
 (fun e E i T=>vL (M:=fun T=>Option (PLift (DV C (n+1) S (e::E) (T.map fun t=>Am t.av)))) T none fun t T=>AT (Et e) fun h=>(cCT F S e t).bind fun a=>(i T).bind fun b=>some ⟨DV.cons a.1 b.1 fun _=>F9 h⟩) E T
def Z2t(F:Ej C K mg mb D)(S:AN)(E:List Expr):Option {T:List BI // DV C (n+1) S E (T.map fun t=>Am (.bi t))}:=dT (some ⟨[],DV.nil⟩)
 (fun e E i=>FL (M:=fun e=>Option {T:List BI // DV C (n+1) S (e::E) (T.map fun t=>Am (.bi t))}) e (fun _=>none) fun x p=>(cBI F S x p).bind fun a=>i.bind fun b=>some ⟨a.1::b.1,DV.cons a.2 b.2 fun _=>F9 rfl⟩) E
def Z2u(F:Ej C K mg mb D)(R:Dn C n)(S:AN)(x:aW)(p pos:dc)(s:List Expr):OE C n S (.Call (.Name x p) s [] pos):=AT (s.all Et) fun H=>match s,H with
 | [e],H=>(R.E S e).bind fun a=>pk (D.h S pos) [none,
   (Jh F S x p .list).bind fun f=>some ⟨D4 a.1,SE.newC f.1 a.2 (fun _=>rfl) (fun _=>F9 (HT H)) (fun _=>HM H)⟩
   ,(Jh F S x p .len).bind fun f=>some ⟨EC a.1,SE.lenT F.B f.1 a.2 (fun _=>rfl) (fun _=>F9 (HT H)) (fun _=>HM H)⟩
   ,none,none
   ,none
   ]
 | [e,.Tuple s k tp],H=>(Jh F S x p .isinstance).bind fun f=>(R.E S e).bind fun a=>pk (D.h S pos) [none,none,none,none,none,none,none,
   (Z2t F S s).bind fun b=>match b with
    | ⟨t::T,h⟩=>AT (gA (t::T).length 1048576) fun l=>some ⟨Gz a.1 (t::T),SE.isiT f.1 a.2 h (fun _=>rfl) (fun _=>F9 (HT H)) (fun _=>HM H) (bb l)⟩
    | _=>none
   ,Cm (Sl D.xt (key pos)) fun q c=>(Z2s F S s q.1).bind fun b=>AT (gA q.1.length 1048576) fun l=>some ⟨CU (Fh q.2) a.1,SE.isiXT F.kin f.1 a.2 b.1 (F.xt _ (Zky c)) (fun _=>rfl) (fun _=>F9 (HT H)) (fun _=>HM H) (bb l)⟩
   ]
 | [e,t],H=>(Jh F S x p .isinstance).bind fun f=>(R.E S e).bind fun a=>Cm (Sl D.x1 (key pos)) fun q c=>(cCT F S t q.1).bind fun b=>some ⟨CU (Fh q.2) a.1,SE.isiX1 F.kin f.1 a.2 b.1 (F.x1 _ (Zky c)) (fun _=>rfl) (fun _=>F9 (HT H)) (fun _=>F9 (HT (Zk1 H))) (fun _=>HM H)⟩
 | _,_=>none
def VA(F:Ej C K mg mb D)(S:AN)(x:aW)(p:dc):Option {d:DE // SE C (n+1) S (.Name x p) d/\GQ C S d}:=Je (AT S.calm fun b=>(Mn F S x p).bind fun f=>some ⟨f.1,f.2,.inl b⟩)
 (AT (Ih x) fun a=>AT (DH x S.G) fun H=>Je (Cm (Fd D.gf x) fun v h=>AT (D.hot.contains v) fun e=>some ⟨Am (.fn v),F.gf (x,v) (HB h) a _ _ _ (Fk H),.inr (.inl ⟨v,rfl,F.hot v (fV.mp e)⟩)⟩)
  (Cm (Fd D.gb x) fun v h=>AT v.cool fun c=>some ⟨Am (.bi v),F.gb (x,v) (HB h) a _ _ _ (Fk H),.inr (.inr ⟨v,rfl,c⟩)⟩))
def Z2v(F:Ej C K mg mb D)(S:AN)(x:aW)(p:dc):Option {d:DE // SE C (n+1) S (.Name x p) d/\GQ C S d}:=AT S.calm fun H=>AT (Ih x) fun a=>AT (DH x S.G) fun g=>Cm (Fd D.ga x) fun v h=>some ⟨Am (.fn v),F.ga (x,v) (HB h) a _ _ _ (Fk g),.inl H⟩
def QC(F:Ej C K mg mb D)(hF₀:FS C Φ n)(R:Dn C n)(S:AN)(x:aW)(p pos:dc)(e:Expr)(E:List Expr):OE C n S (.Call (.Name x p) (e::E) [] pos) :=
 Je (AT ((e::E).all Et) fun H=>(R.Es S (e::E)).bind fun a=>pk (D.h S pos) [(VA F S x p).bind fun f=>some ⟨Cz Φ f.1 a.1,SE.callF hF₀.up f.2.1 a.2 (fun _=>rfl) (fun _=>F9 (HT H)) (fun _=>HM H) f.2.2⟩,none,none
  ,AT S.calm fun b=>(KW F S x p).bind fun c=>AT (dD c.1 D.cL) fun d=>some ⟨Ft Φ D.cL D.iL a.1,SE.newI F.L hF₀ (cA d▸c.2) a.2 F.il.1 F.il.2 (fun _=>rfl) (fun _=>F9 (HT H)) (fun _=>HM (Zk1 H)) b⟩
  ,AT S.calm fun b=>(KW F S x p).bind fun c=>AT (dD c.1 D.cX) fun d=>AT (gA a.1.length 1048576) fun l=>some ⟨G1 Φ D.cX D.iX a.1,SE.newX F.X hF₀ (cA d▸c.2) a.2 F.ix.1 F.ix.2 (fun _=>rfl) (fun _=>F9 (HT H)) (fun _=>HM (Zk1 H)) (bb l) b⟩
  ,none,none,none,none,(Z2v F S x p).bind fun f=>some ⟨Cz Φ f.1 a.1,SE.callF hF₀.up f.2.1 a.2 (fun _=>rfl) (fun _=>F9 (HT H)) (fun _=>HM H) f.2.2⟩
  ]) (
  Z2u F R S x p pos (e::E)
  )
theorem Zk2{a:List Expr}{pos:dc}(h:a.all Et=true):∀ (M:Model) (A:bY) (v:f3) (f:aC) (Q:Args->aE->Prop) (E:aC->aE->Prop) (s:aE),wpAny M A (spliced (backTo pos (starEach a v))) (fun vs S=>Q ⟨vs,[]⟩ S) E s->wpAny M A (evalArgs f true (backTo pos (starEach a v)) []) Q E s:=by
 cases a with
 | nil=>exact Zgc
 | cons e a=>exact Zgd fun _=>F9 (HT h)
def HC(R:Dn C n)(S:AN)(o:Expr)(m:aW)(A pos:dc)(e:Expr)(c:List Expr)(d:(e::c).all Et=true)(l:gA (e::c).length 29=true)(hb:Ab o)(H:(A.endLine == pos.line)=true){id:String}{nm:aW}{f:List AV->List AV->Option (List AV)}(s:Slot "list" nm id)(y:typeOf (.builtin id)=pure (.type "method_descriptor"))(h:Ee C (n+1) id f):OE C n S (.Call (.Attribute o m A) (e::c) [] pos) :=
 AT (Fast.sEq m nm) fun g=>(R.E S o).bind fun a=>(R.Es S (e::c)).bind fun b=>some ⟨Cq f a.1 b.1,Fast.sEq_iff.mp g▸SE.meth s y h a.2 b.2 (hb _) (ET d l) (fun _=>F9 (HT d)) (fun _=>HM d) H⟩
def QD(F:Ej C K mg mb D)(hF₀:FS C Φ n)(R:Dn C n)(S:AN)(o:Expr)(m:aW)(A pos:dc)(s:List Expr):OE C n S (.Call (.Attribute o m A) s [] pos) :=
 AT (s.all Et) fun d=>AT (gA s.length 29) fun l=>(abE o).bind fun hb=>AT (A.endLine == pos.line) fun H =>
  Je (AT (dD (D.h S pos) 0) fun _=>AT S.calm fun i=>Cm (Fd D.md m) fun k g=>(R.E S o).bind fun a=>(R.Es S s).bind fun b=>some ⟨BD Φ D.cL m k a.1 b.1,
   SE.callM F.L hF₀.up a.2 b.2 (F.md _ (HB g)).1 (F.md _ (HB g)).2.1 (F.md _ (HB g)).2.2 (hb.1 m) (ET d l) (Zk2 d) H i⟩)
  (vL (M:=fun s=>s.all Et=true->gA s.length 29=true->OE C n S (.Call (.Attribute o m A) s [] pos)) s
   (fun _ _=>(R.E S o).bind fun a=>Je (AT (Fast.sEq m "clear") fun f=>some ⟨Cr EE a.1,Fast.sEq_iff.mp f▸SE.methR ja PySem.F.type_list_clear Zkl a.2 (hb.1 _) (ET rfl rfl) H⟩)
    (AT (Fast.sEq m "pop") fun f=>some ⟨Cr HL a.1,Fast.sEq_iff.mp f▸SE.methR jK PySem.F.type_list_pop V4 a.2 (hb.1 _) (ET rfl rfl) H⟩))
   (fun e s d l=>pk (D.h S pos) [none,
   HC R S o m A pos e s d l hb.1 H PySem.slot_list_append PySem.F.type_list_append Zcx,
   FL (M:=fun o=>Ab o->OE C n S (.Call (.Attribute o m A) (e::s) [] pos)) o (fun _ _=>none) (fun x p hb=>AT (Fast.sEq m "__init__") fun f=>(KW F S x p).bind fun c=>AT (D.bs.contains c.1) fun j=>(R.Es S (e::s)).bind fun b=>some ⟨FF D.cX b.1,
     Fast.sEq_iff.mp f▸SE.initX F.X (F.bs c.1 (fV.mp j)) c.2 b.2 (hb _) (ET d l) (fun _=>F9 (HT d)) (fun _=>HM d) H⟩) hb.1,
   HC R S o m A pos e s d l hb.1 H iD PySem.F.type_list_insert Zcy
   ,HC R S o m A pos e s d l hb.1 H iK PySem.F.type_list_extend Zkn
   ,HC R S o m A pos e s d l hb.1 H iM PySem.F.type_list_remove Zkt
   ]) d l)
def Z2w(D:Ck)(R:Dn C n)(S:AN)(v i:Expr)(pos:dc):OE C n S (.Subscript v i pos):=(HS i).bind fun h=>(R.E S v).bind fun a=>(R.E S i).bind fun b=>pk (D.h S pos) [some ⟨Aj a.1 b.1,SE.sub a.2 b.2 h.1.sub⟩,
 some ⟨Hp a.1 b.1,SE.getI a.2 b.2 h.1.sub⟩
 ,some ⟨EB a.1 b.1,SE.getT a.2 b.2 h.1.sub⟩
 ,some ⟨BC a.1 b.1,SE.getN a.2 b.2 h.1.sub⟩
 ]
def cDs(R:Dn C n)(S:AN)(K:List (Option Expr))(v:List Expr):Option {q:List aW×List DE // H9 C (n+1) S K v q.1 q.2}:=dT (motive:=fun K=>∀ v:List Expr,Option {q:List aW×List DE // H9 C (n+1) S K v q.1 q.2})
 (fun v=>vL (M:=fun v=>Option {q:List aW×List DE // H9 C (n+1) S [] v q.1 q.2}) v (some ⟨([],[]),H9.nil⟩) fun _ _=>none)
 (fun k ks i v=>vL (M:=fun v=>Option {q:List aW×List DE // H9 C (n+1) S (k::ks) v q.1 q.2}) v none fun e s=>vO (M:=fun k=>Option {q:List aW×List DE // H9 C (n+1) S (k::ks) (e::s) q.1 q.2}) k none fun b =>
  vE (M:=fun b=>Option {q:List aW×List DE // H9 C (n+1) S (some b::ks) (e::s) q.1 q.2}) b (fun _=>none) (fun c _ _=>match c with
   | .str x=>(R.E S e).bind fun a=>(i s).bind fun q=>some ⟨(x::q.1.1,a.1::q.1.2),H9.cons a.2 q.2⟩
   | _=>none) (fun _ _=>none) (fun _ _ _ _=>none) (fun _ _ _=>none) (fun _ _ _=>none) (fun _ _ _ _=>none) (fun _ _ _=>none) (fun _ _ _=>none) (fun _ _=>none) (fun _ _ _ _=>none) (fun _ _ _=>none) (fun _ _ _=>none) (fun _ _ _ _=>none) fun _ _ _ _=>none) K v
def cE(F:Ej C K mg mb D)(hF₀:FS C Φ n)(R:Dn C n)(S:AN)(e:Expr):OE C n S e:=vE (M:=OE C n S) e (fun _=>none)
 (fun c _ _=>match c with
  | .none=>some ⟨_,SE.cstNone⟩
  | .bool _=>some ⟨_,SE.cstBool⟩
  | .int _=>some ⟨_,SE.cstInt⟩
  | .str _=>some ⟨_,SE.cstStr⟩
  | _=>none)
 (fun x pos=>Mn F S x pos)
 (fun l o r pos=>(R.E S l).bind fun a=>(R.E S r).bind fun b=>match D.h S pos,o with
  | 2,.Add=>some ⟨EG .add a.1 b.1,SE.binN a.2 b.2 (.inl rfl) rfl⟩
  | 3,.Mult=>some ⟨EG .rep a.1 b.1,SE.binN a.2 b.2 (.inr rfl) rfl⟩
  | h,o=>(bop h o).bind fun q=>some ⟨Ap q.1 a.1 b.1,SE.bin F.B a.2 b.2 q.2⟩)
 (fun o x _=>(R.E S x).bind fun a=>match o with
  | .Not=>some ⟨GK (Aq a.1),SE.not a.2⟩
  | .USub=>some ⟨Fe a.1,SE.neg a.2⟩
  | _=>none)
 (fun o s _=>(R.Bs S o s).bind fun a=>some ⟨a.1,SE.boolOp a.2⟩)
 (fun l os I pos=>Z2p F R S l pos os I)
 (fun ks vs pos=>vL (M:=fun ks=>OE C n S (.Dict ks vs pos)) ks (vL (M:=fun vs=>OE C n S (.Dict [] vs pos)) vs (pk (D.h S pos) [some ⟨Gi,SE.newD⟩,some ⟨Gj,SE.newS⟩]) fun _ _=>none) fun k ks=>(cDs R S (k::ks) vs).bind fun q=>AT (gA (k::ks).length 15) fun h=>some ⟨Hr q.1.1 q.1.2,SE.newN q.2 (List.cons_ne_nil _ _) (bb h)⟩)
 (fun s _ _=>(R.Es S s).bind fun a=>AT (gA a.1.length 1048576) fun h=>some ⟨Az a.1,SE.tup a.2 (bb h)⟩)
 (fun s pos=>(R.Es S s).bind fun a=>AT (gA a.1.length 1048576) fun h=>pk (D.h S pos) [some ⟨B3 a.1,SE.lst a.2 (bb h)⟩,some ⟨Di a.1,SE.newL a.2 (bb h)⟩])
 (fun _ _ _ _=>none)
 (fun v i pos=>Je (Z2w D R S v i pos) (vE (M:=fun i=>OE C n S (.Subscript v i pos)) i (fun _=>none) (fun _ _ _=>none) (fun _ _=>none) (fun _ _ _ _=>none) (fun _ _ _=>none) (fun _ _ _=>none) (fun _ _ _ _=>none) (fun _ _ _=>none) (fun _ _ _=>none) (fun _ _=>none)
  (fun lo H st p=>vO (M:=fun st=>OE C n S (.Subscript v (.Slice lo H st p) pos)) st ((R.E S v).bind fun a=>(cP R S lo).bind fun b=>(cP R S H).bind fun c=>some ⟨HQ a.1 b.1 c.1,SE.slc a.2 b.2 c.2 fun _ _=>rfl⟩)
   fun _=>none
   ) (fun _ _ _=>none) (fun _ _ _=>none) (fun _ _ _ _=>none) fun _ _ _ _=>none))
 (fun o m pos=>FL (M:=fun o=>OE C n S (.Attribute o m pos)) o (fun _=>none) fun x p=>(R.E S (.Name x p)).bind fun a=>pk (D.h S pos) [AT (DH m D.ats) fun h=>some ⟨BM D.cL m a.1,SE.attr F.L a.2 (F.ats m (Fk h)).1 (F.ats m (Fk h)).2 (fun _=>rfl)⟩
  ,AT (DH m D.xa) fun h=>some ⟨FE D.cX m a.1,SE.attrX F.X a.2 (F.xa m (Fk h)).nn (fun _=>rfl)⟩
  ])
 (fun f s ks pos=>vL (M:=fun ks=>OE C n S (.Call f s ks pos)) ks (vE (M:=fun f=>OE C n S (.Call f s [] pos)) f (fun _=>none) (fun _ _ _=>none) (fun x p=>vL (M:=fun s=>OE C n S (.Call (.Name x p) s [] pos)) s none fun e s=>QC F hF₀ R S x p pos e s)
  (fun _ _ _ _=>none) (fun _ _ _=>none) (fun _ _ _=>none) (fun _ _ _ _=>none) (fun _ _ _=>none) (fun _ _ _=>none) (fun _ _=>none) (fun _ _ _ _=>none) (fun _ _ _=>none) (fun o m A=>QD F hF₀ R S o m A pos s) (fun _ _ _ _=>none) fun _ _ _ _=>none) fun _ _=>none)
 fun g G scope pos=>V9 (M:=fun G=>OE C n S (.ListComp g G scope pos)) G (fun _=>none) fun x p iter ifs=>Mo D R S g iter ifs scope x pos fun _ k it d t H j w z u y=>some ⟨Cl d t k it,SE.comp H j w z u y⟩
def cNs(S:AN)(E:List Expr):Option {is:List Nat // Id S E is}:=dT (some ⟨[],.nil⟩) (fun e E I=>FL (M:=fun e=>Option {is:List Nat // Id S (e::E) is}) e (fun _=>none) fun x p=>Cm (Fd S.Γ x) fun i h=>I.bind fun q=>some ⟨i::q.1,.cons (Mm h) q.2⟩) E
def vTg{M:Expr->Type}(e:Expr)(O:∀ e,M e)(n:∀ x p,M (.Name x p))(tup:∀ E k p,M (.Tuple E k p))(sub:∀ v i p,M (.Subscript v i p))(a:∀ o m p,M (.Attribute o m p)):M e:=vE e O (fun _ _ _=>O _) n (fun _ _ _ _=>O _) (fun _ _ _=>O _) (fun _ _ _=>O _) (fun _ _ _ _=>O _) (fun _ _ _=>O _) tup (fun _ _=>O _) (fun _ _ _ _=>O _) sub a (fun _ _ _ _=>O _) fun _ _ _ _=>O _
def cTg(C:Cx)(S:AN)(t:Expr):Option {g:Tg // TG C S t g/\LG t}:=vTg (M:=fun t=>Option {g:Tg // TG C S t g/\LG t}) t (fun _=>none)
 (fun x _=>Cm (Fd S.Γ x) fun i h=>some ⟨.one i,TG.one (Mm h),LG.name⟩)
 (fun e _ _=>(cNs S e).bind fun q=>some ⟨.many q.1,TG.many q.2,LG.tuple⟩)
 (fun _ _ _=>none) fun _ _ _=>none
def Z2x(F:Ej C K mg mb D)(R:Dn C n)(S:AN)(t e:Expr)(pos:dc):OS C n S (.Assign [t] e pos):=vTg (M:=fun t=>OS C n S (.Assign [t] e pos)) t (fun _=>none)
 (fun x p=>Cm (Fd S.Γ x) fun i h =>
  Je (
  (HS e).bind fun H=>(R.E S e).bind fun a=>some ⟨AG i a.1,SS.asg a.2 (Mm h) fun _=>H.1.swap _ _ _⟩
  ) (vE (M:=fun e=>OS C n S (.Assign [.Name x p] e pos)) e (fun _=>none) (fun _ _ _=>none) (fun _ _=>none) (fun _ _ _ _=>none) (fun _ _ _=>none) (fun _ _ _=>none) (fun _ _ _ _=>none) (fun _ _ _=>none) (fun _ _ _=>none) (fun _ _=>none) (fun _ _ _ _=>none) (fun _ _ _=>none) (fun _ _ _=>none) (fun _ _ _ _=>none) fun g G scope l=>V9 (M:=fun G=>OS C n S (.Assign [.Name x p] (.ListComp g G scope l) pos)) G (fun _=>none) fun y _ iter ifs=>Mo D R S g iter ifs scope y l fun _ k it d t j r u z f v=>pk (D.h S pos) [some ⟨AG i (Cl d t k it),SS.asgC j r u z (Mm h) f v⟩,some ⟨AG i (F7 d t k it),SS.asgU j r u z (Mm h) f v⟩])
  )
 (fun s k tp=>(HS e).bind fun H=>(siE e).bind fun w=>AT S.calm fun f=>(R.E S e).bind fun c=>pk (D.h S pos) [(cNs S s).bind fun q=>some ⟨EJ (.many q.1) c.1,SS.asgT (TG.many q.2) c.2 f (fun _=>H.1.sole _ _) fun _=>w.1.nt _ _ _ _⟩
  ,vL (M:=fun s=>OS C n S (.Assign [.Tuple s k tp] e pos)) s none fun t s=>vTg (M:=fun t=>OS C n S (.Assign [.Tuple (t::s) k tp] e pos)) t (fun _=>none) (fun _ _=>none) (fun _ _ _=>none) (fun _ _ _=>none) fun o m A=>vL (M:=fun s=>OS C n S (.Assign [.Tuple (.Attribute o m A::s) k tp] e pos)) s none fun t s=>vL (M:=fun s=>OS C n S (.Assign [.Tuple (.Attribute o m A::t::s) k tp] e pos)) s (FL (M:=fun t=>OS C n S (.Assign [.Tuple [.Attribute o m A,t] k tp] e pos)) t (fun _=>none) fun x N =>
   AT (DH m D.ats) fun h=>Cm (Fd S.Γ x) fun i j=>(R.E S o).bind fun a=>some ⟨FG D.cL m a.1 i c.1,SS.asgTA F.L (F.ats m (Fk h)).1 (F.ats m (Fk h)).2 a.2 c.2 (Mm j) f (fun _=>rfl) rfl (fun _=>H.1.sole _ _) fun _=>w.1.nt _ _ _ _⟩) fun _ _=>none
  ,(cNs S s).bind fun q=>some ⟨Hs q.1 c.1,SS.asgL q.2 c.2 f (fun _=>H.1.sole _ _) fun _=>w.1.nt _ _ _ _⟩
  ])
 (fun o i _=>(HS e).bind fun H=>(R.E S o).bind fun a=>(R.E S i).bind fun b=>(R.E S e).bind fun c=>pk (D.h S pos) [some ⟨Cb a.1 b.1 c.1,SS.store a.2 b.2 c.2 fun _=>H.1.swap _ _ _⟩,
  some ⟨Gp a.1 b.1 c.1,SS.putI a.2 b.2 c.2 fun _=>H.1.swap _ _ _⟩
  ,some ⟨Gr a.1 b.1 c.1,SS.putT a.2 b.2 c.2 fun _=>H.1.swap _ _ _⟩
  ,some ⟨CD a.1 b.1 c.1,SS.putN a.2 b.2 c.2 fun _=>H.1.swap _ _ _⟩
  ])
 fun o m _=>(HS e).bind fun H=>(R.E S o).bind fun a=>(R.E S e).bind fun c=>pk (D.h S pos) [AT (DH m D.ats) fun h=>some ⟨CF D.cL m a.1 c.1,SS.putA F.L a.2 c.2 (F.ats m (Fk h)).1 (F.ats m (Fk h)).2 fun _=>H.1.swap _ _ _⟩,
  AT (DH m D.xa) fun h=>some ⟨Hy D.cX m a.1 c.1,SS.putX F.X (F.xa m (Fk h)) a.2 c.2 fun _=>H.1.swap _ _ _⟩]
def Z2y(F:Ej C K mg mb D)(R:Dn C n)(S:AN)(e:Expr)(x:aW)(nm:Option aW)(c:eJ)(b:List eJ)(s p H pos:dc):OS C n S (.Try [.Expr e s] [.ExceptHandler (some (.Name x p)) nm (c::b) H] [] [] pos) :=
 (HS e).bind fun o=>AT (Ih x) fun m=>AT (DH x S.G) fun k=>Cm (Fd D.tr x) fun f j=>(R.E S e).bind fun a=>(R.Ss { S with calm:=false } (c::b)).bind fun d=>vO (M:=fun nm=>OS C n S (.Try [.Expr e s] [.ExceptHandler (some (.Name x p)) nm (c::b) H] [] [] pos)) nm
  none
  fun N=>Cm (Fd S.Γ N) fun i l=>AT (DH N S.L) fun g=>some ⟨EA a.1 f i d.1,(F.tr _ (HB j)).elim fun _ h=>SS.try_ F.B F.kin a.2 (Fk k) h.1 h.2 (Mm l) (Fk g) d.2 (Ex m) fun _=>o.1.swap _ _ _⟩
def QE(F:Ej C K mg mb D)(R:Dn C n)(S:AN)(e:Expr)(pos:dc):OS C n S (.Raise (some e) none pos):=AT S.calm fun H=>pk (D.h S pos) [
 vE (M:=fun e=>OS C n S (.Raise (some e) none pos)) e (fun _=>none) (fun _ _ _=>none) (fun _ _=>none) (fun _ _ _ _=>none) (fun _ _ _=>none) (fun _ _ _=>none) (fun _ _ _ _=>none) (fun _ _ _=>none) (fun _ _ _=>none) (fun _ _=>none) (fun _ _ _ _=>none) (fun _ _ _=>none) (fun _ _ _=>none)
  (fun f s ks d=>FL (M:=fun f=>OS C n S (.Raise (some (.Call f s ks d)) none pos)) f (fun _=>none) fun x p=>match s,ks with
   | [e],[]=>AT (Et e) fun b=>AT (Ih x) fun j=>AT (DH x S.G) fun i=>Cm (Fd D.own x) fun c g=>(R.E S e).bind fun a=>some ⟨Db c a.1,SS.raise F.B (F.own _ (HB g)) (Fk i) a.2 H (Ex j) (fun _=>F9 b) fun _=>HM (by rw[eI,b];rfl)⟩
   | _,_=>none) fun _ _ _ _=>none
 ,(R.E S e).bind fun a=>some ⟨Se D.cX a.1,SS.raiseX F.X a.2 H⟩
 ]
noncomputable def vS{M:eJ->Type}(st:eJ)(O:∀ st,M st)(ret:∀ v p,M (.Return v p))(I:∀ t b o p,M (.If t b o p))(E:∀ e p,M (.Expr e p))(w:∀ t b o p,M (.While t b o p))(fo:∀ t i b o p,M (.For t i b o p))(asg:∀ t e p,M (.Assign t e p))(r:∀ e c p,M (.Raise e c p))(tr:∀ b h o f p,M (.Try b h o f p)):M st:=match st with
 | .Return v p=>ret v p
 | .If t b o p=>I t b o p
 | .Expr e p=>E e p
 | .While t b o p=>w t b o p
 | .For t i b o p=>fo t i b o p
 | .Assign t e p=>asg t e p
 | .Raise e c p=>r e c p
 | .Try b h o f p=>tr b h o f p
 | st=>O st
def cS(F:Ej C K mg mb D)(R:Dn C n)(S:AN)(st:eJ):OS C n S st:=vS (M:=OS C n S) st (fun _=>none)
 (fun v p=>vO (M:=fun v=>OS C n S (.Return v p)) v (some ⟨_,SS.ret0⟩) fun e=>(R.E S e).bind fun a=>some ⟨Av a.1,SS.ret a.2⟩)
 (fun t b o _=>(R.T S t).bind fun c=>(R.Ss S b).bind fun x=>(R.Ss S o).bind fun y=>some ⟨Bo c.1 x.1 y.1,SS.ifs c.2 x.2 y.2⟩)
 (fun e _=>(HS e).bind fun h=>(R.E S e).bind fun a=>some ⟨Bj a.1,SS.expr a.2 fun _=>h.1.swap _ _ _⟩)
 (fun t b o p=>vL (M:=fun o=>OS C n S (.While t b o p)) o ((R.T S t).bind fun c=>(R.Ss S b).bind fun x=>some ⟨E8 c.1 x.1,SS.while_ c.2 x.2⟩) fun _ _=>none)
 (fun t i b o p=>vL (M:=fun o=>OS C n S (.For t i b o p)) o (AT S.calm fun j=>(HS i).bind fun l=>(cTg C S t).bind fun g=>(R.E S i).bind fun a=>(R.Ss S b).bind fun x=>some ⟨Da g.1 a.1 x.1,SS.for_ g.2.1 g.2.2 a.2 x.2 j l.1.fold⟩) fun _ _=>none)
 (fun d e p=>vL (M:=fun d=>OS C n S (.Assign d e p)) d none fun t d=>vL (M:=fun d=>OS C n S (.Assign (t::d) e p)) d (Z2x F R S t e p) fun _ _=>none)
 (fun e c p=>vO (M:=fun e=>OS C n S (.Raise e c p)) e none fun e=>vO (M:=fun c=>OS C n S (.Raise (some e) c p)) c (QE F R S e p) fun _=>none)
 fun b h o f p=>match b,h,o,f with
  | [b],[.ExceptHandler (some t) nm (k::B) H],[],[]=>vS (M:=fun b=>OS C n S (.Try [b] [.ExceptHandler (some t) nm (k::B) H] [] [] p)) b (fun _=>none) (fun _ _=>none) (fun _ _ _ _=>none) (fun e s=>FL (M:=fun t=>OS C n S (.Try [.Expr e s] [.ExceptHandler (some t) nm (k::B) H] [] [] p)) t (fun _=>none) fun x N=>Z2y F R S e x nm k B s N H p) (fun _ _ _ _=>none) (fun _ _ _ _ _=>none) (fun _ _ _=>none) (fun _ _ _=>none) fun _ _ _ _ _=>none
  | _,_,_,_=>none
def cSs(R:Dn C n)(S:AN)(s:List eJ):V7 C n S s:=vL (M:=V7 C n S) s (some ⟨AC,EH.nil⟩) fun st r=>(R.St S st).bind fun a=>vL (M:=fun r=>V7 C n S (st::r)) r (some ⟨a.1,EH.one a.2⟩) fun c r=>(R.Ss S (c::r)).bind fun b=>some ⟨Ai a.1 b.1,EH.cons a.2 b.2⟩
def VB(F:Ej C K mg mb D)(hF₀:FS C Φ n)(k:Nat):Dn C n:=mE ⟨fun _ _=>none,fun _ _=>none,fun _ _=>none,fun _ _ _=>none,fun _ _ _=>none,fun _ _=>none,fun _ _=>none⟩
 (fun _ R=>⟨cE F hF₀ R,cEs R,cT F R,cBs R,cTs R,cS F R,cSs R⟩) k
def chk(F:Ej C K mg mb D)(hF₀:FS C Φ n)(S:AN)(b:List eJ):Option DS:=((VB F hF₀ 200).Ss S b).map (·.1)
theorem QF{F:Ej C K mg mb D}{hF₀:FS C Φ n}{S:AN}{b:List eJ}{d:DS}(h:chk F hF₀ S b=some d):EH C (n+1) S b d:=by
 unfold chk at h
 cases q:(VB F hF₀ 200).Ss S b with
 | none=>rw[q] at h;injection h
 | some a=>rw[q] at h;obtain rfl:=inj h;exact a.2
abbrev bmx:List aC:=[.type "ValueError",.type "Exception",.type "BaseException",.type "object"]
def mdB(K:aG)(f:Nat->aF)(c:aF)(m:aW)(k:Nat):Bool:=GT K c m&&(Ql K (GC K c m)&&dD (f k) (GC K c m))
def ckK(K:aG)(f c:Nat->aF)(D:Ck):Bool :=
 (D.gf++D.ga).all (fun q=>Ds K q.1&&dD (Ad K q.1) (f q.2))&&(D.cl.all (fun q=>Ds K q.1&&dD (Ad K q.1) (c q.2))&&(D.gi.all (fun q=>Zea K q.1 q.2)&&(D.gb.all (fun q=>Zd7 K q.1) &&
 (D.own.all (fun q=>Ds K q.1&&(dD (Ad K q.1) (c q.2)&&excIn K (c q.2) bmx "ValueError.__new__")) &&
 (D.md.all (fun q=>mdB K f (c D.cL) q.1 q.2)&&(D.ats.all (fun m=>nsOkIn K (DA K (c D.cL))&&nsIn K (DA K (c D.cL)) m == some none)&&(mdB K f (c D.cL) "__init__" D.iL&&mdB K f (c D.cX) "__init__" D.iX)))))))
noncomputable def ckC(D:Ck):Bool:=D.gb.all fun q=>!(Fast.sEq q.1 "__name__")&&decide (bootBuiltins q.1=some q.2.val)
theorem GE{a b:Bool}(h:(a&&b)=true):a=true:=(aL.mp h).1
theorem GF{a b:Bool}(h:(a&&b)=true):b=true:=(aL.mp h).2
theorem Zk3(X:K.In C.base)(g:C.base.Ns cy mg){x:aW}{a:aF}(h:(Ds K x&&dD (Ad K x) a)=true):mg x=some (.ref a):=by
 rw[<- cA (GF h)];exact Zd6 X g (GE h)
theorem Zk4{x:aW}(h:Ds K x=true):nsIn K cy x=some (some (.ref (Ad K x))):=Zd0 h
theorem FM(X:K.In C.base){c k:Nat}{m:aW}(h:mdB K C.fnv (C.clv c) m k=true):KU C K c m=some (.ref (C.fnv k))/\KV C k:=by
 have e:=cA (GF (GF h));exact⟨Zkh e X (GE h),QB e X (GE (GF h))⟩
theorem QG{p:cB}{loose:List aW}{h:aX}(T:TopRead p loose mg mb h){x:aW}{b:BI}(e:(!(Fast.sEq x "__name__")&&decide (bootBuiltins x=some b.val))=true):mb x=some b.val :=
 (T.builtins x fun q=>by have:=GE e;rw[Fast.sEq_iff.mpr q] at this;injection this).trans (of_decide_eq_true (GF e))
theorem QH{p:cB}{loose:List aW}{h:aX}(X:K.In h)(T:TopRead p loose mg mb h){x:aW}{a:aF}(e:(Ds K x&&(dD (Ad K x) a&&excIn K a bmx "ValueError.__new__"))=true):OwnCls x a bmx "ValueError.__new__" mg h :=
 own_of_in X T (by rw[<- cA (GE (GF e))];exact Zk4 (GE e)) (GF (GF e))
theorem QI{p:cB}{loose:List aW}(X:K.In C.base)(B:Dc C mg mb)(T:TopRead p loose mg mb C.base)(h:ckK K C.fnv C.clv D=true)(n:ckC D=true)(hot:∀ k∈D.hot,C.hot k=true)
  (o:∀ q∈D.md,bE (.type "object") q.1=pure none) (l:∀ m∈D.ats,bE (.type "object") m=pure none)
  (L:Dt C D.cL (KU C K D.cL))
  (tr:∀ q∈D.tr,∃ k,mg q.1=some (.ref (C.clv k))/\∀ c∈q.2,exmOne K (.ref (C.clv c)) (.ref (C.clv k))=some true)
  (Y:Fj C K D.cX (KU C K D.cX)) (xa:∀ m∈D.xa,HR K (C.clv D.cX) m) (bs:∀ k∈D.bs,IQ K (C.clv k))
  (x1:∀ q∈D.x1,∀ c b,Fh q.2.2 c=some b->Dz K (C.clv c)=true/\kitOne K (.ref (C.clv c)) (q.2.1.val C)=some b) (xt:∀ q∈D.xt,∀ c b,Fh q.2.2 c=some b->Dz K (C.clv c)=true/\kitAny K (.ref (C.clv c)) (q.2.1.map (CT.val C))=some b)
  : Ej C K mg mb D:=by
 have R:=GF h;have a:=GF R;have e:=GF a;have f:=GF e;have r:=GF f;have i:=GF r;have j:=GF i
 exact⟨B,X,fun q H d _ _ _ x=>SE.glb B x (Zk3 X B.g (aI.mp (GE h) q (bD _ H))) (fun _ _=>.fn _) (Ex d),
  fun q H d _ _ _ x=>SE.glb B x (Zk3 X B.g (aI.mp (GE h) q (jL _ H))) (fun _ _=>.fn _) (Ex d),hot,
  fun q H d _ _ _ x=>(Zeb X B.g (aI.mp (GE a) q H)).elim fun _ h=>SE.glb B x h (fun _ _=>.int _ _) (Ex d),
  fun q H d _ _ _ x=>SE.blt B x (Zd8 X B.g (aI.mp (GE e) q H)) (QG T (aI.mp n q H)) (Ex d),
  fun q H d _ _ _ x=>SE.glb B x (Zk3 X B.g (aI.mp (GE R) q H)) (fun _ _=>.cls _) (Ex d),
  fun q H=>QH X T (aI.mp (GE f) q H),
  L,fun q H=>⟨(FM X (aI.mp (GE r) q H)).1,(FM X (aI.mp (GE r) q H)).2,o q H⟩,fun m H=>⟨Zgl X (aI.mp (GE i) m H),l m H⟩,FM X (GE j),
  tr
  ,Y,FM X (GF j),xa,bs
  ,x1,xt
  ⟩
structure FD where
 S:AN
 b:List eJ
 k:As->DS
 ps:List aW
 z:Bool
 sc:ec
noncomputable def FD.f(q:FD):CK:=⟨q.ps.length,q.z,q.k⟩
def fdT(K:aG)(a:aF):=(Qd K a,(Dm K a).body,(Dm K a).scope,(Dm K a).closure,codeIn K (Dm K a).code (Dm K a).qualname,(Dm K a).globals,(Dm K a).builtins)
noncomputable def fdW(q:FD):Bool×FuncBody×ec×List (aW×aF)×Bool×aF×aF:=(true,.stmts q.b,q.sc,[],true,cy,gW)
def Ji(K:aG)(q:FD×aF):Prop:=∀ v,v.length=q.1.ps.length->bindArgs (Dm K q.2) ⟨v,[]⟩=pure (q.1.ps.zip v)
def EU(K:aG)(l:List (FD×aF))(m:Nat):Prop:=∀ v:List aC,v.length=m->(l.filter fun q=>dD q.1.ps.length m).map (fun q=>bindArgs (Dm K q.2) ⟨v,[]⟩)=(l.filter fun q=>dD q.1.ps.length m).map fun q=>pure (q.1.ps.zip v)
theorem Zk5{l:List (FD×aF)}{ms:List Nat}(h:∀ m∈ms,EU K l m)(a:l.all (fun q=>ms.contains q.1.ps.length)=true)(q:FD×aF)(H:q∈l):Ji K q:=fun v e =>
 ih.mp (h _ (fV.mp (aI.mp a q H)) v e) q (fy.mpr ⟨H,mK _⟩)
theorem Zk6{fl:List FD}{as:List aF}(X:K.In C.base)(p:C.fnv=fun k=>as.getD k 0)(r:fl.length=as.length)(g:(fl.zip as).map (fun q=>fdT K q.2)=(fl.zip as).map fun q=>fdW q.1)(j:∀ q∈fl.zip as,Ji K q)(l:fl.all (fun q=>Zd1 q.sc q.ps q.S)=true)
  (s:∀ n c,FS C c n->∀ q∈fl,EH C (n+1) q.S q.b (q.k c)) (m:∀ k,C.hot k=match fl[k]? with|some q=>!q.S.calm|none=>false) (k:Nat) (f:CK) (a:(fl[k]?).map FD.f=some f):EI C k f:=by
 cases h:fl[k]? with
 | none=>rw[h] at a;injection a
 | some q =>
  rw[h] at a;obtain rfl:=inj a;have H:k<as.length:=by rw[<- r];exact (Bm h)
  have e:C.fnv k=as[k]:=by rw[p];show as.getD k 0=_;rw[cr,bK H];rfl
  have hz:(q,C.fnv k)∈fl.zip as:=aV (i:=k) (hX.mpr ⟨h,by rw[e];exact bK H⟩);have t:fdT K (C.fnv k)=fdW q:=ih.mp g _ hz;have d:=aV h;exact EI.of' K X q.b q.sc q.ps q.S (congrArg (·.1) t) (congrArg (·.2.1) t) (congrArg (·.2.2.1) t) (congrArg (·.2.2.2.1) t) (congrArg (·.2.2.2.2.1) t) (congrArg (·.2.2.2.2.2.1) t) (congrArg (·.2.2.2.2.2.2) t) rfl (aI.mp l q d) (j _ hz) (fun n c F=>s n c F q d) fun o=>by rw[m,h];show (!q.S.calm)=false;rw[o];rfl
theorem Fw{a:Type}{P:a->Prop}:∀ q∈([]:List a),P q:=fun _ h=>nomatch h
theorem Cj{b:Type}{P:b->Prop}{a:b}{l:List b}(h:P a)(r:∀ q∈l,P q):∀ q∈a::l,P q:=List.forall_mem_cons.mpr ⟨h,r⟩
end
end Mine
namespace Mine
open PySem PySem.W PyProof.Rows PySem.Calls PySem.SeqAt
abbrev cL:Nat:=8
abbrev cX:Nat:=7
theorem QJ:bE (.type "object") "ask"=pure none:=by rw[cb,bG];kernel_rfl
theorem VC:bE (.type "object") "go"=pure none:=by rw[cb,bG];kernel_rfl
theorem Zk7:bE (.type "object") "said"=pure none:=by rw[cb,bG];kernel_rfl
theorem Zk8:bE (.type "object") "program"=pure none:=by rw[cb,bG];kernel_rfl
theorem Zk9:bE (.type "object") "state"=pure none:=by rw[cb,bG];kernel_rfl
theorem Zla:bE (.type "object") "waits"=pure none:=by rw[cb,bG];kernel_rfl
theorem Zlb:bE (.type "object") "changed"=pure none:=by rw[cb,bG];kernel_rfl
theorem Zlc:bE (.type "object") "running"=pure none:=by rw[cb,bG];kernel_rfl
theorem QK:bE (.type "object") "now"=pure none:=by rw[cb,bG];kernel_rfl
theorem Zld:bE (.type "object") "told"=pure none:=by rw[cb,bG];kernel_rfl
theorem Zle:bE (.type "object") "wanted"=pure none:=by rw[cb,bG];kernel_rfl
theorem Zlf:bE (.type "object") "many"=pure none:=by rw[cb,bG];kernel_rfl
theorem Zlg:bE (.type "object") "come"=pure none:=by rw[cb,bG];kernel_rfl
section
variable {C:Cx}{K:aG}{mg mb:aW->Option aC}{n:Nat}{Φ:As}
noncomputable def Bi(Γ:List (aW×Nat))(G:List aW)(K L:List aW:=[]):AN:={ Γ:=Γ,G:=G,K:=K,L:=L }
noncomputable abbrev dI(k:Int):DE:=Am (.int k)
noncomputable abbrev dS(x:aW):DE:=Am (.str x)
noncomputable abbrev dF(a:As)(k:Nat)(l:List DE):DE:=Cz a (Am (.fn k)) l
noncomputable abbrev dB(a:As)(b:BI)(l:List DE):DE:=Cz a (Am (.bi b)) l
def Zlh:AN:=Bi [("thing",0),("least",1),("most",2)] ["isinstance","bool","int"]
def Zli(a:As):DS :=
 Av (DU (dB a .isinstance [Aa 0,Am (.bi .int)]) (DU (GK (Aq (dB a .isinstance [Aa 0,Am (.bi .bool)]))) (DQ .le .le (Aa 1) (Aa 0) (Aa 2))))
def Zlj:AN:=Bi [("row",0),("boxes",1),("most",2),("many",3)] ["isinstance","str","len","tuple","is_among"]
def Zlk(a:As):DS :=
 Av (DU (Aw .eq (Aj (Aa 0) (dI 0)) (dS "ask")) (dF a 0 [Aj (Aa 0) (dI 2),dI 0,Ap .sub (Aa 3) (dI 1)]))
def Zll(a:As):DS :=
 Ai (Bo (Aq (Aw .eq (Aj (Aa 0) (dI 0)) (dS "copy"))) (Av (dF a 0 [Aj (Aa 0) (dI 2),dI 0,Ap .sub (Aa 1) (dI 1)])) AC) (Zlk a)
def QL(a:As):DS :=
 Ai (Bo (Aq (Aw .eq (Aj (Aa 0) (dI 0)) (dS "put"))) (Av (dF a 0 [Aj (Aa 0) (dI 2),dI 0,Aa 2])) AC) (Zll a)
def Zln(a:As):DS :=
 Ai (Bo (D8 (Aq (Aw .ne (dB a .len [Aa 0]) (dI 3))) (BU (Aq (dF a 0 [Aj (Aa 0) (dI 1),dI 0,Ap .sub (Aa 1) (dI 1)])))) (Av (Am (.bool false))) AC) (QL a)
def Zlo(a:As):DS :=
 Ai (Bo (D8 (Aq (Aw .eq (Aj (Aa 0) (dI 0)) (dS "more"))) (Aq (Aw .eq (Aj (Aa 0) (dI 0)) (dS "tell")))) (Av (DU (Aw .eq (dB a .len [Aa 0]) (dI 2)) (dF a 0 [Aj (Aa 0) (dI 1),dI 0,Ap .sub (Aa 1) (dI 1)]))) AC) (Zln a)
def Zlp(a:As):DS :=
 Ai (Bo (Aq (Aw .eq (Aj (Aa 0) (dI 0)) (dS "go"))) (Av (DU (Aw .eq (dB a .len [Aa 0]) (dI 2)) (dF a 0 [Aj (Aa 0) (dI 1),dI 0,Ap .sub (Aa 3) (dI 1)]))) AC) (Zlo a)
def Zlq(a:As):DS :=
 Ai (Bo (Aq (Aw .eq (Aj (Aa 0) (dI 0)) (dS "stop"))) (Av (Aw .eq (dB a .len [Aa 0]) (dI 1))) AC) (Zlp a)
def HD(a:As):DS :=
 Ai (Bo (D8 (BU (Aq (dB a .isinstance [Aa 0,Am (.bi .tuple)]))) (D8 (BU (Aq (DQ .le .le (dI 1) (dB a .len [Aa 0]) (dI 3)))) (BU (Aq (dB a .isinstance [Aj (Aa 0) (dI 0),Am (.bi .str)]))))) (Av (Am (.bool false))) AC) (Zlq a)
def Zls:AN:=Bi [("thing",0),("boxes",1),("most",2),("rows",3)] ["len","isinstance","tuple","is_among","MOST_NUMBER","MOST_BOXES","MOST_ROWS","list","all"] ["boxes","most","rows"]
def Zlt:AN:=Bi [("row",4),("boxes",1),("most",2),("rows",3)] ["is_row","len"] ["boxes","most","rows"]
def Zlu(a:As):DS :=
 Av (UV (Aw .eq (Aj (Aj (Aa 3) (Fe (dI 1))) (dI 0)) (dS "go")) (Aw .eq (Aj (Aj (Aa 3) (Fe (dI 1))) (dI 0)) (dS "stop")))
def Zlv(a:As):DS :=
 Ai (Bo (BU (Aq (dB a .all [Cl (dF a 1 [Aa 4,Aa 1,Aa 2,dB a .len [Aa 3]]) Ch 4 (Aa 3)]))) (Av (Am (.bool false))) AC) (Zlu a)
def Sn(a:As):DS :=
 Ai (Bo (D8 (BU (Aq (dB a .isinstance [Aa 3,Am (.bi .list)]))) (BU (Aq (DQ .le .le (dI 1) (dB a .len [Aa 3]) (dI 20))))) (Av (Am (.bool false))) AC) (Zlv a)
def Zlx(a:As):DS :=
 Ai (Bo (D8 (BU (Aq (dF a 0 [Aa 1,dI 0,dI 3]))) (BU (Aq (dF a 0 [Aa 2,dI 1,dI 4])))) (Av (Am (.bool false))) AC) (Sn a)
def QM(a:As):DS :=
 Ai (Bo (D8 (BU (Aq (dB a .isinstance [Aa 0,Am (.bi .tuple)]))) (Aq (Aw .ne (dB a .len [Aa 0]) (dI 3)))) (Av (Am (.bool false))) AC) (Ai (EJ (.many [1,2,3]) (Aa 0)) (Zlx a))
def Zlz:AN:=Bi [("thing",0)] ["is_program","BadProgram"]
def VD(a:As):DS :=
 Ai (Bo (BU (Aq (dF a 2 [Aa 0]))) (Db 1 (dS "no program")) AC) (Av (Aa 0))
def Zl1:AN:=Bi [("program",0),("thing",1)] ["len","isinstance","tuple","all"] ["program"]
def Zl2:AN:=Bi [("number",2),("program",0)] ["is_among"] ["program"]
def Zl3(a:As):DS :=
 Av (dB a .all [Cl (dF a 0 [Aa 2,dI 0,Aj (Aa 0) (dI 1)]) Ch 2 (Aa 1)])
def VE(a:As):DS :=
 Ai (Bo (D8 (BU (Aq (dB a .isinstance [Aa 1,Am (.bi .tuple)]))) (Aq (Aw .ne (dB a .len [Aa 1]) (Aj (Aa 0) (dI 0))))) (Av (Am (.bool false))) AC) (Zl3 a)
def Zl5:AN:=Bi [("numbers",0),("box",1),("number",2)] []
def Zl6(a:As):DS :=
 Av (Ap .add (Ap .add (HQ (Aa 0) none (some (Aa 1))) (Az [Aa 2])) (HQ (Aa 0) (some (Ap .add (Aa 1) (dI 1))) none))
def QN:AN:=Bi [("program",0),("state",1),("place",2),("numbers",3),("row",4),("number",5)] ["with_number"]
def Zl7(a:As):DS :=
 Av (Az [Az [Ap .add (Aa 2) (dI 1),Aa 3],Am .none])
def Zl8(a:As):DS :=
 Av (Az [Az [Ap .add (Aa 2) (dI 1),dF a 5 [Aa 3,Aj (Aa 4) (dI 1),Aa 5]],Am .none])
def Zl9(a:As):DS :=
 Ai (Bo (Aq (Aw .gt (Aa 5) (Aj (Aa 0) (dI 1)))) (AG 5 (dI 0)) AC) (Zl8 a)
def Zma(a:As):DS :=
 Ai (AG 5 (Ap .add (Aj (Aa 3) (Aj (Aa 4) (dI 1))) (dI 1))) (Zl9 a)
def Zmb(a:As):DS :=
 Ai (Bo (Aq (Aw .eq (Aj (Aa 4) (dI 0)) (dS "copy"))) (Av (Az [Az [Ap .add (Aa 2) (dI 1),dF a 5 [Aa 3,Aj (Aa 4) (dI 1),Aj (Aa 3) (Aj (Aa 4) (dI 2))]],Am .none])) AC) (Zma a)
def Zmc(a:As):DS :=
 Ai (Bo (Aq (Aw .eq (Aj (Aa 4) (dI 0)) (dS "put"))) (Av (Az [Az [Ap .add (Aa 2) (dI 1),dF a 5 [Aa 3,Aj (Aa 4) (dI 1),Aj (Aa 4) (dI 2)]],Am .none])) AC) (Zmb a)
def Zmd(a:As):DS :=
 Ai (Bo (Aq (Aw .eq (Aj (Aa 4) (dI 0)) (dS "tell"))) (Av (Az [Az [Ap .add (Aa 2) (dI 1),Aa 3],Aj (Aa 3) (Aj (Aa 4) (dI 1))])) AC) (Zmc a)
def Zme(a:As):DS :=
 Ai (Bo (Aq (Aw .eq (Aj (Aa 4) (dI 0)) (dS "ask"))) (Ai (Bo (Aq (Aw .eq (Aj (Aa 3) (Aj (Aa 4) (dI 1))) (dI 0))) (Av (Az [Az [Aj (Aa 4) (dI 2),Aa 3],Am .none])) AC) (Zl7 a)) AC) (Zmd a)
def Zmf(a:As):DS :=
 Ai (Bo (Aq (Aw .eq (Aj (Aa 4) (dI 0)) (dS "go"))) (Av (Az [Az [Aj (Aa 4) (dI 1),Aa 3],Am .none])) AC) (Zme a)
def Mp(a:As):DS :=
 Ai (Bo (Aq (Aw .eq (Aj (Aa 4) (dI 0)) (dS "stop"))) (Av (Az [Am .none,Am .none])) AC) (Zmf a)
def Zmh(a:As):DS :=
 Ai (AG 4 (Aj (Aj (Aa 0) (dI 2)) (Aa 2))) (Mp a)
def Jj(a:As):DS :=
 Ai (EJ (.many [2,3]) (Aa 1)) (Zmh a)
def Zmi:AN:=Bi [("two",0),("thing",1)] ["is_among"]
def VF(a:As):DS :=
 Av (UV (Aw .is (Aa 1) (Am .none)) (dF a 0 [Aa 1,dI 0,Aj (Aa 0) (dI 1)]))
def Zmk:AN:=Bi [("one",0),("two",1),("rule",2)] ["isinstance","str","len","tuple","is_number","is_among","all"] ["two"]
def Zml:AN:=Bi [("number",3),("two",1)] ["is_number"] ["two"]
def Zmm(a:As):DS :=
 Av (dB a .all [Cl (dF a 7 [Aa 1,Aa 3]) Ch 3 (Aj (Aa 2) (dI 2))])
def VG(a:As):DS :=
 Ai (Bo (D8 (BU (Aq (dB a .isinstance [Aj (Aa 2) (dI 2),Am (.bi .tuple)]))) (Aq (Aw .ne (dB a .len [Aj (Aa 2) (dI 2)]) (Ap .add (Aj (Aa 0) (dI 1)) (dI 1))))) (Av (Am (.bool false))) AC) (Zmm a)
def Zmo(a:As):DS :=
 Ai (Bo (D8 (Aq (Aw .ne (Aj (Aa 2) (dI 0)) (dS "by"))) (D8 (Aq (Aw .ne (dB a .len [Aa 2]) (dI 3))) (BU (Aq (dF a 0 [Aj (Aa 2) (dI 1),dI 0,Ap .sub (Aj (Aa 0) (dI 0)) (dI 1)]))))) (Av (Am (.bool false))) AC) (VG a)
def Zmp(a:As):DS :=
 Ai (Bo (Aq (Aw .eq (Aj (Aa 2) (dI 0)) (dS "is"))) (Av (DU (Aw .eq (dB a .len [Aa 2]) (dI 2)) (dF a 7 [Aa 1,Aj (Aa 2) (dI 1)]))) AC) (Zmo a)
def Ij(a:As):DS :=
 Ai (Bo (D8 (BU (Aq (dB a .isinstance [Aa 2,Am (.bi .tuple)]))) (D8 (Aq (Aw .lt (dB a .len [Aa 2]) (dI 2))) (BU (Aq (dB a .isinstance [Aj (Aa 2) (dI 0),Am (.bi .str)]))))) (Av (Am (.bool false))) AC) (Zmp a)
def Zmr:AN:=Bi [("one",0),("two",1),("place",2)] ["isinstance","tuple","len","is_among","all"] ["one","two"]
def Zms:AN:=Bi [("rule",3),("one",0),("two",1)] ["is_rule"] ["one","two"]
def QO(a:As):DS :=
 Av (DU (Aw .eq (dB a .len [Aj (Aa 2) (dI 2)]) (Aj (Aa 1) (dI 0))) (dB a .all [Cl (dF a 8 [Aa 0,Aa 1,Aa 3]) Ch 3 (Aj (Aa 2) (dI 2))]))
def VH(a:As):DS :=
 Ai (Bo (D8 (BU (Aq (dF a 0 [Aj (Aa 2) (dI 0),dI 0,Ap .sub (dB a .len [Aj (Aa 0) (dI 2)]) (dI 1)]))) (BU (Aq (dF a 0 [Aj (Aa 2) (dI 1),dI 0,Ap .sub (dB a .len [Aj (Aa 1) (dI 2)]) (dI 1)])))) (Av (Am (.bool false))) AC) (QO a)
def JU(a:As):DS :=
 Ai (Bo (D8 (BU (Aq (dB a .isinstance [Aa 2,Am (.bi .tuple)]))) (D8 (Aq (Aw .ne (dB a .len [Aa 2]) (dI 3))) (BU (Aq (dB a .isinstance [Aj (Aa 2) (dI 2),Am (.bi .tuple)]))))) (Av (Am (.bool false))) AC) (VH a)
def Zmw:AN:=Bi [("one",0),("two",1),("places",2),("seen",3),("place",4)] ["len","MOST_PLACES","isinstance","list","BadPlaces","is_place"]
def Zmx(a:As):DS :=
 Gp (Aa 3) (Aj (Aa 4) (dI 0)) (Am (.bool true))
def KY(a:As):DS :=
 Ai (Bo (D8 (BU (Aq (dF a 9 [Aa 0,Aa 1,Aa 4]))) (Aq (Gk (Aj (Aa 4) (dI 0)) (Aa 3)))) (Db 3 (dS "no place, or one row twice")) AC) (Zmx a)
def Zmz(a:As):DS :=
 Ai (Da (.one 4) (Aa 2) (KY a)) (Av (dB a .list [Aa 2]))
def VJ(a:As):DS :=
 Ai (Bo (D8 (BU (Aq (dB a .isinstance [Aa 2,Am (.bi .list)]))) (Aq (Aw .gt (dB a .len [Aa 2]) (dI 20)))) (Db 3 (dS "a list of up to twenty places is wanted")) AC) (Ai (AG 3 Gi) (Zmz a))
def Zm1:AN:=Bi [("rule",0),("numbers",1)] []
def Zm2(a:As):DS :=
 Av (Aj (Aj (Aa 0) (dI 2)) (Aj (Aa 1) (Aj (Aa 0) (dI 1))))
def Zm3(a:As):DS :=
 Ai (Bo (Aq (Aw .eq (Aj (Aa 0) (dI 0)) (dS "is"))) (Av (Aj (Aa 0) (dI 1))) AC) (Zm2 a)
def Zm4:AN:=Bi [("rules",0),("numbers",1),("found",2)] ["tuple"] ["numbers"]
def Zm5:AN:=Bi [("rule",3),("numbers",1)] ["number_by"] ["numbers"]
def Zm6(a:As):DS :=
 Ai (Bo (Aq (Aw .isIn (Am .none) (Aa 2))) (Av (Am .none)) AC) (Av (Aa 2))
def Zm7(a:As):DS :=
 Ai (AG 2 (dB a .tuple [Cl (dF a 11 [Aa 3,Aa 1]) Ch 3 (Aa 0)])) (Zm6 a)
def Zm8:AN:=Bi [("places",0),("row",1),("place",2)] []
def Zm9(a:As):DS :=
 Bo (Aq (Aw .eq (Aj (Aa 2) (dI 0)) (Aa 1))) (Av (Aa 2)) AC
def Zna(a:As):DS :=
 Ai (Da (.one 2) (Aa 0) (Zm9 a)) (Av (Am .none))
def Znb:AN:=Bi [("one",0),("places",1),("state",2),("seen",3),("many",4),("place",5)] ["place_at","turned","done"]
def Znc(a:As):DS :=
 Ai (AG 2 (Aj (dF a 6 [Aa 0,Aa 2]) (dI 0))) (AG 4 (Ap .add (Aa 4) (dI 1)))
def Znd(a:As):DS :=
 Ai (Bo (Aq (Gq (Aa 2) (Aa 3))) (Av (Az [dS "missed",EB (Aa 3) (Aa 2),Ap .sub (Aa 4) (EB (Aa 3) (Aa 2))])) AC) (Ai (Gr (Aa 3) (Aa 2) (Aa 4)) (Znc a))
def Zne(a:As):DS :=
 Ai (Bo (Aq (Aw .isNot (Aa 5) (Am .none))) (Ai (Bo (Aq (Aw .is (dF a 12 [Aj (Aa 5) (dI 2),Aj (Aa 2) (dI 1)]) (Am .none))) (Av (Az [dS "stuck",Aa 4])) AC) (Av (Az [dS "comes",Aa 4]))) AC) (Znd a)
def Znf(a:As):DS :=
 Ai (E8 (Aq (Aw .isNot (Aa 2) (Am .none))) (Ai (AG 5 (dF a 13 [Aa 1,Aj (Aa 2) (dI 0)])) (Zne a))) (Av (Az [dS "over",Aa 4]))
def Zng(a:As):DS :=
 Ai (AG 3 Gj) (Ai (AG 4 (dI 0)) (Znf a))
def Znh:AN:=Bi [("program",0)] ["list"]
def Zni(a:As):DS :=
 Av (Az [Aj (Aa 0) (dI 0),Aj (Aa 0) (dI 1),dB a .list [Aj (Aa 0) (dI 2)]])
def Znj:AN:=Bi [("_law_script",0),("_law_k",1)] ["len"]
def Znk(a:As):DS :=
 Ai (Bo (Aq (Aw .lt (Aa 1) (dB a .len [Aa 0]))) (Av (Aj (Aa 0) (Aa 1))) AC) (Av (dI 0))
def Znl:AN:=Bi [("_law_seed",0)] []
def Znm(a:As):DS :=
 Av (Ap .mod (Ap .add (Ap .mul (Aa 0) (dI 48271)) (dI 11)) (dI 2147483647))
def Znn:AN:=Bi [("_law_seed",0),("_law_boxes",1),("_law_most",2),("_law_many",3),("_law_pick",4),("_law_box",5)] []
def Zno(a:As):DS :=
 Av (Az [dS "ask",Aa 5,Ap .mod (Ap .fdiv (Aa 0) (dI 50)) (Aa 3)])
def Znp(a:As):DS :=
 Ai (Bo (Aq (Aw .eq (Aa 4) (dI 7))) (Av (Aj (B3 [Az [dS "go",Ap .mod (Ap .fdiv (Aa 0) (dI 50)) (Aa 3)],Az [dS "stop"]]) (Ap .mod (Ap .fdiv (Aa 0) (dI 20)) (dI 2)))) AC) (Zno a)
def Znq(a:As):DS :=
 Ai (Bo (Aq (Aw .lt (Aa 4) (dI 7))) (Av (Az [dS "tell",Aa 5])) AC) (Znp a)
def Znr(a:As):DS :=
 Ai (Bo (Aq (Aw .eq (Aa 4) (dI 4))) (Av (Az [dS "copy",Aa 5,Ap .mod (Ap .fdiv (Aa 0) (dI 50)) (Aa 1)])) AC) (Znq a)
def Zns(a:As):DS :=
 Ai (Bo (Aq (Aw .lt (Aa 4) (dI 4))) (Av (Az [dS "more",Aa 5])) AC) (Znr a)
def Znt(a:As):DS :=
 Ai (Bo (Aq (Aw .lt (Aa 4) (dI 2))) (Av (Az [dS "put",Aa 5,Ap .mod (Ap .fdiv (Aa 0) (dI 50)) (Ap .add (Aa 2) (dI 1))])) AC) (Zns a)
def Znu(a:As):DS :=
 Ai (AG 5 (Ap .mod (Ap .fdiv (Aa 0) (dI 10)) (Aa 1))) (Znt a)
def Znv(a:As):DS :=
 Ai (Bo (Aq (Aw .eq (Aa 1) (dI 0))) (Av (Aj (B3 [Az [dS "go",Ap .mod (Ap .fdiv (Aa 0) (dI 10)) (Aa 3)],Az [dS "stop"]]) (Ap .fdiv (Aa 4) (dI 7)))) AC) (Znu a)
def Znw(a:As):DS :=
 Ai (AG 4 (Ap .mod (Aa 0) (dI 10))) (Znv a)
def Znx:AN:=Bi [("_law_cell",0),("_law_seed",1),("_law_boxes",2),("_law_most",3),("_law_many",4),("_law_rows",5),("_law_k",6)] ["_law_next","int","range","_law_row"]
def Zny(a:As):DS :=
 Bj (Cq CV (Aa 5) [dF a 18 [Aa 1,Aa 2,Aa 3,Aa 4]])
def Znz(a:As):DS :=
 Ai (AG 1 (dF a 17 [Ap .add (Aa 1) (Aa 6)])) (Zny a)
def Zn0(a:As):DS :=
 Ai (Bo (Aq (Aw .notIn (Aj (Aj (Aa 5) (Fe (dI 1))) (dI 0)) (Az [dS "go",dS "stop"]))) (Cb (Aa 5) (Fe (dI 1)) (Aj (B3 [Az [dS "go",Ap .mod (Ap .fdiv (Aa 1) (dI 7)) (Aa 4)],Az [dS "stop"]]) (Ap .fdiv (Ap .mod (Ap .fdiv (Aa 1) (dI 1000)) (dI 3)) (dI 2)))) AC) (Av (Az [Aa 2,Aa 3,Aa 5]))
def Zn1(a:As):DS :=
 Ai (Da (.one 6) (dB a .range [Aa 4]) (Znz a)) (Zn0 a)
def Zn2(a:As):DS :=
 Ai (AG 4 (Ap .add (Ap .add (dI 1) (Ap .mod (Ap .fdiv (Aa 1) (dI 24)) (dI 7))) (Ap .mul (dI 9) (dB a .int [Aw .eq (Ap .mod (Ap .fdiv (Aa 1) (dI 200)) (dI 8)) (dI 3)])))) (Ai (AG 5 (Di [])) (Zn1 a))
def Zn3(a:As):DS :=
 Ai (AG 3 (Ap .add (dI 1) (Ap .mod (Ap .fdiv (Aa 1) (dI 6)) (dI 4)))) (Zn2 a)
def Zn4(a:As):DS :=
 Ai (AG 2 (Aj (B3 [dI 1,dI 2,dI 1,dI 2,dI 0,dI 3]) (Ap .mod (Aa 1) (dI 6)))) (Zn3 a)
def Zn5(a:As):DS :=
 Ai (AG 1 (dF a 17 [Aa 0])) (Zn4 a)
def Zn6:AN:=Bi [("_law_seed",0),("_law_one",1),("_law_two",2),("_law_numbers_here",3),("_law_k",4)] ["int","range","tuple"]
def Zn7(a:As):DS :=
 Bj (Cq CV (Aa 3) [Aj (B3 [Ap .mod (Ap .fdiv (Aa 0) (Ap .add (dI 4) (Ap .mul (dI 5) (Aa 4)))) (Ap .add (Aj (Aa 2) (dI 1)) (dI 1)),Am .none]) (dB a .int [Aw .eq (Ap .mod (Ap .fdiv (Aa 0) (Ap .add (dI 40) (Ap .mul (dI 7) (Aa 4)))) (dI 23)) (dI 1)])])
def Zn8(a:As):DS :=
 Av (Az [dS "by",Ap .mod (Ap .fdiv (Aa 0) (dI 400)) (Aj (Aa 1) (dI 0)),dB a .tuple [Aa 3]])
def Zn9(a:As):DS :=
 Ai (Da (.one 4) (dB a .range [Ap .add (Aj (Aa 1) (dI 1)) (dI 1)]) (Zn7 a)) (Zn8 a)
def Zoa(a:As):DS :=
 Ai (Bo (D8 (Aq (Aw .eq (Aj (Aa 1) (dI 0)) (dI 0))) (Aq (Aw .eq (Ap .mod (Aa 0) (dI 4)) (dI 0)))) (Av (Az [dS "is",Aj (B3 [Ap .mod (Ap .fdiv (Aa 0) (dI 4)) (Ap .add (Aj (Aa 2) (dI 1)) (dI 1)),Am .none]) (dB a .int [Aw .eq (Ap .mod (Ap .fdiv (Aa 0) (dI 40)) (dI 13)) (dI 1)])])) AC) (Ai (AG 3 (Di [])) (Zn9 a))
def Zob:AN:=Bi [("_law_cell",0),("_law_one",1),("_law_two",2),("_law_found",3),("_law_seed",4),("_law_row_here",5),("_law_rules_here",6)] ["_law_next","range","len","tuple"] ["_law_one","_law_seed","_law_two"]
def Zoc:AN:=Bi [("_law_k",7),("_law_seed",4),("_law_one",1),("_law_two",2)] ["_law_rule","_law_next"] ["_law_seed","_law_one","_law_two"]
def Zod(a:As):DS :=
 Bj (Cq PS (Aa 3) [Ap .mod (Ap .fdiv (Aa 4) (dI 9)) (Ap .add (dB a .len [Aa 3]) (dI 1)),Az [Aa 5,Ap .mod (Ap .fdiv (Aa 4) (dI 5)) (dB a .len [Aj (Aa 2) (dI 2)]),Aa 6]])
def Zoe(a:As):DS :=
 Bo (Aq (Aw .gt (Ap .mod (Aa 4) (dI 3)) (dI 0))) (Ai (AG 6 (dB a .tuple [Cl (dF a 20 [dF a 17 [Ap .add (Aa 4) (Ap .mul (dI 7) (Aa 7))],Aa 1,Aa 2]) Ch 7 (dB a .range [Aj (Aa 2) (dI 0)])])) (Zod a)) AC
def Zof(a:As):DS :=
 Ai (AG 4 (dF a 17 [Ap .add (Aa 4) (Aa 5)])) (Zoe a)
def Zog(a:As):DS :=
 Ai (Da (.one 5) (dB a .range [dB a .len [Aj (Aa 1) (dI 2)]]) (Zof a)) (Av (Aa 3))
def Zoh(a:As):DS :=
 Ai (AG 4 (dF a 17 [Aa 0])) (Zog a)
def Zoi(a:As):DS :=
 Ai (AG 3 (Di [])) (Zoh a)
def Zoj:AN:=Bi [("_law_seed",0),("_law_program_here",1),("_law_found",2),("_law_box",3)] ["range","_law_next"]
def Zok(a:As):DS :=
 AG 2 (Ap .add (Aa 2) (Az [Ap .mod (Ap .fdiv (Aa 0) (dI 3)) (Ap .add (Aj (Aa 1) (dI 1)) (dI 1))]))
def Zol(a:As):DS :=
 Ai (AG 0 (dF a 17 [Ap .add (Aa 0) (Aa 3)])) (Zok a)
def Zom(a:As):DS :=
 Ai (Da (.one 3) (dB a .range [Aj (Aa 1) (dI 0)]) (Zol a)) (Av (Aa 2))
def Zon(a:As):DS :=
 Ai (AG 2 (Az [])) (Zom a)
def Zoo:AN:=Bi [("_law_numbers_here",0),("_law_box",1),("_law_number",2),("_law_row_here",3)] ["list","tuple"]
def Zop(a:As):DS :=
 Ai (Cb (Aa 3) (Aa 1) (Aa 2)) (Av (dB a .tuple [Aa 3]))
def Zoq(a:As):DS :=
 Ai (AG 3 (D4 (Aa 0))) (Zop a)
def Zor:AN:=Bi [("_law_program_here",0),("_law_state",1),("_law_at",2),("_law_numbers_here",3),("_law_row_here",4),("_law_more",5)] ["_law_put","int"]
def Zos(a:As):DS :=
 AG 3 (dF a 23 [Aa 3,Aj (Aa 4) (dI 1),Aj (B3 [Aa 5,dI 0]) (dB a .int [Aw .gt (Aa 5) (Aj (Aa 0) (dI 1))])])
def VK(a:As):DS :=
 Av (Az [Az [Ap .add (Aa 2) (dI 1),Aa 3],Am .none])
def Zou(a:As):DS :=
 Ai (Bo (Aq (Aw .eq (Aj (Aa 4) (dI 0)) (dS "more"))) (Ai (AG 5 (Ap .add (Aj (Aa 3) (Aj (Aa 4) (dI 1))) (dI 1))) (Zos a)) AC) (VK a)
def Zov(a:As):DS :=
 Ai (Bo (Aq (Aw .eq (Aj (Aa 4) (dI 0)) (dS "copy"))) (AG 3 (dF a 23 [Aa 3,Aj (Aa 4) (dI 1),Aj (Aa 3) (Aj (Aa 4) (dI 2))])) AC) (Zou a)
def Zow(a:As):DS :=
 Ai (Bo (Aq (Aw .eq (Aj (Aa 4) (dI 0)) (dS "put"))) (AG 3 (dF a 23 [Aa 3,Aj (Aa 4) (dI 1),Aj (Aa 4) (dI 2)])) AC) (Zov a)
def Zox(a:As):DS :=
 Ai (Bo (D8 (Aq (Aw .eq (Aj (Aa 4) (dI 0)) (dS "go"))) (Gl (Aq (Aw .eq (Aj (Aa 4) (dI 0)) (dS "ask"))) (Aq (Aw .eq (Aj (Aa 3) (Aj (Aa 4) (dI 1))) (dI 0))))) (Av (Az [Az [Aj (Aa 4) (Fe (dI 1)),Aa 3],Am .none])) AC) (Zow a)
def Zoy(a:As):DS :=
 Ai (Bo (Aq (Aw .eq (Aj (Aa 4) (dI 0)) (dS "tell"))) (Av (Az [Az [Ap .add (Aa 2) (dI 1),Aa 3],Aj (Aa 3) (Aj (Aa 4) (dI 1))])) AC) (Zox a)
def Mq(a:As):DS :=
 Ai (Bo (Aq (Aw .eq (Aj (Aa 4) (dI 0)) (dS "stop"))) (Av (Az [Am .none,Am .none])) AC) (Zoy a)
def Zo0(a:As):DS :=
 Ai (AG 4 (Aj (Aj (Aa 0) (dI 2)) (Aa 2))) (Mq a)
def Zo1(a:As):DS :=
 Ai (AG 2 (Aj (Aa 1) (dI 0))) (Ai (AG 3 (Aj (Aa 1) (dI 1))) (Zo0 a))
def Zo2:AN:=Bi [("_law_rules_here",0),("_law_numbers_here",1),("_law_found",2),("_law_rule_here",3),("_law_number",4)] ["tuple"]
def Zo3(a:As):DS :=
 Ai (Bo (Aq (Aw .is (Aa 4) (Am .none))) (Av (Am .none)) AC) (Bj (Cq CV (Aa 2) [Aa 4]))
def Zo4(a:As):DS :=
 Ai (Bo (Aq (Aw .eq (Aj (Aa 3) (dI 0)) (dS "by"))) (AG 4 (Aj (Aj (Aa 3) (dI 2)) (Aj (Aa 1) (Aj (Aa 3) (dI 1))))) AC) (Zo3 a)
def Zo5(a:As):DS :=
 Ai (AG 4 (Aj (Aa 3) (dI 1))) (Zo4 a)
def Zo6(a:As):DS :=
 Ai (Da (.one 3) (Aa 0) (Zo5 a)) (Av (dB a .tuple [Aa 2]))
def Zo7(a:As):DS :=
 Ai (AG 2 (Di [])) (Zo6 a)
def Zo8:AN:=Bi [("_law_places_here",0),("_law_rules_here",1),("_law_place",2)] []
def Zo9(a:As):DS :=
 Gp (Aa 1) (Aj (Aa 2) (dI 0)) (Aj (Aa 2) (dI 2))
def Zpa(a:As):DS :=
 Ai (Da (.one 2) (Aa 0) (Zo9 a)) (Av (Aa 1))
def Zpb(a:As):DS :=
 Ai (AG 1 Gi) (Zpa a)
def Zpc:AN:=Bi [("_law_one",0),("_law_rules_here",1),("_law_state",2),("_law_came",3)] ["len","int","_law_turned","_law_step"]
def Zpd(a:As):DS :=
 AG 2 (Aj (dF a 24 [Aa 0,Aa 2]) (dI 0))
def Zpe(a:As):DS :=
 Ai (Gr (Aa 3) (Aa 2) (EC (Aa 3))) (Zpd a)
def Zpf(a:As):DS :=
 Ai (Bo (Aq (Gk (Aj (Aa 2) (dI 0)) (Aa 1))) (Av (Az [Aj (B3 [dS "comes",dS "stuck"]) (dB a .int [Aw .is (dF a 25 [Hp (Aa 1) (Aj (Aa 2) (dI 0)),Aj (Aa 2) (dI 1)]) (Am .none)]),EC (Aa 3)])) AC) (Zpe a)
def Zpg(a:As):DS :=
 Av (Az [dS "over",EC (Aa 3)])
def Zph(a:As):DS :=
 Ai (E8 (Aq (Aw .isNot (Aa 2) (Am .none))) (Ai (Bo (Aq (Gq (Aa 2) (Aa 3))) (Av (Az [dS "missed",EB (Aa 3) (Aa 2),Ap .sub (EC (Aa 3)) (EB (Aa 3) (Aa 2))])) AC) (Zpf a))) (Zpg a)
def Zpi(a:As):DS :=
 Ai (AG 3 Gj) (Zph a)
def Zpj:AN:=Bi [("_law_program_here",0)] ["list"]
def Zpk(a:As):DS :=
 Av (Az [Aj (Aa 0) (dI 0),Aj (Aa 0) (dI 1),D4 (Aj (Aa 0) (dI 2))])
def Zpl:AN:=Bi [("_law_s",0),("_law_two",1),("_law_places_here",2),("_law_odd",3),("_law_meets",4)] ["_law_met","_law_rules"]
def Zpm(a:As):DS :=
 Ai (Bo (Aq (Aw .isIn (Aj (Aa 4) (dI 0)) (Az [dS "stuck",dS "missed"]))) (Av (Az [dS "unsafe",Aa 4])) AC) (Av (Az []))
def Zpn(a:As):DS :=
 Ai (AG 4 (dF a 27 [BC (Aa 0) (dS "program"),dF a 26 [Aa 2],BC (Aa 0) (dS "state")])) (Zpm a)
def Zpo(a:As):DS :=
 Ai (Bo (Aq (Aw .gt (Aa 3) (dI 0))) (Av (Aj (B3 [Az [dS "program"],Az [dS "places"]]) (Ap .sub (Aa 3) (dI 1)))) AC) (Zpn a)
def Zpp(a:As):DS :=
 Ai (Bo (Aq (Aw .isNot (BC (Aa 0) (dS "awaited")) (Am .none))) (Av (Az [dS "busy"])) AC) (Zpo a)
def Zpq(a:As):DS :=
 Ai (Bo (Aq (Aw .is (BC (Aa 0) (dS "state")) (Am .none))) (Av (Az [dS "over"])) AC) (Zpp a)
def Zpr:AN:=Bi [("_law_s",0),("_law_there",1)] ["_law_turned"] ["_law_s"]
def Zps:AN:=Bi [("_law_place",2),("_law_s",0)] [] ["_law_s"]
def Zpt(a:As):DS :=
 CD (Aa 0) (dS "changed") (Ap .add (BC (Aa 0) (dS "changed")) (dI 1))
def Zpu(a:As):DS :=
 Ai (CD (Aa 0) (dS "awaited") (Am .none)) (Zpt a)
def Zpv(a:As):DS :=
 Ai (CD (Aa 0) (dS "program") (Aj (BC (Aa 0) (dS "awaited")) (dI 0))) (Zpu a)
def Zpw(a:As):DS :=
 Bo (Aq (Aw .ne (Aa 1) (B3 []))) (Ai (CD (Aa 0) (dS "state") (Az [Aj (Aj (Aa 1) (dI 0)) (dI 1),dF a 25 [Aj (Aj (Aa 1) (dI 0)) (dI 2),Aj (BC (Aa 0) (dS "state")) (dI 1)]])) (Zpv a)) AC
def Zpx(a:As):DS :=
 Bo (Aq (Aw .isNot (BC (Aa 0) (dS "awaited")) (Am .none))) (Ai (AG 1 (Cl (Aa 2) (Aq (Aw .eq (Aj (Aa 2) (dI 0)) (Aj (BC (Aa 0) (dS "state")) (dI 0)))) 2 (Aj (BC (Aa 0) (dS "awaited")) (dI 1)))) (Zpw a)) AC
def Zpy(a:As):DS :=
 Ai (Bo (Aq (Aw .is (BC (Aa 0) (dS "state")) (Am .none))) (CD (Aa 0) (dS "awaited") (Am .none)) AC) (Zpx a)
noncomputable def Zpz:AN:={ Γ:=[("_law_e",0),("_law_words",1)],G:=["int","isinstance","Over","Busy","BadProgram","BadPlaces","BadState","BadCount","Unsafe","tuple","ValueError"],K:=[],L:=[],calm:=false,bias:=0 }
def Zp0(a:As):DS :=
 Av (dB a .tuple [Ap .add (Aa 1) (Ap .rep (B3 [dS "no value"]) (dB a .int [GK (Aq (CU (Fh [(1,true),(3,true),(2,true),(6,true),(5,true),(7,true)]) (Aa 0)))]))])
def Zp1(a:As):DS :=
 Ai (Bo (Aq (CU (Fh [(1,false),(3,false),(2,false),(6,false),(5,false),(7,true)]) (Aa 0))) (AG 1 (Ap .add (Aa 1) (B3 [dS "unsafe",FE 7 "shown" (Aa 0)]))) AC) (Zp0 a)
def Zp2(a:As):DS :=
 Ai (AG 1 (Ap .add (Ap .add (Aa 1) (Ap .rep (B3 [dS "state"]) (dB a .int [CU (Fh [(1,false),(3,false),(2,true),(6,false),(5,false),(7,false)]) (Aa 0)]))) (Ap .rep (B3 [dS "count"]) (dB a .int [CU (Fh [(1,false),(3,false),(2,false),(6,false),(5,false),(7,false)]) (Aa 0)])))) (Zp1 a)
def Zp3(a:As):DS :=
 Ai (AG 1 (Ap .add (Ap .add (Aa 1) (Ap .rep (B3 [dS "program"]) (dB a .int [CU (Fh [(1,true),(3,false),(2,false),(6,false),(5,false),(7,false)]) (Aa 0)]))) (Ap .rep (B3 [dS "places"]) (dB a .int [CU (Fh [(1,false),(3,true),(2,false),(6,false),(5,false),(7,false)]) (Aa 0)])))) (Zp2 a)
def KZ(a:As):DS :=
 Ai (AG 1 (Ap .add (Ap .rep (B3 [dS "over"]) (dB a .int [CU (Fh [(1,false),(3,false),(2,false),(6,true),(5,false),(7,false)]) (Aa 0)])) (Ap .rep (B3 [dS "busy"]) (dB a .int [CU (Fh [(1,false),(3,false),(2,false),(6,false),(5,true),(7,false)]) (Aa 0)])))) (Zp3 a)
def Zp5:AN:=Bi [("_law_live",0),("_law_two",1),("_law_places_here",2),("_law_e",3)] ["SwapError","_law_kinds"] [] ["_law_e"]
def QP(a:As):DS :=
 Ai (EA (BD a 8 "ask" 52 (Aa 0) [Aa 1,Aa 2]) [1,3,2,6,5,7] 3 (Av (dF a 31 [Aa 3]))) (Av (Az []))
def Zp7:AN:=Bi [("_law_one",0),("_law_two",1),("_law_places_here",2),("_law_cell",3),("_law_rules_here",4),("_law_some",5)] ["tuple","len","list"]
def Zp8(a:As):DS :=
 Av (Aj (Aa 5) (Ap .mod (Aa 3) (dB a .len [Aa 5])))
def Zp9(a:As):DS :=
 Ai (Bo (Aq (Aw .ne (Aa 2) (B3 []))) (AG 5 (Ap .add (Aa 5) (B3 [Aj (Aa 2) (dI 0),Ap .add (HQ (Aj (Aa 2) (dI 0)) none (some (dI 1))) (Az [dI 0,Aa 4])]))) AC) (Zp8 a)
def Zqa(a:As):DS :=
 Ai (Bo (Aq (Aw .eq (Aj (Aa 1) (dI 0)) (dI 0))) (AG 5 (HQ (Aa 5) none (some (dI 10)))) AC) (Zp9 a)
def Zqb(a:As):DS :=
 Ai (AG 5 (Ap .add (Aa 5) (B3 [Az [dI 0,dI 0,Ap .add (HQ (Aa 4) (some (dI 1)) none) (Az [Az [dS "is",Ap .add (Aj (Aa 1) (dI 1)) (dI 1)]])],Az [dI 0,dI 0,Ap .add (HQ (Aa 4) (some (dI 1)) none) (Az [Az [dS "by",dI 0,Az []]])]]))) (Zqa a)
def Zqc(a:As):DS :=
 Ai (AG 5 (Ap .add (Aa 5) (B3 [Az [dI 0,dI 0,dB a .list [Aa 4]],Az [dI 0,dI 0,Ap .add (Aa 4) (Az [Az [dS "is",dI 0]])],Az [Am (.bool true),dI 0,Aa 4],Az [dI 0,dI 0,Aa 4,dI 0]]))) (Zqb a)
def Zqd(a:As):DS :=
 Ai (AG 5 (B3 [Am .none,Az [dI 0,dI 0],B3 [dI 0,dI 0,Aa 4],Az [dB a .len [Aj (Aa 0) (dI 2)],dI 0,Aa 4],Az [dI 0,dB a .len [Aj (Aa 1) (dI 2)],Aa 4],Az [Fe (dI 1),dI 0,Aa 4]])) (Zqc a)
def Zqe(a:As):DS :=
 Ai (AG 4 (dB a .tuple [Ap .rep (B3 [Az [dS "is",dI 0]]) (Aj (Aa 1) (dI 0))])) (Zqd a)
def Zqf:AN:=Bi [("_law_live",0),("_law_s",1),("_law_two",2),("_law_places_here",3),("_law_handed",4),("_law_odd",5),("_law_due_here",6),("_law_found",7)] ["_law_due","_law_told","_law_come"]
def Zqg(a:As):DS :=
 Ai (Bo (Aq (Aw .eq (Aa 6) (Az []))) (Ai (CD (Aa 1) (dS "awaited") (Az [Aa 2,Aa 3])) (Bj (dF a 30 [Aa 1]))) AC) (Av (Aw .eq (Aa 7) (Aa 6)))
def Zqh(a:As):DS :=
 Ai (Bj (Cr EE (Aj (Aa 4) (dI 1)))) (Zqg a)
def Zqi(a:As):DS :=
 Ai (Bj (Cr EE (Aj (Aj (Aa 4) (dI 0)) (dI 2)))) (Zqh a)
def Zqj(a:As):DS :=
 Ai (AG 7 (dF a 32 [Aa 0,Aj (Aa 4) (dI 0),Aj (Aa 4) (dI 1)])) (Zqi a)
def Zqk(a:As):DS :=
 Ai (AG 6 (dF a 29 [Aa 1,Aa 2,Aa 3,Aa 5])) (Zqj a)
def Zql:AN:=Bi [("_law_live",0),("_law_s",1),("_law_two",2),("_law_places_here",3),("_law_odd",4)] ["int","_law_fits","_law_taken","_law_copied","list"]
def Zqm(a:As):DS :=
 Av (dF a 34 [Aa 0,Aa 1,Aa 2,Aa 3,B3 [dF a 28 [Aa 2],D4 (Aa 3)],Aa 4])
def Zqn(a:As):DS :=
 Ai (AG 4 (Ap .mul (dI 2) (dB a .int [GK (Aq (dF a 39 [BC (Aa 1) (dS "program"),Aa 3]))]))) (Zqm a)
def Zqo(a:As):DS :=
 Ai (CD (Aa 1) (dS "refused") (Am .none)) (Zqn a)
def Zqp(a:As):DS :=
 Ai (EJ (.many [2,3]) (BC (Aa 1) (dS "refused"))) (Zqo a)
def Zqq:AN:=Bi [("_law_live",0),("_law_s",1),("_law_two",2),("_law_handed",3),("_law_row_here",4),("_law_place",5)] ["list","len","tuple","_law_taken"]
def Zqr(a:As):DS :=
 Bo (Aq (Aw .eq (Aj (Aa 5) (dI 0)) (Aa 4))) (Bj (Cq UY (Aj (Aa 3) (dI 1)) [Aa 5])) AC
def Zqs(a:As):DS :=
 Av (dF a 34 [Aa 0,Aa 1,Aa 2,dB a .list [Aj (Aa 3) (dI 1)],Aa 3,dI 0])
def Zqt(a:As):DS :=
 Ai (Bj (Cq CV (Aj (Aa 3) (dI 1)) [Az [Aa 4,Ap .sub (dB a .len [Aj (Aa 2) (dI 2)]) (dI 1),dB a .tuple [Ap .rep (B3 [Az [dS "is",dI 0]]) (Aj (Aa 2) (dI 0))]]])) (Zqs a)
def Zqu(a:As):DS :=
 Ai (Da (.one 5) (dB a .list [Aj (Aa 3) (dI 1)]) (Zqr a)) (Zqt a)
def Zqv(a:As):DS :=
 Ai (AG 4 (Aj (BC (Aa 1) (dS "state")) (dI 0))) (Zqu a)
def Zqw:AN:=Bi [("_law_live",0),("_law_s",1),("_law_two",2),("_law_places_here",3),("_law_handed",4)] ["len","_law_taken"]
def Zqx(a:As):DS :=
 Av (dF a 34 [Aa 0,Aa 1,Aa 2,Aa 3,Aa 4,dI 0])
def Zqy(a:As):DS :=
 Ai (Bo (Aq (Aw .eq (Aj (Aj (Aa 4) (dI 0)) (dI 2)) (B3 []))) (Bj (Cq UX (Aj (Aj (Aa 4) (dI 0)) (dI 2)) [Aj (Aa 2) (dI 2)])) (Bo (Aq (Aw .gt (dB a .len [Aj (Aj (Aa 4) (dI 0)) (dI 2)]) (dB a .len [Aj (Aa 2) (dI 2)]))) (Bj (Cr HL (Aj (Aj (Aa 4) (dI 0)) (dI 2)))) (Bj (Cr HL (Aj (Aa 4) (dI 1)))))) (Zqx a)
def Zqz:AN:=Bi [("_law_live",0),("_law_s",1),("_law_programs",2),("_law_cell",3),("_law_two",4),("_law_places_here",5),("_law_odd",6),("_law_handed",7),("_law_due_here",8),("_law_found",9)] ["_law_places","_law_copied","list","_law_odd_place","_law_due","_law_told","_law_mended","_law_repaired","_law_come"]
def Zq0(a:As):DS :=
 Ai (Bo (Aq (Aw .eq (Aa 8) (Az []))) (Ai (CD (Aa 1) (dS "awaited") (Az [Aa 4,Aa 5])) (Bj (dF a 30 [Aa 1]))) (Bo (Aq (Aw .eq (Aa 6) (dI 0))) (CD (Aa 1) (dS "refused") (Az [Aa 4,Aa 5])) AC)) (Av (Aw .eq (Aa 9) (Aa 8)))
def Zq1(a:As):DS :=
 Ai (Bj (Cr EE (Aj (Aa 7) (dI 1)))) (Zq0 a)
def QQ(a:As):DS :=
 Ai (Bj (Cr EE (Aj (Aj (Aa 7) (dI 0)) (dI 2)))) (Zq1 a)
def Zq3(a:As):DS :=
 Ai (Bo (Aq (Aw .isIn (Aa 8) (Az [Az [dS "program"],Az [dS "places"]]))) (Av (DU (Aw .eq (Aa 9) (Aa 8)) (dF a 37 [Aa 0,Aa 1,Aa 4,Aa 5,Aa 7]))) AC) (QQ a)
def QR(a:As):DS :=
 Ai (Bo (Gl (Aq (Aw .eq (HQ (Aa 8) none (some (dI 1))) (Az [dS "unsafe"]))) (Aq (Aw .eq (Ap .mod (Ap .fdiv (Aa 3) (dI 200)) (dI 2)) (dI 0)))) (Av (DU (Aw .eq (Aa 9) (Aa 8)) (dF a 36 [Aa 0,Aa 1,Aa 4,Aa 7]))) AC) (Zq3 a)
def Zq5(a:As):DS :=
 Ai (AG 9 (dF a 32 [Aa 0,Aj (Aa 7) (dI 0),Aj (Aa 7) (dI 1)])) (QR a)
def QS(a:As):DS :=
 Ai (AG 8 (dF a 29 [Aa 1,Aa 4,Aa 5,Aa 6])) (Zq5 a)
def Zq7(a:As):DS :=
 Ai (Bo (Aq (Aw .eq (Aa 6) (dI 2))) (Cb (Aa 7) (dI 1) (EG .add (Aj (Aa 7) (dI 1)) (B3 [dF a 33 [BC (Aa 1) (dS "program"),Aa 4,Aa 5,Ap .fdiv (Aa 3) (dI 192)]]))) AC) (QS a)
def Zq8(a:As):DS :=
 Ai (Bo (Gl (Aq (Aw .eq (Aa 6) (dI 1))) (Aq (Aw .eq (Ap .mod (Ap .fdiv (Aa 3) (dI 192)) (dI 2)) (dI 0)))) (Bj (Cr EE (Aj (Aj (Aa 7) (dI 0)) (dI 2)))) (Bo (Aq (Aw .eq (Aa 6) (dI 1))) (Bj (Cq CV (Aj (Aj (Aa 7) (dI 0)) (dI 2)) [Aj (B3 [Az [dS "go",dI 99],Az [dS "stop",dI 0],Am .none,Az [dS "tell",dI 3],Az [dS "put",dI 0,dI 5]]) (Ap .mod (Ap .fdiv (Aa 3) (dI 384)) (dI 5))])) AC)) (Zq7 a)
def Zq9(a:As):DS :=
 Ai (AG 7 (Di [dF a 28 [Aa 4],D4 (Aa 5)])) (Zq8 a)
def Zra(a:As):DS :=
 Ai (AG 6 (Aj (B3 [dI 0,dI 0,dI 0,dI 0,dI 0,dI 0,dI 1,dI 2]) (Ap .mod (Ap .fdiv (Aa 3) (dI 24)) (dI 8)))) (Zq9 a)
def Zrb(a:As):DS :=
 Ai (Bo (Aq (Aw .eq (Ap .mod (Ap .fdiv (Aa 3) (dI 3)) (dI 8)) (dI 1))) (AG 5 (HQ (Aa 5) none (some (dI 1)))) AC) (Zra a)
def Zrc(a:As):DS :=
 Ai (AG 5 (dF a 21 [Ap .fdiv (Aa 3) (dI 7),BC (Aa 1) (dS "program"),Aa 4])) (Zrb a)
def Zrd(a:As):DS :=
 Ai (AG 4 (Aj (Aa 2) (Ap .mod (Aa 3) (dI 3)))) (Zrc a)
def Zre:AN:=Bi [("_law_one",0),("_law_places_here",1),("_law_row_here",2),("_law_other",3),("_law_rules_here",4),("_law_rule_here",5)] ["len"]
def Zrf(a:As):DS :=
 Bo (Gl (Aq (Aw .eq (Aj (Aa 5) (dI 0)) (dS "by"))) (D8 (Aq (Aw .ge (Aj (Aa 5) (dI 1)) (Aj (Aa 0) (dI 0)))) (Aq (Aw .ne (dB a .len [Aj (Aa 5) (dI 2)]) (Ap .add (Aj (Aa 0) (dI 1)) (dI 1)))))) (Av (Am (.bool false))) AC
def Zrg(a:As):DS :=
 Ai (Bo (Aq (Aw .ge (Aa 2) (dB a .len [Aj (Aa 0) (dI 2)]))) (Av (Am (.bool false))) AC) (Da (.one 5) (Aa 4) (Zrf a))
def Zrh(a:As):DS :=
 Ai (Da (.many [2,3,4]) (Aa 1) (Zrg a)) (Av (Am (.bool true)))
def Zri:AN:=Bi [("_law_live",0),("_law_s",1),("_law_many",2),("_law_turn",3),("_law_is_on",4),("_law_later",5),("_law_found",6)] ["range","_law_step","_law_come","isinstance","bool"]
def Zrj(a:As):DS :=
 Ai (Bo (Aq (Aw .isNot (Aj (Aa 5) (dI 1)) (Am .none))) (CD (Aa 1) (dS "said") (Ap .add (BC (Aa 1) (dS "said")) (B3 [Aj (Aa 5) (dI 1)]))) AC) (Bj (dF a 30 [Aa 1]))
def Zrk(a:As):DS :=
 Ai (CD (Aa 1) (dS "state") (Aj (Aa 5) (dI 0))) (Zrj a)
def Zrl(a:As):DS :=
 Bo (D8 (BU (Aq (dB a .isinstance [Aa 6,Am (.bi .bool)]))) (Aq (Aw .ne (Aa 6) (Aa 4)))) (Av (Am (.bool false))) AC
def Zrm(a:As):DS :=
 Ai (AG 6 (BD a 8 "go" 51 (Aa 0) [])) (Zrl a)
def Zrn(a:As):DS :=
 Ai (Bo (Aq (Aa 4)) (Ai (AG 5 (dF a 24 [BC (Aa 1) (dS "program"),BC (Aa 1) (dS "state")])) (Zrk a)) AC) (Zrm a)
def Zro(a:As):DS :=
 Ai (AG 4 (Aw .isNot (BC (Aa 1) (dS "state")) (Am .none))) (Zrn a)
def Zrp(a:As):DS :=
 Ai (Da (.one 3) (dB a .range [Aa 2]) (Zro a)) (Av (Am (.bool true)))
def Zrq:AN:=Bi [("_law_thing",0)] ["isinstance","tuple","list","all","bool"]
def Zrr:AN:=Bi [("_law_part",1)] ["_law_plain"]
def Zrs(a:As):DS :=
 Av (GK (Aq (dB a .isinstance [Aa 0,Am (.bi .bool)])))
def VL(a:As):DS :=
 Ai (Bo (Aq (Gz (Aa 0) [.tuple,.list])) (Av (dB a .all [Cl (dF a 41 [Aa 1]) Ch 1 (Aa 0)])) AC) (Zrs a)
def Zru:AN:=Bi [("_law_live",0),("_law_turn",1),("_law_found",2),("_law_k",3),("_law_way",4)] ["range"]
def So(a:As):DS :=
 Bo (Aq (Aw .eq (Aa 4) (dI 0))) (Cb (Aa 2) (dI 0) (BD a 8 "said" 53 (Aa 0) [])) (Bo (Aq (Aw .eq (Aa 4) (dI 1))) (Cb (Aa 2) (dI 1) (BD a 8 "program" 55 (Aa 0) [])) (Bo (Aq (Aw .eq (Aa 4) (dI 2))) (Cb (Aa 2) (dI 2) (BD a 8 "state" 54 (Aa 0) [])) (Bo (Aq (Aw .eq (Aa 4) (dI 3))) (Cb (Aa 2) (dI 3) (BD a 8 "waits" 56 (Aa 0) [])) (Cb (Aa 2) (dI 4) (BD a 8 "changed" 57 (Aa 0) [])))))
def Zrw(a:As):DS :=
 Ai (AG 4 (Ap .mod (Ap .add (Aa 1) (Ap .mul (Aa 3) (Aj (B3 [dI 1,dI 4]) (Ap .mod (Ap .fdiv (Aa 1) (dI 5)) (dI 2))))) (dI 5))) (So a)
def Zrx(a:As):DS :=
 Ai (Da (.one 3) (dB a .range [dI 5]) (Zrw a)) (Av (Aa 2))
def Zry(a:As):DS :=
 Ai (AG 2 (EG .rep (B3 [Am .none]) (dI 5))) (Zrx a)
def Zrz:AN:=Bi [("_law_live",0),("_law_s",1),("_law_held",2),("_law_turn",3),("_law_said",4),("_law_program_here",5),("_law_state",6),("_law_waits",7),("_law_many",8)] ["_law_answers","isinstance","list","bool","_law_plain"]
def Zr0(a:As):DS :=
 Av (DU (dF a 41 [B3 [Aa 4,Aj (Aa 5) (dI 2),Aa 6,Aa 8]]) (Aw .eq (Aa 8) (BC (Aa 1) (dS "changed"))))
def Zr1(a:As):DS :=
 Ai (Bj (Cq CV (Aa 2) [Az [Aj (Aa 5) (dI 2),dB a .list [Aj (Aa 5) (dI 2)]]])) (Zr0 a)
def Zr2(a:As):DS :=
 Ai (Bj (Cq CV (Aa 2) [Az [Aa 4,dB a .list [Aa 4]]])) (Zr1 a)
def Zr3(a:As):DS :=
 Ai (Bj (Cq CV (Aj (Aa 5) (dI 2)) [Az [dS "stop"]])) (Zr2 a)
def Zr4(a:As):DS :=
 Ai (Bj (Cq CV (Aa 4) [dI 9])) (Zr3 a)
def Zr5(a:As):DS :=
 Ai (Bo (D8 (BU (Aq (dB a .isinstance [Aj (Aa 5) (dI 2),Am (.bi .list)]))) (D8 (BU (Aq (dB a .isinstance [Aa 7,Am (.bi .bool)]))) (Aq (Aw .ne (Aa 7) (Aw .isNot (BC (Aa 1) (dS "awaited")) (Am .none)))))) (Av (Am (.bool false))) AC) (Zr4 a)
def Zr6(a:As):DS :=
 Ai (Bo (D8 (BU (Aq (dB a .isinstance [Aa 4,Am (.bi .list)]))) (Aq (Aw .ne (B3 [Aa 4,Aa 5,Aa 6]) (B3 [BC (Aa 1) (dS "said"),BC (Aa 1) (dS "program"),BC (Aa 1) (dS "state")])))) (Av (Am (.bool false))) AC) (Zr5 a)
def Zr7(a:As):DS :=
 Ai (Hs [4,5,6,7,8] (dF a 42 [Aa 0,Aa 3])) (Zr6 a)
def Zr8:AN:=Bi [("_law_program_here",0),("_law_begin",1),("_law_handed",2),("_law_live",3),("_law_s",4)] ["_law_copied","Live"]
def Zr9(a:As):DS :=
 Ai (AG 4 (Hr ["program","state","awaited","said","changed","refused"] [Aa 0,Az [dI 0,Aa 1],Am .none,B3 [],dI 0,Am .none])) (Av (Az [Aa 3,Aa 4]))
def Zsa(a:As):DS :=
 Ai (Bj (Cr EE (Aj (Aa 2) (dI 2)))) (Zr9 a)
def Zsb(a:As):DS :=
 Ai (AG 3 (Ft a 8 49 [Aa 2,Aa 1])) (Zsa a)
def Zsc(a:As):DS :=
 Ai (AG 2 (dF a 28 [Aa 0])) (Zsb a)
def Zsd:AN:=Bi [("_law_program_here",0),("_law_begin",1),("_law_cell",2),("_law_odd",3),("_law_e",4)] ["list","Live","SwapError","_law_kinds","int"] [] ["_law_e"]
def Zse(a:As):DS :=
 Ai (EA (Ft a 8 49 [Aj (Aa 3) (dI 0),Aj (Aa 3) (dI 1)]) [1,3,2,6,5,7] 4 (Av (Aw .eq (dF a 31 [Aa 4]) (Aj (B3 [Az [dS "state"],Az [dS "program"]]) (dB a .int [Aw .gt (Ap .mod (Aa 2) (dI 5)) (dI 2)]))))) (Av (Am (.bool false)))
def Zsf(a:As):DS :=
 Ai (AG 3 (Aj (Aa 3) (Ap .mod (Aa 2) (dI 5)))) (Zse a)
def Zsg(a:As):DS :=
 Ai (AG 3 (B3 [Az [Aa 0,dB a .list [Aa 1]],Az [Aa 0,Ap .add (Aa 1) (Az [dI 0])],Az [Aa 0,Am .none],Az [Am .none,Aa 1],Az [Az [dI 1,dI 1,B3 []],Az [dI 0]]])) (Zsf a)
def VM:AN:=Bi [("_law_script",0),("_law_programs",1),("_law_begin",2),("_law_pairs",3),("_law_held",4),("_law_cell",5),("_law_live",6),("_law_s",7),("_law_good",8),("_law_stands_here",9)] ["range","_law_numbers","_law_cell_at","_law_not_made","_law_begun","int","_law_asked","_law_gone","_law_again"] ["_law_cell","_law_held","_law_script"]
def Zsh:AN:=Bi [("_law_k",10),("_law_script",0)] ["_law_program","_law_cell_at"] ["_law_script"]
def Zsi:AN:=Bi [("_law_pair",11),("_law_held",4),("_law_cell",5)] ["_law_stands"] ["_law_held","_law_cell"]
def Zsj:AN:=Bi [("_law_pair",12)] []
def Zsk(a:As):DS :=
 Bo (Gl (Aq (Aa 8)) (Aq (Aw .isNot (BC (Aa 7) (dS "refused")) (Am .none)))) (AG 8 (dF a 35 [Aa 6,Aa 7])) AC
def Zsl(a:As):DS :=
 Bo (D8 (BU (Aq (Aa 8))) (Aq (Aw .ne (Aa 9) (B3 [Am (.bool true),Am (.bool true)])))) (Av (Am (.bool false))) AC
def Zsm(a:As):DS :=
 Ai (AG 9 (F7 (dF a 43 [Aj (Aa 11) (dI 0),Aj (Aa 11) (dI 1),Aa 4,Ap .fdiv (Aa 5) (dI 160)]) Ch 11 (Aa 3))) (Zsl a)
def Zsn(a:As):DS :=
 Ai (Bo (Aq (Aw .eq (Ap .mod (Aa 5) (dI 3)) (dI 0))) (AG 8 (dF a 38 [Aa 6,Aa 7,Aa 1,Ap .fdiv (Aa 5) (dI 3)])) (Ai (AG 8 (dF a 40 [Aa 6,Aa 7,Ap .add (dI 1) (Ap .mod (Ap .fdiv (Aa 5) (dI 3)) (dI 6))])) (Zsk a))) (Zsm a)
def Zso(a:As):DS :=
 Ai (EJ (.many [6,7]) (Aj (Aa 3) (dB a .int [Aw .eq (Ap .mod (Ap .fdiv (Aa 5) (dI 40)) (dI 4)) (dI 1)]))) (Zsn a)
def Zsp(a:As):DS :=
 Av (Aw .eq (Cl (Aa 12) (Aq (Aw .ne (Aj (Aa 12) (dI 0)) (Aj (Aa 12) (dI 1)))) 12 (Aa 4)) (B3 []))
def VN(a:As):DS :=
 Ai (Da (.one 5) (HQ (Aa 0) (some (dI 5)) (some (dI 21))) (Zso a)) (Zsp a)
def Zsr(a:As):DS :=
 Ai (Bj (Cq CV (Aa 3) [dF a 44 [Aj (Aa 1) (dI 1),dF a 22 [dF a 16 [Aa 0,dI 4],Aj (Aa 1) (dI 1)]]])) (Ai (AG 4 (Di [])) (VN a))
def Zss(a:As):DS :=
 Ai (AG 3 (Di [dF a 44 [Aj (Aa 1) (dI 0),Aa 2]])) (Zsr a)
def Zst(a:As):DS :=
 Ai (Bo (BU (Aq (dF a 45 [Aj (Aa 1) (dI 0),Aa 2,dF a 16 [Aa 0,dI 3]]))) (Av (Am (.bool false))) AC) (Zss a)
def Zsu(a:As):DS :=
 Ai (AG 2 (dF a 22 [dF a 16 [Aa 0,dI 3],Aj (Aa 1) (dI 0)])) (Zst a)
def Jk(a:As):DS :=
 Ai (AG 1 (Cl (dF a 19 [dF a 16 [Aa 0,Aa 10]]) Ch 10 (dB a .range [dI 3]))) (Zsu a)
noncomputable def Zsv:AN:={ Γ:=[("program",0)],G:=["list"],K:=[],L:=[],bias:=1000000000000 }
def Zsw(a:As):DS :=
 Av (Az [Aj (Aa 0) (dI 0),Aj (Aa 0) (dI 1),D4 (Aj (Aa 0) (dI 2))])
def Zsx:AN:=Bi [("self",0),("shown",1)] ["SwapError"]
def Zsy(a:As):DS :=
 Ai (Bj (FF 7 [Aa 0,dS "the change does not come"])) (Hy 7 "shown" (Aa 0) (Aa 1))
def Zsz:AN:=Bi [("self",0),("program",1),("begin",2)] ["need_program","are_numbers","BadState","copied"]
def Zs0(a:As):DS :=
 Ai (CF 8 "wanted" (Aa 0) (Am .none)) (CF 8 "many" (Aa 0) (dI 0))
def Zs1(a:As):DS :=
 Ai (CF 8 "told" (Aa 0) (Di [])) (Zs0 a)
def Zs2(a:As):DS :=
 Ai (CF 8 "now" (Aa 0) (Az [dI 0,Aa 2])) (Zs1 a)
def Zs3(a:As):DS :=
 Ai (CF 8 "running" (Aa 0) (dF a 15 [Aa 1])) (Zs2 a)
def Zs4(a:As):DS :=
 Ai (Bo (BU (Aq (dF a 4 [Aa 1,Aa 2]))) (Db 2 (dS "no begin of that program")) AC) (Zs3 a)
def Sp(a:As):DS :=
 Ai (Bj (dF a 3 [Aa 1])) (Zs4 a)
def Zs6:AN:=Bi [("self",0),("place",1)] ["place_at","turned"]
def Zs7(a:As):DS :=
 CF 8 "many" (Aa 0) (Ap .add (BM 8 "many" (Aa 0)) (dI 1))
def Zs8(a:As):DS :=
 Ai (CF 8 "wanted" (Aa 0) (Am .none)) (Zs7 a)
def Zs9(a:As):DS :=
 Ai (CF 8 "running" (Aa 0) (Aj (BM 8 "wanted" (Aa 0)) (dI 0))) (Zs8 a)
def Zta(a:As):DS :=
 Bo (Aq (Aw .isNot (Aa 1) (Am .none))) (Ai (CF 8 "now" (Aa 0) (Az [Aj (Aa 1) (dI 1),dF a 12 [Aj (Aa 1) (dI 2),Aj (BM 8 "now" (Aa 0)) (dI 1)]])) (Zs9 a)) AC
def Ztb(a:As):DS :=
 Ai (AG 1 (dF a 13 [Aj (BM 8 "wanted" (Aa 0)) (dI 1),Aj (BM 8 "now" (Aa 0)) (dI 0)])) (Zta a)
def Ztc(a:As):DS :=
 Ai (Bo (D8 (Aq (Aw .is (BM 8 "wanted" (Aa 0)) (Am .none))) (Aq (Aw .is (BM 8 "now" (Aa 0)) (Am .none)))) (Av (Am .none)) AC) (Ztb a)
def Ztd:AN:=Bi [("self",0),("number",1)] ["done"]
def Zte(a:As):DS :=
 Ai (Bj (BD a 8 "come" 50 (Aa 0) [])) (Av (Am (.bool true)))
def Ztf(a:As):DS :=
 Ai (Bo (Aq (Aw .is (BM 8 "now" (Aa 0)) (Am .none))) (CF 8 "wanted" (Aa 0) (Am .none)) AC) (Zte a)
def Ztg(a:As):DS :=
 Ai (Bo (Aq (Aw .isNot (Aa 1) (Am .none))) (Bj (Cq CV (BM 8 "told" (Aa 0)) [Aa 1])) AC) (Ztf a)
def Zth(a:As):DS :=
 Ai (FG 8 "now" (Aa 0) 1 (dF a 6 [BM 8 "running" (Aa 0),BM 8 "now" (Aa 0)])) (Ztg a)
def Zti(a:As):DS :=
 Ai (Bo (Aq (Aw .is (BM 8 "now" (Aa 0)) (Am .none))) (Av (Am (.bool false))) AC) (Zth a)
def Ztj:AN:=Bi [("self",0),("two",1),("places",2),("good",3),("found",4)] ["Over","Busy","need_program","need_places","meets","Unsafe","copied"]
def Ztk(a:As):DS :=
 Bj (BD a 8 "come" 50 (Aa 0) [])
def Ztl(a:As):DS :=
 Ai (CF 8 "wanted" (Aa 0) (Az [dF a 15 [Aa 1],Aa 3])) (Ztk a)
def Ztm(a:As):DS :=
 Ai (Bo (D8 (Aq (Aw .eq (Aj (Aa 4) (dI 0)) (dS "stuck"))) (Aq (Aw .eq (Aj (Aa 4) (dI 0)) (dS "missed")))) (Se 7 (G1 a 7 48 [Aa 4])) AC) (Ztl a)
def Ztn(a:As):DS :=
 Ai (AG 4 (dF a 14 [BM 8 "running" (Aa 0),Aa 3,BM 8 "now" (Aa 0)])) (Ztm a)
def Zto(a:As):DS :=
 Ai (AG 3 (dF a 10 [BM 8 "running" (Aa 0),Aa 1,Aa 2])) (Ztn a)
def Ztp(a:As):DS :=
 Ai (Bj (dF a 3 [Aa 1])) (Zto a)
def Ztq(a:As):DS :=
 Ai (Bo (Aq (Aw .isNot (BM 8 "wanted" (Aa 0)) (Am .none))) (Db 5 (dS "a change is waited for")) AC) (Ztp a)
def La(a:As):DS :=
 Ai (Bo (Aq (Aw .is (BM 8 "now" (Aa 0)) (Am .none))) (Db 6 (dS "the run is over")) AC) (Ztq a)
def Zts:AN:=Bi [("self",0)] ["list"]
def Ztt(a:As):DS :=
 Av (D4 (BM 8 "told" (Aa 0)))
def Ztu:AN:=Bi [("self",0)] []
def Ztv(a:As):DS :=
 Av (BM 8 "now" (Aa 0))
def Ztw:AN:=Bi [("self",0)] ["copied"]
def Ztx(a:As):DS :=
 Av (dF a 47 [BM 8 "running" (Aa 0)])
def Zty:AN:=Bi [("self",0)] []
def Ztz(a:As):DS :=
 Av (Aw .isNot (BM 8 "wanted" (Aa 0)) (Am .none))
def Zt0:AN:=Bi [("self",0)] []
def Zt1(a:As):DS :=
 Av (BM 8 "many" (Aa 0))
def ckD:Ck:={ gf:=[((aA "_law_again"),35),((aA "_law_answers"),42),((aA "_law_asked"),38),((aA "_law_begun"),44),((aA "_law_cell_at"),16),((aA "_law_come"),30),((aA "_law_copied"),28),((aA "_law_due"),29),((aA "_law_fits"),39),((aA "_law_gone"),40),((aA "_law_kinds"),31),((aA "_law_mended"),36),((aA "_law_met"),27),((aA "_law_next"),17),((aA "_law_not_made"),45),((aA "_law_numbers"),22),((aA "_law_odd_place"),33),((aA "_law_places"),21),((aA "_law_plain"),41),((aA "_law_program"),19),((aA "_law_put"),23),((aA "_law_repaired"),37),((aA "_law_row"),18),((aA "_law_rule"),20),((aA "_law_rules"),26),((aA "_law_stands"),43),((aA "_law_step"),24),((aA "_law_taken"),34),((aA "_law_told"),32),((aA "_law_turned"),25),((aA "are_numbers"),4),((aA "copied"),15),((aA "done"),6),((aA "is_among"),0),((aA "is_number"),7),((aA "is_place"),9),((aA "is_program"),2),((aA "is_row"),1),((aA "is_rule"),8),((aA "law"),46),((aA "meets"),14),((aA "need_places"),10),((aA "need_program"),3),((aA "number_by"),11),((aA "place_at"),13),((aA "turned"),12),((aA "with_number"),5)],ga:=[((aA "copied"),47)],hot:=[31],gi:=[((aA "MOST_BOXES"),3),((aA "MOST_NUMBER"),4),((aA "MOST_PLACES"),20),((aA "MOST_ROWS"),20)],gb:=[((aA "ValueError"),.valueError),((aA "all"),.all),((aA "bool"),.bool),((aA "int"),.int),((aA "isinstance"),.isinstance),((aA "len"),.len),((aA "list"),.list),((aA "range"),.range),((aA "str"),.str),((aA "tuple"),.tuple)],cl:=[((aA "BadCount"),4),((aA "BadPlaces"),3),((aA "BadProgram"),1),((aA "BadState"),2),((aA "Busy"),5),((aA "Live"),8),((aA "Over"),6),((aA "SwapError"),0),((aA "Unsafe"),7)],own:=[((aA "BadProgram"),1),((aA "BadPlaces"),3),((aA "BadState"),2),((aA "Over"),6),((aA "Busy"),5)],md:=[((aA "come"),50),((aA "go"),51),((aA "ask"),52),((aA "said"),53),((aA "state"),54),((aA "program"),55),((aA "waits"),56),((aA "changed"),57)],ats:=[(aA "many"),(aA "now"),(aA "running"),(aA "told"),(aA "wanted")],tr:=[((aA "SwapError"),[1,3,2,6,5,7])],xa:=[(aA "shown")],bs:=[0],cL:=8,iL:=49,cX:=7,iX:=48,x1:=[(335032056,.own 6,[(1,false),(3,false),(2,false),(6,true),(5,false),(7,false)]),(335075099,.own 5,[(1,false),(3,false),(2,false),(6,false),(5,true),(7,false)]),(336048078,.own 1,[(1,true),(3,false),(2,false),(6,false),(5,false),(7,false)]),(336099128,.own 3,[(1,false),(3,true),(2,false),(6,false),(5,false),(7,false)]),(337046074,.own 2,[(1,false),(3,false),(2,true),(6,false),(5,false),(7,false)]),(337094122,.own 4,[(1,false),(3,false),(2,false),(6,false),(5,false),(7,false)]),(338007033,.own 7,[(1,false),(3,false),(2,false),(6,false),(5,false),(7,true)]),(340053083,.bi .valueError,[(1,true),(3,true),(2,true),(6,true),(5,true),(7,true)])],xt:=[],hint:=[(110044060,1),(112008029,1),(130011013,1),(138011024,2),(139030041,2),(139050061,2),(140008026,2),(235016018,1),(238008079,1),(245024026,1),(247008138,1),(250017019,1),(256012138,3),(265020043,1),(287017019,1),(294008038,1),(299008054,1),(302016018,1),(304011034,2),(305030051,2),(305053067,2),(305070091,2),(306011043,1),(307055085,1),(307113127,2),(308032046,2),(308008046,2),(310020034,2),(312056082,1),(314007022,3),(316007024,3),(320026043,3),(320075090,3),(325007022,3),(326008032,3),(327007024,3),(328051068,3),(328092107,3),(330079094,3),(330012099,3),(331032049,3),(331012052,3),(332012036,3),(333032049,3),(333012053,3),(335032056,7),(335017057,1),(335075099,7),(335060100,1),(336048078,7),(336030079,1),(336099128,7),(336082129,1),(337046074,7),(337030075,1),(337094122,7),(337078123,1),(338007033,7),(339045057,1),(340053083,7),(340030084,1),(348028053,1),(363008056,3),(367033050,3),(368004028,3),(369037054,3),(370093115,1),(372020035,3),(375012045,5),(376070095,1),(376004098,1),(380008045,4),(388051068,3),(392042064,1),(392018065,1),(396008115,1),(398058075,3),(398025123,2),(408008056,3),(411008056,3),(423021036,3),(425035052,3),(425054069,3),(426012043,3),(428033047,3),(428016065,3),(435007044,7),(439017027,3),(454004104,2),(455089103,3),(455105122,3),(455124139,3),(457104121,3),(459004023,1),(460004042,1),(461004050,1),(462004072,1),(463097114,3),(466016045,3),(474008038,3),(483017059,1),(484004113,1),(485016018,1),(492029046,3),(494008125,1),(1000146036052,1),(19008060,2),(20008026,1),(155020022,1),(172008055,1),(174012036,1),(189018031,4),(189012031,1),(194015030,1),(200015035,9)],comp:=[(51015068,Zlt,4),(61015068,Zl2,2),(98015061,Zml,3),(104043089,Zms,3),(119018062,Zm5,3),(255036135,Zoc,7),(328021111,Zps,2),(436019070,Zrr,1),(479020092,Zsh,10),(494027125,Zsi,11),(497011081,Zsj,12)] }
def fl:List FD:=[⟨Zlh,Bd ap 13,Zli,["thing","least","most"],true,AJ ap 13⟩,⟨Zlj,Bd ap 14,HD,["row","boxes","most","many"],true,AJ ap 14⟩,⟨Zls,Bd ap 15,QM,["thing"],true,AJ ap 15⟩,⟨Zlz,Bd ap 16,VD,["thing"],true,AJ ap 16⟩,⟨Zl1,Bd ap 17,VE,["program","thing"],true,AJ ap 17⟩,⟨Zl5,Bd ap 18,Zl6,["numbers","box","number"],true,AJ ap 18⟩,⟨QN,Bd ap 19,Jj,["program","state"],true,AJ ap 19⟩,⟨Zmi,Bd ap 22,VF,["two","thing"],true,AJ ap 22⟩,⟨Zmk,Bd ap 23,Ij,["one","two","rule"],true,AJ ap 23⟩,⟨Zmr,Bd ap 24,JU,["one","two","place"],true,AJ ap 24⟩,⟨Zmw,Bd ap 25,VJ,["one","two","places"],true,AJ ap 25⟩,⟨Zm1,Bd ap 26,Zm3,["rule","numbers"],true,AJ ap 26⟩,⟨Zm4,Bd ap 27,Zm7,["rules","numbers"],true,AJ ap 27⟩,⟨Zm8,Bd ap 28,Zna,["places","row"],true,AJ ap 28⟩,⟨Znb,Bd ap 30,Zng,["one","places","state"],true,AJ ap 30⟩,⟨Znh,Bd ap 32,Zni,["program"],true,AJ ap 32⟩,⟨Znj,Bd ap 35,Znk,["_law_script","_law_k"],true,AJ ap 35⟩,⟨Znl,Bd ap 36,Znm,["_law_seed"],true,AJ ap 36⟩,⟨Znn,Bd ap 37,Znw,["_law_seed","_law_boxes","_law_most","_law_many"],true,AJ ap 37⟩,⟨Znx,Bd ap 38,Zn5,["_law_cell"],true,AJ ap 38⟩,⟨Zn6,Bd ap 39,Zoa,["_law_seed","_law_one","_law_two"],true,AJ ap 39⟩,⟨Zob,Bd ap 40,Zoi,["_law_cell","_law_one","_law_two"],true,AJ ap 40⟩,⟨Zoj,Bd ap 41,Zon,["_law_seed","_law_program_here"],true,AJ ap 41⟩,⟨Zoo,Bd ap 42,Zoq,["_law_numbers_here","_law_box","_law_number"],true,AJ ap 42⟩,⟨Zor,Bd ap 43,Zo1,["_law_program_here","_law_state"],true,AJ ap 43⟩,⟨Zo2,Bd ap 44,Zo7,["_law_rules_here","_law_numbers_here"],true,AJ ap 44⟩,⟨Zo8,Bd ap 45,Zpb,["_law_places_here"],false,AJ ap 45⟩,⟨Zpc,Bd ap 46,Zpi,["_law_one","_law_rules_here","_law_state"],true,AJ ap 46⟩,⟨Zpj,Bd ap 47,Zpk,["_law_program_here"],false,AJ ap 47⟩,⟨Zpl,Bd ap 48,Zpq,["_law_s","_law_two","_law_places_here","_law_odd"],true,AJ ap 48⟩,⟨Zpr,Bd ap 49,Zpy,["_law_s"],false,AJ ap 49⟩,⟨Zpz,Bd ap 50,KZ,["_law_e"],true,AJ ap 50⟩,⟨Zp5,Bd ap 51,QP,["_law_live","_law_two","_law_places_here"],false,AJ ap 51⟩,⟨Zp7,Bd ap 52,Zqe,["_law_one","_law_two","_law_places_here","_law_cell"],false,AJ ap 52⟩,⟨Zqf,Bd ap 53,Zqk,["_law_live","_law_s","_law_two","_law_places_here","_law_handed","_law_odd"],false,AJ ap 53⟩,⟨Zql,Bd ap 54,Zqp,["_law_live","_law_s"],false,AJ ap 54⟩,⟨Zqq,Bd ap 55,Zqv,["_law_live","_law_s","_law_two","_law_handed"],false,AJ ap 55⟩,⟨Zqw,Bd ap 56,Zqy,["_law_live","_law_s","_law_two","_law_places_here","_law_handed"],false,AJ ap 56⟩,⟨Zqz,Bd ap 57,Zrd,["_law_live","_law_s","_law_programs","_law_cell"],false,AJ ap 57⟩,⟨Zre,Bd ap 58,Zrh,["_law_one","_law_places_here"],true,AJ ap 58⟩,⟨Zri,Bd ap 59,Zrp,["_law_live","_law_s","_law_many"],false,AJ ap 59⟩,⟨Zrq,Bd ap 60,VL,["_law_thing"],true,AJ ap 60⟩,⟨Zru,Bd ap 61,Zry,["_law_live","_law_turn"],false,AJ ap 61⟩,⟨Zrz,Bd ap 62,Zr7,["_law_live","_law_s","_law_held","_law_turn"],false,AJ ap 62⟩,⟨Zr8,Bd ap 63,Zsc,["_law_program_here","_law_begin"],false,AJ ap 63⟩,⟨Zsd,Bd ap 64,Zsg,["_law_program_here","_law_begin","_law_cell"],true,AJ ap 64⟩,⟨VM,Bd ap 65,Jk,["_law_script"],true,AJ ap 65⟩,⟨Zsv,Bd ap 32,Zsw,["program"],false,AJ ap 32⟩,⟨Zsx,D6 ap 8 0,Zsy,["self","shown"],false,CP ap 8 0⟩,⟨Zsz,D6 ap 33 0,Sp,["self","program","begin"],false,CP ap 33 0⟩,⟨Zs6,D6 ap 33 1,Ztc,["self"],false,CP ap 33 1⟩,⟨Ztd,D6 ap 33 2,Zti,["self"],false,CP ap 33 2⟩,⟨Ztj,D6 ap 33 3,La,["self","two","places"],false,CP ap 33 3⟩,⟨Zts,D6 ap 33 4,Ztt,["self"],false,CP ap 33 4⟩,⟨Ztu,D6 ap 33 5,Ztv,["self"],true,CP ap 33 5⟩,⟨Ztw,D6 ap 33 6,Ztx,["self"],false,CP ap 33 6⟩,⟨Zty,D6 ap 33 7,Ztz,["self"],true,CP ap 33 7⟩,⟨Zt0,D6 ap 33 8,Zt1,["self"],true,CP ap 33 8⟩]
end
end Mine
noncomputable def PySem.W.Fast.tw12477341616863490073:cB:=ap
theorem PySem.W.Fast.te12477341616863490073:ap=PySem.W.Fast.tw12477341616863490073:=rfl
noncomputable def PySem.W.Fast.tw1411028270935627829:=@Mine.chk
theorem PySem.W.Fast.te1411028270935627829:@Mine.chk=@PySem.W.Fast.tw1411028270935627829:=rfl
noncomputable def PySem.W.Fast.tw16176028825788880018:=@Mine.ckD
theorem PySem.W.Fast.te16176028825788880018:@Mine.ckD=@PySem.W.Fast.tw16176028825788880018:=rfl
noncomputable def PySem.W.Fast.tw5253327103381308171:=@Mine.fl
theorem PySem.W.Fast.te5253327103381308171:@Mine.fl=@PySem.W.Fast.tw5253327103381308171:=rfl
namespace Mine
open PySem PySem.W PyProof.Rows PySem.Calls PySem.SeqAt
section
variable {C:Cx}{K:aG}{mg mb:aW->Option aC}{n:Nat}{Φ:As}
theorem VO{F:Ej C K mg mb ckD}{hF₀:FS C Φ n}:fl.map (fun q=>chk F hF₀ q.S q.b)=fl.map fun q=>some (q.k Φ):=by kernel_rfl
theorem VP(F:Ej C K mg mb ckD)(n:Nat)(a:As)(hF₀:FS C a n)(q:FD)(h:q∈fl):EH C (n+1) q.S q.b (q.k a):=QF (F:=F) (hF₀:=hF₀) (ih.mp VO q h)
end
def tbl(k:Nat):Option CK:=(fl[k]?).map FD.f
section
variable {n:Nat}{args:List AV}{H aa:AH}{Q:AV->AH->Prop}{c:Nat}
theorem Zt2(h:Z (CK.run ⟨1,true,VD⟩ (AF tbl n) args H) c aa):Z (AF tbl (n+1) 3 args H) c aa:=H8 rfl h
theorem Zt3(h:Z (CK.run ⟨3,true,VJ⟩ (AF tbl n) args H) c aa):Z (AF tbl (n+1) 10 args H) c aa:=H8 rfl h
theorem Zt4(h:Z (CK.run ⟨3,false,Sp⟩ (AF tbl n) args H) c aa):Z (AF tbl (n+1) 49 args H) c aa:=H8 rfl h
theorem Zt5(h:Z (CK.run ⟨3,false,La⟩ (AF tbl n) args H) c aa):Z (AF tbl (n+1) 52 args H) c aa:=H8 rfl h
theorem Zt6(h:ZX (CK.run ⟨3,false,La⟩ (AF tbl n) args H) Q):ZX (AF tbl (n+1) 52 args H) Q:=Q7 rfl h
end
noncomputable def Jl:List aW:=["SwapError","BadProgram","BadState","BadPlaces","BadCount","Busy","Over","Unsafe","Live"]
def CQ(K:aG):List aF:=[Ad K "is_among",Ad K "is_row",Ad K "is_program",Ad K "need_program",Ad K "are_numbers",Ad K "with_number",Ad K "done",Ad K "is_number",Ad K "is_rule",Ad K "is_place",Ad K "need_places",Ad K "number_by",Ad K "turned",Ad K "place_at",Ad K "meets",Ad K "copied",Ad K "_law_cell_at",Ad K "_law_next",Ad K "_law_row",Ad K "_law_program",Ad K "_law_rule",Ad K "_law_places",Ad K "_law_numbers",Ad K "_law_put",Ad K "_law_step",Ad K "_law_turned",Ad K "_law_rules",Ad K "_law_met",Ad K "_law_copied",Ad K "_law_due",Ad K "_law_come",Ad K "_law_kinds",Ad K "_law_told",Ad K "_law_odd_place",Ad K "_law_taken",Ad K "_law_again",Ad K "_law_mended",Ad K "_law_repaired",Ad K "_law_asked",Ad K "_law_fits",Ad K "_law_gone",Ad K "_law_plain",Ad K "_law_answers",Ad K "_law_stands",Ad K "_law_begun",Ad K "_law_not_made",Ad K "law",Ad K "copied",GC K (Ad K "Unsafe") "__init__",GC K (Ad K "Live") "__init__",GC K (Ad K "Live") "come",GC K (Ad K "Live") "go",GC K (Ad K "Live") "ask",GC K (Ad K "Live") "said",GC K (Ad K "Live") "state",GC K (Ad K "Live") "program",GC K (Ad K "Live") "waits",GC K (Ad K "Live") "changed"]
theorem tie{w:eL}{a:aE}{mg mb:aW->Option aC}{K:aG}{p:cB}{loose:List aW}{m:ExcName->Option aC}(X:K.In a.heap)(T:Top p loose m mg mb a.heap)(h:importsNone p=true){f:aF}(e:mg "law"=some (.ref f))
  {l:aF} {vs:List aC} {ns:List Int} (F:a.heap.IsList l vs.toArray) (E:IntsAre vs ns)
  (i:ckK K (fun k=>(CQ K).getD k 0) (fun k=>Ad K (Jl.getD k "")) ckD=true) (z:(fl.zip (CQ K)).map (fun q=>fdT K q.2)=(fl.zip (CQ K)).map fun q=>fdW q.1) (A:EU K (fl.zip (CQ K)) 1) (n:EU K (fl.zip (CQ K)) 2) (r:EU K (fl.zip (CQ K)) 3) (u:EU K (fl.zip (CQ K)) 4) (v:EU K (fl.zip (CQ K)) 5) (y:EU K (fl.zip (CQ K)) 6)
  (t:(Ds K "SwapError"&&dD (Ad K "SwapError") (Ad K "SwapError"))=true)
  (x0:exmOne K (.ref (Ad K "BadProgram")) (.ref (Ad K "SwapError"))=some true)
  (x1:exmOne K (.ref (Ad K "BadPlaces")) (.ref (Ad K "SwapError"))=some true)
  (x2:exmOne K (.ref (Ad K "BadState")) (.ref (Ad K "SwapError"))=some true)
  (x3:exmOne K (.ref (Ad K "Over")) (.ref (Ad K "SwapError"))=some true)
  (x4:exmOne K (.ref (Ad K "Busy")) (.ref (Ad K "SwapError"))=some true)
  (x5:exmOne K (.ref (Ad K "Unsafe")) (.ref (Ad K "SwapError"))=some true)
  (x6:IN K (Ad K "Live"))
  (x7:findIn K (.ref (Ad K "Unsafe")) "__setattr__"=some (some (.builtin "object.__setattr__")))
  (x8:findIn K (.ref (Ad K "Unsafe")) "shown"=some none)
  (x9:subIn K (.ref (Ad K "Unsafe")) (.type "object")=some true)
  (x10:specialIn K (.ref (Ad K "SwapError")) "__getattribute__"=some (some (.builtin "type.__getattribute__")))
  (JA:readsIn K (Ad K "SwapError") (.type "type")=true)
  (JB:findCls K (.ref (Ad K "SwapError")) (.type "type") "__init__"=some (.val (.builtin "ValueError.__init__")))
  (JC:IP K (Ad K "Unsafe"))
  (FV:Dz K (Ad K "Unsafe")=true)
  (JD:kitOne K (.ref (Ad K "Unsafe")) (.ref (Ad K "Over"))=some false)
  (Ga:Dz K (Ad K "Busy")=true)
  (JE:kitOne K (.ref (Ad K "Busy")) (.ref (Ad K "Over"))=some false)
  (Gb:Dz K (Ad K "Over")=true)
  (x19:kitOne K (.ref (Ad K "Over")) (.ref (Ad K "Over"))=some true)
  (JF:Dz K (Ad K "BadState")=true)
  (x21:kitOne K (.ref (Ad K "BadState")) (.ref (Ad K "Over"))=some false)
  (G8:Dz K (Ad K "BadPlaces")=true)
  (JX:kitOne K (.ref (Ad K "BadPlaces")) (.ref (Ad K "Over"))=some false)
  (G9:Dz K (Ad K "BadProgram")=true)
  (JY:kitOne K (.ref (Ad K "BadProgram")) (.ref (Ad K "Over"))=some false)
  (JZ:kitOne K (.ref (Ad K "Unsafe")) (.ref (Ad K "Busy"))=some false)
  (Ka:kitOne K (.ref (Ad K "Busy")) (.ref (Ad K "Busy"))=some true)
  (Kb:kitOne K (.ref (Ad K "Over")) (.ref (Ad K "Busy"))=some false)
  (x29:kitOne K (.ref (Ad K "BadState")) (.ref (Ad K "Busy"))=some false)
  (Kc:kitOne K (.ref (Ad K "BadPlaces")) (.ref (Ad K "Busy"))=some false)
  (Ke:kitOne K (.ref (Ad K "BadProgram")) (.ref (Ad K "Busy"))=some false)
  (Kf:kitOne K (.ref (Ad K "Unsafe")) (.ref (Ad K "BadProgram"))=some false)
  (Kg:kitOne K (.ref (Ad K "Busy")) (.ref (Ad K "BadProgram"))=some false)
  (Kh:kitOne K (.ref (Ad K "Over")) (.ref (Ad K "BadProgram"))=some false)
  (Ki:kitOne K (.ref (Ad K "BadState")) (.ref (Ad K "BadProgram"))=some false)
  (Kj:kitOne K (.ref (Ad K "BadPlaces")) (.ref (Ad K "BadProgram"))=some false)
  (Kk:kitOne K (.ref (Ad K "BadProgram")) (.ref (Ad K "BadProgram"))=some true)
  (Kl:kitOne K (.ref (Ad K "Unsafe")) (.ref (Ad K "BadPlaces"))=some false)
  (JG:kitOne K (.ref (Ad K "Busy")) (.ref (Ad K "BadPlaces"))=some false)
  (Km:kitOne K (.ref (Ad K "Over")) (.ref (Ad K "BadPlaces"))=some false)
  (Kn:kitOne K (.ref (Ad K "BadState")) (.ref (Ad K "BadPlaces"))=some false)
  (Ko:kitOne K (.ref (Ad K "BadPlaces")) (.ref (Ad K "BadPlaces"))=some true)
  (Kq:kitOne K (.ref (Ad K "BadProgram")) (.ref (Ad K "BadPlaces"))=some false)
  (Kr:kitOne K (.ref (Ad K "Unsafe")) (.ref (Ad K "BadState"))=some false)
  (Ks:kitOne K (.ref (Ad K "Busy")) (.ref (Ad K "BadState"))=some false)
  (Kt:kitOne K (.ref (Ad K "Over")) (.ref (Ad K "BadState"))=some false)
  (Ku:kitOne K (.ref (Ad K "BadState")) (.ref (Ad K "BadState"))=some true)
  (Kv:kitOne K (.ref (Ad K "BadPlaces")) (.ref (Ad K "BadState"))=some false)
  (Kw:kitOne K (.ref (Ad K "BadProgram")) (.ref (Ad K "BadState"))=some false)
  (Kx:kitOne K (.ref (Ad K "Unsafe")) (.ref (Ad K "BadCount"))=some false)
  (Ky:kitOne K (.ref (Ad K "Busy")) (.ref (Ad K "BadCount"))=some false)
  (Kz:kitOne K (.ref (Ad K "Over")) (.ref (Ad K "BadCount"))=some false)
  (K0:kitOne K (.ref (Ad K "BadState")) (.ref (Ad K "BadCount"))=some false)
  (K1:kitOne K (.ref (Ad K "BadPlaces")) (.ref (Ad K "BadCount"))=some false)
  (K2:kitOne K (.ref (Ad K "BadProgram")) (.ref (Ad K "BadCount"))=some false)
  (K3:kitOne K (.ref (Ad K "Unsafe")) (.ref (Ad K "Unsafe"))=some true)
  (K4:kitOne K (.ref (Ad K "Busy")) (.ref (Ad K "Unsafe"))=some false)
  (K5:kitOne K (.ref (Ad K "Over")) (.ref (Ad K "Unsafe"))=some false)
  (K6:kitOne K (.ref (Ad K "BadState")) (.ref (Ad K "Unsafe"))=some false)
  (K7:kitOne K (.ref (Ad K "BadPlaces")) (.ref (Ad K "Unsafe"))=some false)
  (K8:kitOne K (.ref (Ad K "BadProgram")) (.ref (Ad K "Unsafe"))=some false)
  (K9:kitOne K (.ref (Ad K "Unsafe")) (.type "ValueError")=some true)
  (KA:kitOne K (.ref (Ad K "Busy")) (.type "ValueError")=some true)
  (KB:kitOne K (.ref (Ad K "Over")) (.type "ValueError")=some true)
  (KD:kitOne K (.ref (Ad K "BadState")) (.type "ValueError")=some true)
  (KF:kitOne K (.ref (Ad K "BadPlaces")) (.type "ValueError")=some true)
  (KG:kitOne K (.ref (Ad K "BadProgram")) (.type "ValueError")=some true)
  (H:∃ j,AF tbl 12 46 [.lst (ns.map .int)] []=.ok (.bool true) j)
  {R:kF->aE->Prop} (D:∀ s,(∀ b o,a.heap.get? b=some o->s.heap.get? b=some o)->s.os=a.os->s.gens=a.gens->R (.ok (.ret (.bool true))) s) :
  codeAny (model ap w) callerA (.call (.ref f) ⟨[.ref l],[]⟩) R a:=by
 let C:Cx:={ prog:=ap,w:=w,base:=a.heap,fnv:=fun k=>(CQ K).getD k 0,clv:=fun k=>Ad K (Jl.getD k ""),hot:=fun k=>match fl[k]? with|some q=>!q.S.calm|none=>false }
 have B:Dc C mg mb:=⟨T.g,T.b,T.nolimit,T.seer h,rfl⟩;have G:Ej C K mg mb ckD:=QI X B (topRead_of T) i (by decide +kernel) (Cj rfl Fw) (Cj Zlg (Cj VC (Cj QJ (Cj Zk7 (Cj Zk9 (Cj Zk8 (Cj Zla (Cj Zlb Fw)))))))) (Cj Zlf (Cj QK (Cj Zlc (Cj Zld (Cj Zle Fw))))) (Dt.of (c:=8) X x6) (Cj ⟨0,Zk3 (C:=C) X B.g t,Cj x0 (Cj x1 (Cj x2 (Cj x3 (Cj x4 (Cj x5 Fw)))))⟩ Fw) (Fj.of (c:=7) X JC FV) (Cj ⟨x7,x8,x9⟩ Fw) (Cj ⟨x10,JA,JB⟩ Fw) (Cj (CB ⟨G9,JY⟩ (CB ⟨G8,JX⟩ (CB ⟨JF,x21⟩ (CB ⟨Gb,x19⟩ (CB ⟨Ga,JE⟩ (CB ⟨FV,JD⟩ Me)))))) (Cj (CB ⟨G9,Ke⟩ (CB ⟨G8,Kc⟩ (CB ⟨JF,x29⟩ (CB ⟨Gb,Kb⟩ (CB ⟨Ga,Ka⟩ (CB ⟨FV,JZ⟩ Me)))))) (Cj (CB ⟨G9,Kk⟩ (CB ⟨G8,Kj⟩ (CB ⟨JF,Ki⟩ (CB ⟨Gb,Kh⟩ (CB ⟨Ga,Kg⟩ (CB ⟨FV,Kf⟩ Me)))))) (Cj (CB ⟨G9,Kq⟩ (CB ⟨G8,Ko⟩ (CB ⟨JF,Kn⟩ (CB ⟨Gb,Km⟩ (CB ⟨Ga,JG⟩ (CB ⟨FV,Kl⟩ Me)))))) (Cj (CB ⟨G9,Kw⟩ (CB ⟨G8,Kv⟩ (CB ⟨JF,Ku⟩ (CB ⟨Gb,Kt⟩ (CB ⟨Ga,Ks⟩ (CB ⟨FV,Kr⟩ Me)))))) (Cj (CB ⟨G9,K2⟩ (CB ⟨G8,K1⟩ (CB ⟨JF,K0⟩ (CB ⟨Gb,Kz⟩ (CB ⟨Ga,Ky⟩ (CB ⟨FV,Kx⟩ Me)))))) (Cj (CB ⟨G9,K8⟩ (CB ⟨G8,K7⟩ (CB ⟨JF,K6⟩ (CB ⟨Gb,K5⟩ (CB ⟨Ga,K4⟩ (CB ⟨FV,K3⟩ Me)))))) (Cj (CB ⟨G9,KG⟩ (CB ⟨G8,KF⟩ (CB ⟨JF,KD⟩ (CB ⟨Gb,KB⟩ (CB ⟨Ga,KA⟩ (CB ⟨FV,K9⟩ Me)))))) Fw)))))))) (Fw)
 have d:f=C.fnv 46:=by
  have:=Zd6 X T.g (x:="law") (aL.mp (aI.mp (aL.mp i).1 ("law",46) (by decide +kernel))).1;rw[e] at this;exact my (da this)
 rw[d];exact Zd4 (C:=C) B tbl (Zk6 X rfl rfl z (Zk5 (ms:=[1,2,3,4,5,6]) (Cj A (Cj n (Cj r (Cj u (Cj v (Cj y Fw)))))) rfl) (by decide +kernel) (VP G) (fun _=>rfl)) (k:=46) rfl rfl F E H D
end Mine
namespace Mine
open PySem
variable {H:AH}{Q:AV->AH->Prop}{N:AW->AH->Prop}{R:AV->AH->Prop}
noncomputable def nx(s:Int):Int:=(s*48271+11).fmod 2147483647
theorem Fx(s:Int):0<=nx s:=(fm _ (Al rfl)).1
theorem DI{n:Nat}{s:Int}(q:Q (.int (nx s)) H):W (AF tbl (n+1) 17 [.int s] H) Q:=by
 refine AB (f:=⟨1,true,Znm⟩) rfl (B1 rfl ?_);unfold Znm
 (repeat' (first|refine Ar ?_|refine Bk (by trivial) ?_|refine Br ?_|refine Ak ?_|refine Bn ?_|refine Bq (Al rfl) ?_|refine EM (.inl (Al rfl)) ?_|fail))
 exact⟨Vw H,_,rfl,q⟩
theorem FN{n:Nat}{ns:List Int}(l:ns.length<=63){k:Int}(a:0<=k)(b:k<=1000)(q:∀ c,Q (.int c) H):W (AF tbl (n+1) 16 [.lst (ns.map .int),.int k] H) Q:=by
 refine AB (f:=⟨2,true,Znk⟩) rfl (B1 rfl ?_);unfold Znk;refine Ag (AK (Cf rfl (BX (Ay rfl (OB.of (v:=.int ns.length) ?_ (OB.of (v:=decide (k<ns.length)) rfl (BV (fun h=>?_) (fun _=>?_))))))))
 .show (if (ns.map AV.int).length<=1048576 then some (AV.int (ns.map AV.int).length) else none)=_;refine Ac (if_pos (by simp;exact al (by assumption) (Al rfl))) ?_;simp
 .have a:k.toNat<ns.length:=by exact TC a b h
  refine Ar (Zhc rfl rfl (OB.of (v:=.int ns[k.toNat]) (Zhr (by assumption) (by exact aO (by assumption) (Al rfl)) (by simp[a])) ⟨Vw H,_,rfl,q _⟩))
 .refine A9 (Ar (Ak ⟨Vw H,_,rfl,q 0⟩))
inductive AQ where
 | put (b v:Int)
 | more (b:Int)
 | copy (b c:Int)
 | tell (b:Int)
 | go (k:Int)
 | stop
 | ask (b k:Int)
noncomputable def AQ.av:AQ->AV
 | .put b v=>.tup [.str "put",.int b,.int v]
 | .more b=>.tup [.str "more",.int b]
 | .copy b c=>.tup [.str "copy",.int b,.int c]
 | .tell b=>.tup [.str "tell",.int b]
 | .go k=>.tup [.str "go",.int k]
 | .stop=>.tup [.str "stop"]
 | .ask b k=>.tup [.str "ask",.int b,.int k]
noncomputable def AQ.word:AQ->aW
 | .put _ _=>aA "put"
 | .more _=>aA "more"
 | .copy _ _=>aA "copy"
 | .tell _=>aA "tell"
 | .go _=>aA "go"
 | .stop=>aA "stop"
 | .ask _ _=>aA "ask"
def AQ.Ok(n m k:Int):AQ->Prop
 | .put b v=>(0<=b/\b<n)/\0<=v/\v<=m
 | .more b=>0<=b/\b<n
 | .copy b c=>(0<=b/\b<n)/\0<=c/\c<n
 | .tell b=>0<=b/\b<n
 | .go j=>0<=j/\j<k
 | .stop=>True
 | .ask b j=>(0<=b/\b<n)/\0<=j/\j<k
def AQ.last:AQ->Prop
 | .go _=>True
 | .stop=>True
 | _=>False
theorem AQ.flat(r:AQ):Mine.flat 2 r.av=true:=by cases r<;>rfl
theorem AQ.flat_of(r:AQ){n:Nat}(h:2<=n):Mine.flat n r.av=true:=Mj _ h r.flat
theorem VQ{n:Nat}{s b m k:Int}(o:0<=s)(hb:0<=b)(j:0<=m)(i:0<k)(q:∀ r:AQ,r.Ok b m k->Q r.av H):W (AF tbl (n+1) 18 [.int s,.int b,.int m,.int k] H) Q:=by
 refine AB (f:=⟨4,true,Znw⟩) rfl (Q3 (fun B R S p u w d=>?_));unfold Znw;have t:0<=s.fmod 10/\s.fmod 10<10:=fm _ (Al rfl);have c:=fun a=>fm a i;have e:=fun a=>fm a (b:=m+1) (Uz j);have F:∀ r:AQ,r.Ok b m k->H.take H.length=H/\OB (AR H.length H 12 r.av) fun v=>Q v H:=fun r l=>CM (r.flat_of (Al rfl)) (q r l)
 have g:0<=(s.fmod 10).fdiv 7/\(s.fmod 10).fdiv 7<2:=by
  exact Ac (Zic _ (Al rfl)) (S9 t)
 (repeat' (first|refine Ag ?_|refine AK ?_|refine Ar ?_|refine AD ?_|refine A9 ?_|refine Ay (by trivial) ?_|with_reducible refine AI ?_|refine BY (by trivial) ?_|with_reducible refine CA ?_|refine Bk (by trivial) ?_|refine Cf (by trivial) ?_|refine Br ?_|refine Ak ?_|refine Ax (by trivial) ?_|refine Af ?_|refine An ?_|refine AP ?_|refine BW ?_|refine Bp ?_|refine Bn ?_|refine Bq (Al rfl) ?_|refine Fu (Al rfl) ?_|refine Bq (by omega) ?_|refine BG ?_|refine BV (fun _=>?_) (fun _=>?_)|refine OB.of (by rfl) ?_|refine d _ _ ?_|fail))
 .exact GU g.1 g.2 (fun _=>d _ _ (F (.go _) (c _))) fun _=>d _ _ (F .stop trivial)
 all_goals have h:=fun a=>fm a (b:=b) (Ip hb (by assumption))
 .exact F (.put _ _) ⟨h _,(e _).1,by have:=(e (s.fdiv 50)).2;exact U0 this⟩
 .exact F (.more _) (h _)
 .exact F (.copy _ _) ⟨h _,h _⟩
 .exact F (.tell _) (h _)
 .exact GU (fm _ (Al rfl)).1 (fm _ (Al rfl)).2 (fun _=>d _ _ (F (.go _) (c _))) fun _=>d _ _ (F .stop trivial)
 .exact F (.ask _ _) ⟨h _,c _⟩
structure Ao where
 boxes:Int
 most:Int
 rows:List AQ
def Ao.av(P:Ao):AV:=.tup [.int P.boxes,.int P.most,.lst (P.rows.map AQ.av)]
structure Ao.Ok(P:Ao):Prop where
 b0:0<=P.boxes
 b3:P.boxes<=3
 m1:1<=P.most
 m4:P.most<=4
 r1:1<=P.rows.length
 r16:P.rows.length<=16
 ok:∀ r∈P.rows,r.Ok P.boxes P.most P.rows.length
 last:∃ ini r,P.rows=ini++[r]/\r.last
theorem Zt7{l:List AQ}{n:Nat}(h:2<=n):∀ v∈l.map AQ.av,flat n v=true:=by
 intro v H;refine Ah (a7.mp H) fun r _ e=>?_;subst e;exact r.flat_of h
theorem Ao.flat(P:Ao):Mine.flat 12 P.av=true:=by
 refine H7 ?_;intro v h;simp at h
 rcases h with rfl|rfl|rfl
 .rfl
 .rfl
 .exact Zij (Zt7 (Al rfl))
theorem Zt8(r:AQ){Q:Bool->Prop}(h₁:r.last->Q false)(a:¬ r.last->Q true):OB (Bl H .notIn (.str r.word) (.tup [.str "go",.str "stop"])) Q:=by
 have key:∀ w:aW,bx (.str w)=true->Bl H .notIn (.str w) (.tup [.str "go",.str "stop"])=some (!(decide (aA "go"=w) || (decide (aA "stop"=w) || false))):=by
  intro w b;unfold Bl KL;simp only[DP];refine Ac (Zhq H (by decide +kernel) b) (Ac (Zhq H (by decide +kernel) b) ?_);rfl
 cases r with
 | go k=>exact⟨false,(key "go" (by decide +kernel)).trans (by decide +kernel),h₁ trivial⟩
 | stop=>exact⟨false,(key "stop" (by decide +kernel)).trans (by decide +kernel),h₁ trivial⟩
 | put _ _=>exact⟨true,(key "put" (by decide +kernel)).trans (by decide +kernel),a fun h=>h⟩
 | more _=>exact⟨true,(key "more" (by decide +kernel)).trans (by decide +kernel),a fun h=>h⟩
 | copy _ _=>exact⟨true,(key "copy" (by decide +kernel)).trans (by decide +kernel),a fun h=>h⟩
 | tell _=>exact⟨true,(key "tell" (by decide +kernel)).trans (by decide +kernel),a fun h=>h⟩
 | ask _ _=>exact⟨true,(key "ask" (by decide +kernel)).trans (by decide +kernel),a fun h=>h⟩
theorem Zt9(r:AQ){Q:AV->Prop}(q:Q (.str r.word)):OB (Cy H r.av (.int 0)) Q:=⟨_,by cases r<;>rfl,q⟩
theorem Zua{i:List AQ}{r:AQ}{Q:AV->Prop}(h:i.length<=1000)(q:Q r.av):OB (Cy (H++[.list ((i++[r]).map AQ.av)]) (.ref H.length) (.int (-1))) Q:=by
 refine⟨_,?_,q⟩;show (listOf? (H++[AO.list ((i++[r]).map AQ.av)]) (.ref H.length)).bind (fun l=>Ce l (-1))=_;refine Ac (Zhw _ _) ?_;show Ce _ _=_;unfold Ce;refine Ac (if_pos ⟨by exact bd _,by exact bd _⟩) (Ac (if_neg (Al rfl)) (Ac (if_pos (by simp;exact LH h)) ?_));have:(-1+(((i++[r]).map AQ.av).length:Int)).toNat=(i.map AQ.av).length:=by simp;exact Il h
 refine Ac this ?_;simp
theorem Zub{i:List AQ}{r:AQ}{v:AV}{Q:AH->Prop}(h:i.length<=1000)(q:Q (H++[.list (i.map AQ.av++[v])])):OB (BO (H++[.list ((i++[r]).map AQ.av)]) (.ref H.length) (Fg (.int (-1)) v)) Q:=by
 refine⟨_,Vx ?_,q⟩;unfold Fg;simp only;refine Ac (if_pos ⟨by simp;exact al (by assumption) (Al rfl),by simp;exact Ui h,by simp;exact bd _⟩) (Ac (if_neg (Al rfl)) ?_);have:(-1+(((i++[r]).map AQ.av).length:Int)).toNat=(i.map AQ.av).length:=by simp;exact Il h
 refine Ac this ?_;simp
def PrI(b m M:Int)(H:AH)(j:Nat)(σ:AW)(h:AH):Prop:=σ 2=some (.int b)/\σ 3=some (.int m)/\σ 4=some (.int M)/\σ 5=some (.ref H.length)/\(∃ s,0<=s/\σ 1=some (.int s))/\∃ R:List AQ,R.length=j/\(∀ r∈R,r.Ok b m M)/\h=H++[AO.list (R.map AQ.av)]
theorem Zuc{n:Nat}{c:Int}(q:∀ P:Ao,P.Ok->Q P.av H):W (AF tbl (n+2) 19 [.int c] H) Q:=by
 refine AB (f:=⟨1,true,Zn5⟩) rfl (FK (fun bt R s0 L=>?_));unfold Zn5;have A:=Fx c;have hd:=fun k:Int=>fd (nx c) (b:=k) A;have D:0<=(nx c).fmod 6/\(nx c).fmod 6<6:=fm _ (Al rfl);have K:0<=((nx c).fdiv 6).fmod 4/\((nx c).fdiv 6).fmod 4<4:=fm _ (Al rfl);have h7:0<=((nx c).fdiv 24).fmod 7/\((nx c).fdiv 24).fmod 7<7:=fm _ (Al rfl)
 (repeat' (first|refine DI ?_|refine Ag ?_|refine AD ?_|refine Ay (by trivial) ?_|with_reducible refine AI ?_|with_reducible refine CA ?_|refine Bk (by trivial) ?_|refine Ak ?_|refine B4 ?_|refine BW ?_|refine Bp ?_|refine Bq (Al rfl) ?_|fail))
 have N:∃ b:Int,0<=b/\b<=3/\([AV.int 1,AV.int 2,AV.int 1,AV.int 2,AV.int 0,AV.int 3]:List AV)[((nx c).fmod 6).toNat]?=some (.int b):=by
  refine Ah (six D) fun n hn e=>Ac e ?_
  exact match n,hn with
   | 0,_=>⟨1,by decide,by decide,rfl⟩
   | 1,_=>⟨2,by decide,by decide,rfl⟩
   | 2,_=>⟨1,by decide,by decide,rfl⟩
   | 3,_=>⟨2,by decide,by decide,rfl⟩
   | 4,_=>⟨0,by decide,by decide,rfl⟩
   | 5,_=>⟨3,by decide,by decide,rfl⟩
   | n+6,h=>absurd h (f0.mpr (fv 6 n))
 refine Bu N fun b J Z eb=>?_;clear N;refine Zif D.1 (Ti D) eb ?_
 (repeat' (first|refine Ag ?_|refine AD ?_|refine CX ?_|refine Ay (by trivial) ?_|refine Bk (by trivial) ?_|with_reducible refine EL ?_|refine Br ?_|refine Ak ?_|refine BX ?_|refine Af ?_|refine An ?_|refine Du ?_|refine Ci ?_|refine Bn ?_|refine Bq (Al rfl) ?_|refine Fu (Al rfl) ?_|refine EM (.inr (Al rfl)) ?_|refine BG ?_|refine KR ?_|refine Mk (by omega) (by omega) ?_|refine Sg (by omega) (by omega) ?_|fail))
 generalize hM:(1+((nx c).fdiv 24).fmod 7+9*if decide (((nx c).fdiv 200).fmod 8=3)=true then 1 else 0)=M;have d:1<=M/\M<=16:=zM h7 hM;generalize O:1+((nx c).fdiv 6).fmod 4=mo;have u:1<=mo/\mo<=4:=by exact SL K O
 refine Sf (PrI b mo M H) ?_ ?_ ⟨rfl,rfl,rfl,rfl,⟨_,A,rfl⟩,[],rfl,fun r h=>(nomatch h),rfl⟩
 .intro j σ y hj h;refine Zaf h fun T U V X p a m z E=>?_;clear h;obtain⟨s,A,s1⟩:=p;subst E;have hs':=Fx (s+j)
  (repeat' (first|refine DI ?_|refine VQ (Fx _) J (Tf K O) (L5 d) (fun r I=>?_)|refine GX (by simp;exact SC d hj m) ?_|refine mD (Zhv _ _) ?_|refine Ag ?_|refine AD ?_|refine Bt ?_|refine Dy (by trivial) (by trivial) ?_|refine BY (by trivial) ?_|refine Zhg (by trivial) (by trivial) ?_|refine Mg (by trivial) ?_|refine B4 ?_|refine Af ?_|refine An ?_|refine Bn ?_|fail))
  refine⟨T,U,V,X,⟨_,Fx _,rfl⟩,a++[r],by simp[m],?_,by simp⟩;intro t g
  rcases bl.mp g with g|g
  .exact z t g
  .refine Ac (aJ.mp g) ?_;exact I
 .intro σ y h;refine Zaf h fun T U V X p a m z E=>?_;clear h;obtain⟨s,A,s1⟩:=p;subst E;have w:a≠[]:=by intro e;rw[e] at m;simp at m;exact Te d m
  obtain⟨i,r,rfl⟩:∃ i r,a=i++[r]:=⟨a.dropLast,a.getLast w,(List.dropLast_concat_getLast w).symm⟩;have l:i.length+1=M.toNat:=by simpa using m
  have F:∀ r:AQ,r.Ok b mo M->r.last->(H++[AO.list ((i++[r]).map AQ.av)]).take H.length=H/\OB (AR H.length (H++[.list ((i++[r]).map AQ.av)]) 12 (.tup [.int b,.int mo,.ref H.length])) fun v'=>Q v' H:=by
   intro r x Y
   have o:(Ao.mk b mo (i++[r])).Ok:=by
    refine⟨J,Z,u.1,u.2,?_,?_,?_,i,r,rfl,Y⟩
    .show 1<=(i++[r]).length;simp
    .show (i++[r]).length<=16;simp;exact Lx d l
    .intro t g;have:((i++[r]).length:Int)=M:=by simp;exact Tb d l
     show t.Ok b mo ((i++[r]).length:Int);refine Ac this ?_
     rcases bl.mp g with g|g
     .exact z t (bD _ g)
     .refine Ac (aJ.mp g) ?_;exact x
   refine⟨Zht _ _,(Ao.mk b mo (i++[r])).av,?_,q _ o⟩;exact Zip (Sh Ziq (Sh Ziq (Sh (Zh2 (n:=10) (Zt7 (Al rfl))) Zio)))
  refine Ag (AK (AU ?_))
  (repeat' (first|refine Zua (Ly d l) ?_|refine Zt9 r ?_|refine Zt8 r (fun h=>A8 ?_) (fun h=>AA ?_)|refine Mh (W.mono (P:=fun v y=>y=(H++[AO.list ((i++[r]).map AQ.av)])/\∃ r:AQ,r.Ok b mo M/\r.last/\v=r.av) ?_ ?_)|refine Ar ?_|refine A9 ?_|refine Dy (by trivial) (by trivial) ?_|with_reducible refine AI ?_|refine BY (by trivial) ?_|with_reducible refine CA ?_|refine Ba (by trivial) ?_|refine Bk (by trivial) ?_|refine Br ?_|refine Ak ?_|refine Ax (by trivial) ?_|refine Af ?_|refine An ?_|refine AP ?_|refine BW ?_|refine Bp ?_|refine G2 ?_|refine Bq (Al rfl) ?_|refine Fu (Al rfl) ?_|refine Bq (by omega) ?_|refine Eg ?_|refine L _ _ ?_|fail))
  .exact F r (z r (by simp)) h
  .have S:0<=((s.fdiv 1000).fmod 3).fdiv 2/\((s.fdiv 1000).fmod 3).fdiv 2<2:=by
    have:=fm (s.fdiv 1000) (b:=3) (Al rfl);exact Ac (Zic _ (b:=2) (Al rfl)) (SA this)
   have hg:=fm (s.fdiv 7) (b:=M) (L5 d);exact GU S.1 S.2 (fun _=>⟨rfl,.go _,hg,trivial,rfl⟩) fun _=>⟨rfl,.stop,trivial,trivial,rfl⟩
  .intro v y h;refine UU h fun B t o G C=>?_;clear h;subst B;subst C
   (repeat' (first|refine Zub (Ly d l) ?_|refine Ar ?_|refine Dy (by trivial) (by trivial) ?_|refine BY (by trivial) ?_|refine Ak ?_|refine Ax (by trivial) ?_|refine AP ?_|refine G2 ?_|refine Eg ?_|refine L _ _ ?_|fail))
   have:=F t o G;rw[cw] at this;exact this
def BQ(P:Ao)(xs:List Int):Prop:=(xs.length:Int)=P.boxes/\∀ x∈xs,0<=x/\x<=P.most
theorem Zud{l:List Int}{n:Nat}:∀ v∈l.map AV.int,flat (n+1) v=true:=by
 intro v h;refine Ah (a7.mp h) fun r _ e=>?_;subst e;rfl
def NuI(P:Ao)(H:AH)(j:Nat)(σ:AW)(h:AH):Prop:=σ 1=some P.av/\(∃ s,σ 0=some (.int s))/\∃ xs:List Int,xs.length=j/\(∀ x∈xs,0<=x/\x<=P.most)/\σ 2=some (.tup (xs.map .int))/\h=H
theorem Zue{n:Nat}{s:Int}{P:Ao}(d:P.Ok)(q:∀ xs,BQ P xs->Q (.tup (xs.map .int)) H):W (AF tbl (n+2) 22 [.int s,P.av] H) Q:=by
 refine AB (f:=⟨2,true,Zon⟩) rfl (EQ (fun w R i S o=>?_));unfold Zon;have B:=d.b0;have m:=d.b3;have M:=d.m1
 (repeat' (first|refine Ag ?_|refine AD ?_|refine CX ?_|refine Ba (by trivial) ?_|refine Ak ?_|refine BX ?_|refine Af ?_|refine An ?_|refine AP ?_|refine Mk (by omega) (by omega) ?_|refine Sg (by omega) (by omega) ?_|refine OB.of (by rfl) ?_|fail))
 refine Sf (NuI P H) ?_ ?_ ⟨S,⟨_,i⟩,[],rfl,fun r h=>(nomatch h),rfl,rfl⟩
 .intro j v k p h;refine Zai h fun S a xs l g u e=>?_;clear h;obtain⟨s,i⟩:=a;subst e
  (repeat' (first|refine DI ?_|refine Ag ?_|refine AD ?_|refine Ba (by trivial) ?_|refine Zhg (by trivial) (by trivial) ?_|refine Bk (by trivial) ?_|refine Br ?_|refine Ak ?_|refine B4 ?_|refine Af ?_|refine An ?_|refine AP ?_|refine Bn ?_|refine Fu (Al rfl) ?_|refine Bq (by omega) ?_|refine OB.of (by rfl) ?_|fail))
  refine GW (by simp;exact T1 B m p l) ⟨S,⟨_,rfl⟩,xs++[((nx (s+j)).fdiv 3).fmod (P.most+1)],by simp[l],?_,by simp,rfl⟩;intro t c
  rcases bl.mp c with c|c
  .exact g t c
  .have:=fm ((nx (s+j)).fdiv 3) (b:=P.most+1) (LN M);exact Ac (aJ.mp c) (L6 this)
 .intro v k h;refine Zai h fun S a xs l g u e=>?_;clear h;obtain⟨s,i⟩:=a;subst e
  (repeat' (first|refine Ar ?_|refine Ax (by trivial) ?_|refine o _ _ ?_|fail))
  exact CM (H7 Zud) (q xs ⟨by first|exact Zam (by assumption) (by assumption)|omega,g⟩)
inductive Bh where
 | is (v:Option Int)
 | byBox (b:Int) (vs:List (Option Int))
def Bh.av:Bh->AV
 | .is v=>.tup [.str "is",ov v]
 | .byBox b vs=>.tup [.str "by",.int b,.tup (vs.map ov)]
def Sq(M:Int)(v:Option Int):Prop:=∀ i,v=some i->0<=i/\i<=M
def Bh.Ok(n m M:Int):Bh->Prop
 | .is v=>Sq M v
 | .byBox b vs=>(0<=b/\b<n)/\(vs.length:Int)=m+1/\∀ v∈vs,Sq M v
theorem Zuf{l:List (Option Int)}{n:Nat}:∀ v∈l.map ov,flat (n+1) v=true:=by
 intro v h;refine Ah (a7.mp h) fun r _ e=>?_;subst e;exact Zia r
theorem Bh.flat_of(r:Bh){n:Nat}(h:3<=n):Mine.flat n r.av=true:=by
 refine Mj _ h ?_
 cases r with
 | is v=>cases v<;>rfl
 | byBox b V =>
  refine H7 ?_;intro v H;simp at H
  rcases H with rfl|rfl|rfl
  .rfl
  .rfl
  .exact H7 Zuf
def RuI(s:Int)(one two:Ao)(H:AH)(j:Nat)(σ:AW)(h:AH):Prop:=σ 0=some (.int s)/\σ 1=some one.av/\σ 2=some two.av/\σ 3=some (.ref H.length)/\∃ vs:List (Option Int),vs.length=j/\(∀ v∈vs,Sq two.most v)/\h=H++[AO.list (vs.map ov)]
theorem QT{n:Nat}{s:Int}{one two:Ao}(k:one.Ok)(x:two.Ok)(G:0<=s)(q:∀ r:Bh,r.Ok one.boxes one.most two.most->Q r.av H):W (AF tbl (n+1) 20 [.int s,one.av,two.av] H) Q:=by
 refine AB (f:=⟨3,true,Zoa⟩) rfl (ES (fun F R S d g m=>?_));unfold Zoa;have B:=k.b0;have M:=x.m1;have N:=k.m1;have t:=k.m4;have A:=fun a=>fm a (b:=two.most+1) (LN M)
 have p:∀ a (v:Option Int),(∀ i,v=some i->i=Int.fmod a (two.most+1))->Sq two.most v:=by
  intro a v h i e;have:=A a;rw[<- h i e] at this;exact L6 this
 (repeat' (first|refine Ag ?_|refine AK ?_|refine Ar ?_|refine AD ?_|refine A9 ?_|refine CX ?_|with_reducible refine AI ?_|with_reducible refine CA ?_|refine Ba (by trivial) ?_|refine Bk (by trivial) ?_|refine Br ?_|refine Ak ?_|refine BX ?_|refine Af ?_|refine An ?_|refine AP ?_|refine BW ?_|refine Du ?_|refine Bp ?_|refine Ci ?_|refine AU ?_|refine CH ?_|refine Bn ?_|refine Bq (Al rfl) ?_|refine Fu (Al rfl) ?_|refine Bq (by omega) ?_|refine BG ?_|refine BV (fun _=>?_) (fun _=>?_)|refine AA ?_|refine KR ?_|refine Mk (by omega) (by omega) ?_|refine Sg (by omega) (by omega) ?_|refine OB.of (by rfl) ?_|fail))
 .exact GV fun v h=>An (m _ _ (CM ((Bh.is v).flat_of (Al rfl)) (q (.is v) (p _ v h))))
 .exact GV fun v h=>An (m _ _ (CM ((Bh.is v).flat_of (Al rfl)) (q (.is v) (p _ v h))))
 .refine Sf (RuI s one two H) ?_ ?_ ⟨S,d,g,rfl,[],rfl,fun r h=>(nomatch h),rfl⟩
  .intro j D w z h;refine Zag h fun S d g u V l o E=>?_;clear h;subst E;refine Bt (Mg u ⟨Zhv H _,?_⟩)
   (repeat' (first|with_reducible refine AI ?_|refine Ba (by trivial) ?_|refine Bk (by trivial) ?_|with_reducible refine EL ?_|refine Br ?_|refine Ak ?_|refine Ax (by trivial) ?_|refine BX ?_|refine Af ?_|refine An ?_|refine BW ?_|refine Bp ?_|refine Ci ?_|refine Bn ?_|refine Bq (Al rfl) ?_|refine EM (.inr (Al rfl)) ?_|refine Bq (by omega) ?_|refine Fu (by omega) ?_|refine BG ?_|refine KR ?_|refine OB.of (by rfl) ?_|fail))
   refine GV fun v h=>An (GX (by simp;exact Tt N t z l) ?_);refine⟨S,d,g,u,V++[v],by simp[l],?_,by simp⟩;intro C c
   rcases bl.mp c with c|c
   .exact o C c
   .refine Ac (aJ.mp c) ?_;exact p _ v h
  .intro D w h;refine Zag h fun S d g u V l o E=>?_;clear h;subst E
   (repeat' (first|refine Ar ?_|refine Ay (by trivial) ?_|with_reducible refine CA ?_|refine Ba (by trivial) ?_|refine Bk (by trivial) ?_|refine Br ?_|refine Ak ?_|refine BX ?_|refine Af ?_|refine AP ?_|refine Fu (Al rfl) ?_|refine Bq (by omega) ?_|refine OB.of (by rfl) ?_|fail))
   refine Zig (by simp;exact SJ N t l) (An ?_);have y:=fm (s.fdiv 400) (b:=one.boxes) (Ip B (by assumption));exact m _ _ (GY ((Bh.byBox _ V).flat_of (Al rfl)) (q (.byBox _ V) ⟨y,by first|exact Zam (TZ N t) (by assumption)|omega,o⟩))
noncomputable def Bw(xs:List Int):Bh->Option Int
 | .is v=>v
 | .byBox b vs=>vs.getD (xs.getD b.toNat 0).toNat none
theorem getD_some{a:Type}{l:List a}{k:Nat}{d:a}(h:k<l.length):l[k]?=some (l.getD k d):=by
 refine Ac (cr) (Ac (bK h) ?_);rfl
theorem Zug{one:Ao}{xs:List Int}(H:BQ one xs){b:Int}(a:0<=b)(c:b<one.boxes):(xs.map AV.int)[b.toNat]?=some (.int (xs.getD b.toNat 0))/\0<=xs.getD b.toNat 0/\xs.getD b.toNat 0<=one.most:=by
 have l:=H.1;have h:b.toNat<xs.length:=by exact Lv a c l
 have e:=getD_some (d:=0) h;refine⟨?_,H.2 _ ?_⟩
 .refine Ac (fP) (Ac e ?_);rfl
 .exact aV e
theorem Mr{vs:List (Option Int)}{k:Int}(h:0<=k)(H:k<vs.length):(vs.map ov)[k.toNat]?=some (ov (vs.getD k.toNat none)):=by
 refine Ac (fP) (Ac (getD_some (d:=none) (LD h H)) ?_);rfl
def tv(l:List (Option Int)):AV:=if l.any bO then .none else .tup (l.map ov)
theorem Zuh{n:Nat}{one:Ao}{M:Int}(B:one.Ok){s:List Bh}(c:s.length<=1000)(z:∀ r∈s,r.Ok one.boxes one.most M){xs:List Int}(I:BQ one xs)(q:Q (tv (s.map (Bw xs))) H) :
  W (AF tbl (n+1) 25 [.tup (s.map Bh.av),.tup (xs.map .int)] H) Q:=by
 refine AB (f:=⟨2,true,Zo7⟩) rfl (EQ (fun K R L S C=>?_));unfold Zo7
 (repeat' (first|refine Ag ?_|refine AD ?_|refine CX ?_|refine Ax (by trivial) ?_|refine An ?_|refine Du ?_|refine OB.of (by rfl) ?_|fail))
 refine Qv (fun t a j=>a 1=some (.tup (xs.map .int))/\a 2=some (.ref H.length)/\∃ d,s=d++t/\(∀ r∈d,(Bw xs r).isNone=false)/\j=H++[AO.list ((d.map (Bw xs)).map ov)]) ?_ ?_ ⟨S,rfl,[],rfl,fun r h=>(nomatch h),rfl⟩
 .intro r t a j h;obtain⟨S,g,d,e,x,rfl⟩:=h;have A:r∈s:=by refine Ac e ?_;simp
  have k:=z r A;have l:d.length<=1000:=by rw[e] at c;simp at c;exact U1 c
  have T:∀ a:AW,a 1=some (.tup (xs.map .int))->a 2=some (.ref H.length)->a 4=some (ov (Bw xs r)) ->
   WS (Ai (Bo (Aq (Aw .is (Aa 4) (Am .none))) (Av (Am .none)) AC) (Bj (Cq CV (Aa 2) [Aa 4])) a (H++[AO.list ((d.map (Bw xs)).map ov)]))
    (fun a j=>a 1=some (.tup (xs.map .int))/\a 2=some (.ref H.length)/\∃ d,s=d++t/\(∀ r∈d,(Bw xs r).isNone=false)/\j=H++[AO.list ((d.map (Bw xs)).map ov)])
    R:=by
   intro a S g D
   cases p:Bw xs r with
   | none =>
    rw[p] at D
    (repeat' (first|refine Ag ?_|refine AK ?_|refine Ar ?_|refine Cf (by trivial) ?_|refine Ak ?_|refine AA ?_|refine OB.of (by rfl) ?_|refine C _ _ ?_|fail))
    have e:tv (s.map (Bw xs))=.none:=by
     unfold tv;exact Ac (if_pos (by rw[e];simp[p])) rfl
    rw[e] at q;exact GY rfl q
   | some i =>
    rw[p] at D
    (repeat' (first|refine GX (by simp;exact LO l) ?_|refine mD (Zhv _ _) ?_|refine Ag ?_|refine AK ?_|refine A9 ?_|refine Bt ?_|refine Ay (by trivial) ?_|refine Cf (by trivial) ?_|refine Mg (by trivial) ?_|refine Ak ?_|refine A8 ?_|refine OB.of (by rfl) ?_|fail))
    refine⟨S,g,d++[r],by refine Ac e ?_;simp,?_,by simp[p,ov]⟩;intro J m
    rcases bl.mp m with m|m
    .exact x J m
    .refine Ac (aJ.mp m) (Ac p ?_);rfl
  have w:=B.b3;have y:=B.m4
  cases r with
  | is v =>
   refine Ag (AD (B5 (C2 ..) (OB.of (v:=ov v) rfl (Ag (AK ?_)))))
   (repeat' (first|refine T _ S g (C2 ..)|refine A9 ?_|refine Ba (by trivial) ?_|refine Ak ?_|refine AU ?_|refine Zis (by decide +kernel) ?_|refine A8 ?_|refine OB.of (by rfl) ?_|fail))
  | byBox b V =>
   have o:=Zug I k.1.1 k.1.2;have u:=k.1.1;have E:=k.1.2;have F:=k.2.1;refine Ag (AD (B5 (C2 ..) (OB.of (v:=.int b) rfl (Ag (AK ?_)))))
   (repeat' (first|refine T _ S g (C2 ..)|refine AD ?_|refine Ba (by trivial) ?_|refine Ak ?_|refine Bp ?_|refine AU ?_|refine Zir (by decide +kernel) ?_|refine AA ?_|refine OB.of (by rfl) ?_|fail))
   exact Ie u (D2 w E) o.1 (Ie o.2.1 (aO o.2.2 (aO y (Al rfl))) (Mr o.2.1 (F▸gE o.2.2)) (T _ S g (C2 ..)))
 .intro a j h;obtain⟨S,g,d,e,x,rfl⟩:=h;have l:d.length<=1000:=by rw[e] at c;simp at c;exact U2 c
  (repeat' (first|refine Ar ?_|refine Ay (by trivial) ?_|refine BX ?_|fail))
  refine Zig (by simp;exact LO l) ?_
  have e:tv (s.map (Bw xs))=.tup ((d.map (Bw xs)).map ov):=by
   unfold tv;have:s=d:=by refine Ac e ?_;simp
   (refine Ac this ?_;rw[if_neg])
   intro h;obtain⟨v,G,h⟩:=lE.mp h;obtain⟨r,z,rfl⟩:=a7.mp G;rw[x r z] at h
   cases h
  rw[e] at q;exact C _ _ (GY (H7 Zuf) q)
structure Ae where
 row:Int
 other:Int
 rules:List Bh
def Ae.av(p:Ae):AV:=.tup [.int p.row,.int p.other,.tup (p.rules.map Bh.av)]
structure Ae.Ok(one two:Ao)(p:Ae):Prop where
 r0:0<=p.row
 r1:p.row<one.rows.length
 o0:0<=p.other
 o1:p.other<two.rows.length
 rl:(p.rules.length:Int)=two.boxes
 ok:∀ r∈p.rules,r.Ok one.boxes one.most two.most
structure Eb(one two:Ao)(ps:List Ae):Prop where
 len:ps.length<=16
 nd:(ps.map Ae.row).Nodup
 ok:∀ p∈ps,p.Ok one two
theorem Ae.flat_of(p:Ae){n:Nat}(h:5<=n):Mine.flat n p.av=true:=by
 refine Mj _ h (H7 (n:=4) ?_);intro v H;simp at H
 rcases H with rfl|rfl|rfl
 .rfl
 .rfl
 .refine H7 (n:=3) ?_;intro v H;refine Ah (a7.mp H) fun r _ e=>?_;subst e;exact r.flat_of (by exact bB _)
theorem Zui{l:List Ae}{n:Nat}(h:5<=n):∀ v∈l.map Ae.av,flat n v=true:=by
 intro v H;refine Ah (a7.mp H) fun r _ e=>?_;subst e;exact r.flat_of h
def PlI(one two:Ao)(H:AH)(j:Nat)(σ:AW)(h:AH):Prop:=σ 1=some one.av/\σ 2=some two.av/\σ 3=some (.ref H.length)/\(∃ s,σ 4=some (.int s))/\∃ ps:List Ae,ps.length<=j/\(ps.map Ae.row).Nodup/\(∀ p∈ps,p.Ok one two/\p.row<j)/\h=H++[AO.list (ps.map Ae.av)]
theorem Zuj{n:Nat}{c:Int}{one two:Ao}(G:one.Ok)(u:two.Ok)(q:∀ ps,Eb one two ps->Q (.lst (ps.map Ae.av)) H):W (AF tbl (n+2) 21 [.int c,one.av,two.av] H) Q:=by
 refine AB (f:=⟨3,true,Zoi⟩) rfl (ES (fun bt R s0 S C Y=>?_));unfold Zoi;have J:=G.r1;have t:=G.r16;have t1:=u.r1;have T:=u.r16;have M:=u.b0;have N:=u.b3
 (repeat' (first|refine DI ?_|refine V0 (by exact al (by assumption) (Al rfl)) ?_|refine Ag ?_|refine AD ?_|refine CX ?_|refine Ay (by trivial) ?_|refine Ba (by trivial) ?_|refine Ak ?_|refine B4 ?_|refine BX ?_|refine Af ?_|refine An ?_|refine Du ?_|refine Mk (by omega) (by omega) ?_|refine Sg (by omega) (by omega) ?_|refine OB.of (by rfl) ?_|fail))
 refine Sf (PlI one two H) ?_ ?_ ⟨S,C,rfl,⟨_,rfl⟩,[],by simp,by simp,fun r h=>(nomatch h),rfl⟩
 .intro j σ L V h;refine Zah h fun S C K o ps y g d E=>?_;clear h;refine aD o fun s s4=>?_;subst E;have hs':=Fx (s+j)
  (repeat' (first|refine DI ?_|refine Ag ?_|refine AK ?_|refine AD ?_|refine A9 ?_|refine Zhg (by trivial) (by trivial) ?_|refine Bk (by trivial) ?_|refine Ak ?_|refine B4 ?_|refine BX ?_|refine Af ?_|refine An ?_|refine AU ?_|refine Bn ?_|refine Bq (Al rfl) ?_|refine BV (fun _=>?_) (fun _=>?_)|refine OB.of (by rfl) ?_|fail))
  .refine KS (f:=fun k:Nat=>AV.int k) (P:=fun _ x=>∃ r:Bh,r.Ok one.boxes one.most two.most/\x=r.av) ?_
   (repeat' (first|refine Ba (by trivial) ?_|refine Ak ?_|refine BX ?_|refine Af ?_|refine An ?_|refine Mk (by omega) (by omega) ?_|refine OB.of (by rfl) ?_|fail))
   refine⟨eT two.boxes.toNat,?_,by simp;exact aO (by assumption) (Al rfl),?_,?_⟩
   .show (if -1048576<=two.boxes/\two.boxes<=1048576 then some (BP two.boxes) else none)=_;refine Ac (if_pos ⟨by exact UB M N,by exact aO (by assumption) (Al rfl)⟩) ?_;rfl
   .intro k hk L
    (repeat' (first|refine DI ?_|refine QT G u (Fx _) (fun r hr=>?_)|refine Dy (by trivial) (by trivial) ?_|refine Bk (by trivial) ?_|with_reducible refine EL ?_|refine Ax (by trivial) ?_|refine B4 ?_|refine Af ?_|refine An ?_|refine Bn ?_|refine EM (.inr (Al rfl)) ?_|fail))
    exact⟨rfl,r.flat_of (Al rfl),r,hr,rfl⟩
   .intro ys O;have B:=O.length;refine Ah (O.pick (f:=Bh.av) (R:=fun r:Bh=>r.Ok one.boxes one.most two.most) fun a b p=>p) fun X F I=>?_;subst F;have A:(X.length:Int)=two.boxes:=by simp at B;first|exact Zam u.b0 B|omega
    have U:=fun a=>fm a (b:=(ps.length:Int)+1) (TT);have v:=fun a=>fm a (b:=(two.rows.length:Int)) (UC t1 T);refine An (Zih (by simp;exact TH M N A) ?_)
    (repeat' (first|refine DI ?_|refine V0 (by exact al (by assumption) (Al rfl)) ?_|refine Zjm (L4 J t V y) ?_|refine mD (Zhv _ _) ?_|refine Bt ?_|refine Ay (by trivial) ?_|refine BY (by trivial) ?_|refine Ba (by trivial) ?_|refine Bk (by trivial) ?_|refine Mg (by trivial) ?_|refine Br ?_|refine Ak ?_|refine BX ?_|refine Af ?_|refine An ?_|refine AP ?_|refine Bn ?_|refine Fu (Al rfl) ?_|refine Bq (by omega) ?_|refine OB.of (by rfl) ?_|fail))
    refine Qz (by simp;exact L4 J t V y) (U _).1 (by have:=(U ((nx (s+j)).fdiv 9)).2;simp;exact UD this) ?_;generalize i:(Ae.mk j (((nx (s+j)).fdiv 5).fmod two.rows.length) X)=p
    have z:p.Ok one two:=by
     subst i;exact⟨by show (0:Int)<=j;exact bd _,by show (j:Int)<_;assumption,(v _).1,(v _).2,A,I⟩
    have m:=List.perm_middle (a:=p) (l₁:=ps.take (((nx (s+j)).fdiv 9).fmod (ps.length+1)).toNat) (l₂:=ps.drop (((nx (s+j)).fdiv 9).fmod (ps.length+1)).toNat);rw[List.take_append_drop] at m;have w:p.row=j:=by subst i;rfl
    refine⟨S,C,K,⟨_,rfl⟩,ps.take (((nx (s+j)).fdiv 9).fmod (ps.length+1)).toNat++p::ps.drop (((nx (s+j)).fdiv 9).fmod (ps.length+1)).toNat,?_,?_,?_,?_⟩
    .refine Ac m.length_eq ?_;simp;assumption
    ·(rewrite [(m.map Ae.row).nodup_iff];refine Ac ci ?_;rw[fx])
     refine⟨fun Z=>?_,g⟩;refine Ah (a7.mp Z) fun D l e=>?_;have:=(d D l).2;exact TS w e this
    .intro D l
     rcases aU.mp (m.mem_iff.mp l) with rfl|h
     .exact⟨z,by exact Uj w⟩
     .exact⟨(d D h).1,by have:=(d D h).2;exact Tk w this⟩
    .subst i;simp[iN,ko];rfl
  .exact⟨S,C,K,⟨_,rfl⟩,ps,by exact UE y,g,fun p i=>⟨(d p i).1,by have:=(d p i).2;exact Um this⟩,rfl⟩
 .intro σ L h;refine Zah h fun S C K o ps y g d E=>?_;clear h;refine aD o fun s s4=>?_;subst E
  (repeat' (first|refine Ar ?_|refine Ax (by trivial) ?_|refine Y _ _ ?_|fail))
  exact Zim (Zui (Al rfl)) (q ps ⟨by exact SV J t y,g,fun p i=>(d p i).1⟩)
noncomputable def pv:Option Ae->AV
 | none=>.none
 | some p=>p.av
noncomputable def DW:AV->Bool
 | .none=>true
 | .bool _=>true
 | .int _=>true
 | .str _=>true
 | .tup _=>true
 | .lst _=>true
 | _=>false
noncomputable def C5(lo h:Int):AV->Bool
 | .int i=>decide (lo<=i)&&decide (i<=h)
 | _=>false
theorem Zuk{v:AV}(h:DW v=true)(a:∀ i,v≠.int i)(c:∀ b,v≠.bool b){Q:AV->Prop}(q:Q (.bool false)):OB (BK H .isinstance [v,.bi .int]) Q:=by
 cases v<;>first|exact⟨_,rfl,q⟩|exact absurd rfl (a _)|exact absurd rfl (c _)|exact nb h
theorem Zul{v:AV}(h:DW v=true)(n:∀ l,v≠.tup l){Q:AV->Prop}(q:Q (.bool false)):OB (BK H .isinstance [v,.bi .tuple]) Q:=by
 cases v<;>first|exact⟨_,rfl,q⟩|exact absurd rfl (n _)|exact nb h
theorem HE{b c:Bool}(e:b=c)(q:Q (.bool b) H):H.take H.length=H/\OB (AR H.length H 12 (.bool c)) fun v=>Q v H:=by subst e;exact CM rfl q
theorem Zum{n:Nat}{v:AV}(g:DW v=true){lo d:Int}(q:Q (.bool (C5 lo d v)) H):W (AF tbl (n+1) 0 [v,.int lo,.int d] H) Q:=by
 refine AB (f:=⟨3,true,Zli⟩) rfl (B1 rfl ?_);unfold Zli
 by_cases a:∃ i,v=.int i
 .refine aD a fun i E=>?_;subst E
  (repeat' (first|refine Ar ?_|with_reducible refine AI ?_|refine BY (by trivial) ?_|refine Ax (by trivial) ?_|refine BX ?_|refine G3 ?_|refine D7 ?_|refine FH ?_|refine AZ ?_|refine BV (fun _=>?_) (fun _=>?_)|refine AA ?_|refine Cn ?_|refine OB.of (by rfl) ?_|fail))
  .rename_i h;refine HE ?_ q;unfold C5;simp[h]
  .rename_i h;refine HE ?_ q;unfold C5;simp[h]
 .by_cases c:∃ b,v=.bool b
  .refine aD c fun b E=>?_;subst E
   (repeat' (first|refine Ar ?_|with_reducible refine AI ?_|refine BY (by trivial) ?_|refine BX ?_|refine G3 ?_|refine D7 ?_|refine AZ ?_|refine AA ?_|refine A8 ?_|refine Cn ?_|refine OB.of (by rfl) ?_|fail))
   exact CM rfl q
  ·(repeat' (first|refine Zuk g (fun i e=>a ⟨i,e⟩) (fun b e=>c ⟨b,e⟩) ?_|refine Ar ?_|with_reducible refine AI ?_|refine BY (by trivial) ?_|refine BX ?_|refine D7 ?_|refine A8 ?_|refine Cn ?_|fail))
   refine HE ?_ q
   cases v<;>first|rfl|exact absurd ⟨_,rfl⟩ a
theorem QU{p:AV->Bool}{l xs:List AV}(a:Cv (fun v x=>x=.bool (p v)) l xs):allTrue? xs=some (l.all p):=by
 induction a with
 | nil=>rfl
 | cons h r i =>
  refine Ac h ?_;show (allTrue? _).map _=_;refine Ac i ?_;rfl
theorem QV{p:AV->Bool}{l xs:List AV}(h:Cv (fun v x=>x=.bool (p v)) l xs){Q:AV->Prop}(q:Q (.bool (l.all p))):OB (BK H .all [.lst xs]) Q:=by
 refine⟨_,?_,q⟩;show gr AV.bool (allTrue? xs)=_;refine Ac (QU h) ?_;rfl
def Fy(P:Ao):AV->Bool
 | .tup l=>decide ((l.length:Int)=P.boxes)&&l.all (C5 0 P.most)
 | _=>false
def Ms:AV->Bool
 | .tup l=>decide (l.length<=1000)&&l.all DW
 | v=>DW v
theorem Zun{n:Nat}{P:Ao}{v:AV}(d:Ms v=true)(q:Q (.bool (Fy P v)) H):W (AF tbl (n+2) 4 [P.av,v] H) Q:=by
 refine AB (f:=⟨2,true,VE⟩) rfl (B1 rfl ?_);unfold VE
 by_cases t:∃ l,v=.tup l
 .obtain⟨l,rfl⟩:=t;obtain⟨c,a⟩:=aL.mp (show (decide (l.length<=1000)&&l.all DW)=true from d);have c:=of_decide_eq_true c;have a:=aI.mp a
  (repeat' (first|refine Vz (by exact al (by assumption) (Al rfl)) ?_|refine Ag ?_|refine AK ?_|refine Ar ?_|refine A9 ?_|refine Ay (by trivial) ?_|refine Ba (by trivial) ?_|refine Ak ?_|refine BX ?_|refine Af ?_|refine AU ?_|refine Eh ?_|refine Qt (fun _=>?_) (fun _=>?_)|refine OB.of (by rfl) ?_|fail))
  .rename_i h;have e:Fy P (.tup l)=false:=by unfold Fy;simp[h]
   rw[e] at q;exact CM rfl q
  .rename_i h;refine Zjc (P:=fun v x=>x=.bool (C5 0 P.most v)) (Ax rfl ⟨l,rfl,by exact al (by assumption) (Al rfl),?_,?_⟩)
   .intro v m i
    (repeat' (first|refine Zum (a v m) ?_|fail))
    exact⟨rfl,rfl,rfl⟩
   .intro X g;have e:Fy P (.tup l)=l.all (C5 0 P.most):=by unfold Fy;simp[h]
    rw[e] at q;exact An (QV g (CM rfl q))
 .have b:DW v=true:=by cases v<;>first|exact d|exact absurd ⟨_,rfl⟩ t
  (repeat' (first|refine Zul b (fun l e=>t ⟨l,e⟩) ?_|refine Ag ?_|refine AK ?_|refine Ar ?_|with_reducible refine AI ?_|refine BY (by trivial) ?_|refine Ak ?_|refine BX ?_|refine AZ ?_|refine B0 ?_|refine CH ?_|refine AA ?_|refine Cn ?_|fail))
  refine HE ?_ q
  cases v<;>first|rfl|exact absurd ⟨_,rfl⟩ t
noncomputable def Co(xs:List Int):AV:=.tup (xs.map .int)
theorem Zuo{X:Type}{f:X->AV}(l:List X)(k:Int):cut (l.map f) none (some k)=(l.take k.toNat).map f:=by
 show ((l.map f).take k.toNat).drop 0=_;exact Ac fM (Ac iN rfl)
theorem Zup{X:Type}{f:X->AV}(l:List X)(k:Int):cut (l.map f) (some k) none=(l.drop k.toNat).map f:=by
 show ((l.map f).take (l.map f).length).drop k.toNat=_;exact Ac (cI (bB _)) (Ac ko rfl)
theorem Zuq{a:Type}:∀ (l:List a) (k:Nat) (v:a),k<l.length->l.take k++v::l.drop (k+1)=l.set k v
 | [],k,v,h=>by simp at h
 | x::l,0,v,_=>by simp
 | x::l,k+1,v,h=>by
  simp only[ki,List.drop_succ_cons,List.cons_append,List.set_cons_succ];exact Ac (Zuq l k v (by simpa using h)) rfl
theorem Zur{n:Nat}{xs:List Int}{b v:Int}(hb:0<=b)(l:b<xs.length)(h:xs.length<=100)(q:Q (Co (xs.set b.toNat v)) H):W (AF tbl (n+1) 5 [Co xs,.int b,.int v] H) Q:=by
 refine AB (f:=⟨3,true,Zl6⟩) rfl (B1 rfl ?_);unfold Zl6;have o:(Ev none&&Ev (some b))=true:=by simp[Ev];exact SQ hb l h
 have O:(Ev (some (b+1))&&Ev none)=true:=by simp[Ev];exact SR hb l h
 have c:(cut (xs.map AV.int) none (some b)).length<=100:=by rw[Zuo];simp;exact al (lC _ _) h
 have C:(cut (xs.map AV.int) (some (b+1)) none).length<=100:=by rw[Zup];simp;exact Tm hb h
 (repeat' (first|refine Zi5 o (by simp;exact al (by assumption) (Al rfl)) ?_|refine Zi5 O (by simp;exact al (by assumption) (Al rfl)) ?_|refine GW (by simp;first|exact al c (Al rfl)|exact al (gT (ba c 1) C) (Al rfl)) ?_|refine Ar ?_|refine Ay (by trivial) ?_|refine Bk (by trivial) ?_|refine Br ?_|refine Ak ?_|refine Ax (by trivial) ?_|refine AP ?_|refine EO ?_|refine Ei ?_|refine Dv ?_|refine Bn ?_|refine Eg ?_|fail))
 have e:cut (xs.map AV.int) none (some b)++[AV.int v]++cut (xs.map AV.int) (some (b+1)) none=(xs.set b.toNat v).map AV.int:=by
  (rewrite [Zuo,Zup];refine BE (Zuq xs b.toNat v (TF hb l h)) ?_)
  have:(b+1).toNat=b.toNat+1:=by first|exact Zan (by assumption)|omega
  refine Ac this ?_;simp
 exact Ac e (CM (H7 Zud) q)
theorem Hc{n:Nat}{xs:List Int}{b v:Int}(hb:0<=b)(l:b<xs.length)(h:xs.length<=100)(q:Q (Co (xs.set b.toNat v)) H):W (AF tbl (n+1) 23 [Co xs,.int b,.int v] H) Q:=by
 refine AB (f:=⟨3,true,Zoq⟩) rfl (B1 rfl ?_);unfold Zoq;have c:∀ Q:List AV->Prop,Q (xs.map .int)->OB (E9 H (Co xs)) Q:=fun Q q=>⟨_,by show (if (xs.map AV.int).length<=1048576 then some (xs.map AV.int) else none)=_;exact Ac (if_pos (by simp;exact LU h)) rfl,q⟩
 have st:∀ Q:AH->Prop,Q (H++[AO.list ((xs.set b.toNat v).map .int)])->OB (BO (H++[AO.list (xs.map .int)]) (.ref H.length) (Fg (.int b) (.int v))) Q:=fun Q q=>by
  refine⟨_,Vx (l':=(xs.set b.toNat v).map .int) ?_,q⟩;unfold Fg;simp only;exact Ac (if_pos ⟨by simp;exact LU h,by simp;exact Ub hb h,by simp;exact UM l⟩) (Ac (if_pos hb) (Ac List.map_set rfl))
 (repeat' (first|refine c _ ?_|refine st _ ?_|refine Zig (by simp;exact LR h) ?_|refine Ag ?_|refine Ar ?_|refine AD ?_|refine Mh ?_|refine Ay (by trivial) ?_|refine Ax (by trivial) ?_|refine BX ?_|refine EP ?_|fail))
 exact GY (H7 Zud) q
def C8(k:Int)(xs:List Int)(o:Option Int):AV:=.tup [.tup [.int k,Co xs],ov o]
noncomputable def Ct(xs:List Int)(b:Int):Int:=xs.getD b.toNat 0
def Ek(P:Ao)(r:Int)(xs:List Int):AV:=match P.rows.getD r.toNat .stop with
 | .stop=>.tup [.none,.none]
 | .go k=>C8 k xs none
 | .ask b k=>if Ct xs b=0 then C8 k xs none else C8 (r+1) xs none
 | .tell b=>C8 (r+1) xs (some (Ct xs b))
 | .put b v=>C8 (r+1) (xs.set b.toNat v) none
 | .copy b c=>C8 (r+1) (xs.set b.toNat (Ct xs c)) none
 | .more b=>C8 (r+1) (xs.set b.toNat (if Ct xs b+1>P.most then 0 else Ct xs b+1)) none
theorem Zus{xs:List Int}(h:xs.length<=100){n:Nat}:Cw (n+2) (Co xs)=true:=by
 refine Ig (by simp;exact al (by assumption) (Al rfl)) ?_;intro v H;refine Ah (a7.mp H) fun i _ e=>?_;subst e;rfl
theorem Zut{k:Int}{xs:List Int}{o:Option Int}(h:xs.length<=100):Cw 12 (C8 k xs o)=true:=by
 refine Ig (by simp) ?_;intro v H;simp at H
 rcases H with rfl|rfl
 .refine Ig (by simp) ?_;intro v H;simp at H
  rcases H with rfl|rfl
  .rfl
  .exact Zus h
 .cases o<;>rfl
theorem He{P:Ao}{r:Int}(h:0<=r)(H:r<P.rows.length):(P.rows.map AQ.av)[r.toNat]?=some (P.rows.getD r.toNat .stop).av/\P.rows.getD r.toNat .stop∈P.rows:=by
 have e:P.rows[r.toNat]?=some (P.rows.getD r.toNat .stop):=by
  refine Ac (cr) (Ac (bK (show r.toNat<P.rows.length by exact LD h H)) ?_);rfl
 refine⟨?_,aV e⟩;refine Ac (fP) (Ac e ?_);rfl
theorem Jm{P:Ao}{xs:List Int}(x:BQ P xs){b:Int}(a:0<=b)(h:b<P.boxes):(xs.map AV.int)[b.toNat]?=some (.int (Ct xs b))/\b<xs.length:=by
 have H:=x.1
 have e:xs[b.toNat]?=some (xs.getD b.toNat 0):=by
  refine Ac (cr) (Ac (bK (show b.toNat<xs.length by exact Lv a h H)) ?_);rfl
 refine⟨?_,by exact UN h H⟩;refine Ac (fP) (Ac e ?_);rfl
section
variable {Φ:As}{σ:AW}{H:AH}
theorem Zuu:Mp Φ (AM σ 4 AQ.stop.av) H=.ok (.ret (.tup [.none,.none]),AM σ 4 AQ.stop.av) H:=by kernel_rfl
theorem VS{k:Int}:Mp Φ (AM σ 4 (AQ.go k).av) H=Ai (Av (Az [Az [Am (.int k),Aa 3],Am .none])) (Zme Φ) (AM σ 4 (AQ.go k).av) H:=by kernel_rfl
theorem Zuv{b:Int}:Mp Φ (AM σ 4 (AQ.tell b).av) H=Ai (Av (Az [Az [Ap .add (Aa 2) (Am (.int 1)),Aa 3],Aj (Aa 3) (Am (.int b))])) (Zmc Φ) (AM σ 4 (AQ.tell b).av) H:=by kernel_rfl
theorem QW{b v:Int}:Mp Φ (AM σ 4 (AQ.put b v).av) H=Ai (Av (Az [Az [Ap .add (Aa 2) (Am (.int 1)),Cz Φ (Am (.fn 5)) [Aa 3,Am (.int b),Am (.int v)]],Am .none])) (Zmb Φ) (AM σ 4 (AQ.put b v).av) H:=by kernel_rfl
theorem Zuw{b c:Int}:Mp Φ (AM σ 4 (AQ.copy b c).av) H=Ai (Av (Az [Az [Ap .add (Aa 2) (Am (.int 1)),Cz Φ (Am (.fn 5)) [Aa 3,Am (.int b),Aj (Aa 3) (Am (.int c))]],Am .none])) (Zma Φ) (AM σ 4 (AQ.copy b c).av) H:=by kernel_rfl
theorem Zux{b:Int}:Mp Φ (AM σ 4 (AQ.more b).av) H=Ai (AG 5 (Ap .add (Aj (Aa 3) (Am (.int b))) (Am (.int 1)))) (Zl9 Φ) (AM σ 4 (AQ.more b).av) H:=by kernel_rfl
theorem QX{b k:Int}:Mp Φ (AM σ 4 (AQ.ask b k).av) H=Ai (Ai (Bo (Aq (Aw .eq (Aj (Aa 3) (Am (.int b))) (Am (.int 0)))) (Av (Az [Az [Aj (Aa 4) (Am (.int 2)),Aa 3],Am .none])) AC) (Zl7 Φ)) (Zmd Φ) (AM σ 4 (AQ.ask b k).av) H:=by kernel_rfl
theorem Zuy:Mq Φ (AM σ 4 AQ.stop.av) H=.ok (.ret (.tup [.none,.none]),AM σ 4 AQ.stop.av) H:=by kernel_rfl
theorem VT{k:Int}:Mq Φ (AM σ 4 (AQ.go k).av) H=Ai (Av (Az [Az [Am (.int k),Aa 3],Am .none])) (Zow Φ) (AM σ 4 (AQ.go k).av) H:=by kernel_rfl
theorem Zuz{b:Int}:Mq Φ (AM σ 4 (AQ.tell b).av) H=Ai (Av (Az [Az [Ap .add (Aa 2) (Am (.int 1)),Aa 3],Aj (Aa 3) (Am (.int b))])) (Zox Φ) (AM σ 4 (AQ.tell b).av) H:=by kernel_rfl
theorem QY{b k:Int}:Mq Φ (AM σ 4 (AQ.ask b k).av) H=Ai (Bo (Aq (Aw .eq (Aj (Aa 3) (Am (.int b))) (Am (.int 0)))) (Av (Az [Az [Aj (Aa 4) (Fe (Am (.int 1))),Aa 3],Am .none])) AC) (Zow Φ) (AM σ 4 (AQ.ask b k).av) H:=by kernel_rfl
theorem Zu0{b k:Int}:Zow Φ (AM σ 4 (AQ.ask b k).av) H=VK Φ (AM σ 4 (AQ.ask b k).av) H:=by kernel_rfl
theorem QZ{b v:Int}:Mq Φ (AM σ 4 (AQ.put b v).av) H=Ai (AG 3 (Cz Φ (Am (.fn 23)) [Aa 3,Am (.int b),Am (.int v)])) (Zov Φ) (AM σ 4 (AQ.put b v).av) H:=by kernel_rfl
theorem Zu1{b v:Int}{y:AV}:Zov Φ (AM (AM σ 4 (AQ.put b v).av) 3 y) H=VK Φ (AM (AM σ 4 (AQ.put b v).av) 3 y) H:=by kernel_rfl
theorem Zu2{b c:Int}:Mq Φ (AM σ 4 (AQ.copy b c).av) H=Ai (AG 3 (Cz Φ (Am (.fn 23)) [Aa 3,Am (.int b),Aj (Aa 3) (Am (.int c))])) (Zou Φ) (AM σ 4 (AQ.copy b c).av) H:=by kernel_rfl
theorem Zu3{b c:Int}{y:AV}:Zou Φ (AM (AM σ 4 (AQ.copy b c).av) 3 y) H=VK Φ (AM (AM σ 4 (AQ.copy b c).av) 3 y) H:=by kernel_rfl
theorem Zu4{b:Int}:Mq Φ (AM σ 4 (AQ.more b).av) H=Ai (Ai (AG 5 (Ap .add (Aj (Aa 3) (Am (.int b))) (Am (.int 1)))) (Zos Φ)) (VK Φ) (AM σ 4 (AQ.more b).av) H:=by kernel_rfl
end
theorem Ra{n:Nat}{P:Ao}(s:P.Ok){r:Int}(u:0<=r)(w:r<P.rows.length){xs:List Int}(z:BQ P xs)(q:Q (Ek P r xs) H):W (AF tbl (n+2) 6 [P.av,.tup [.int r,Co xs]] H) Q:=by
 refine AB (f:=⟨2,true,Jj⟩) rfl (EQ (fun p R S C i=>?_));have B:=s.b3;have t:=s.r16;have l:=z.1;have F:∀ k y o,y.length<=100->Q (C8 k y o) H->H.take H.length=H/\OB (AR H.length H 12 (C8 k y o)) fun V=>Q V H:=fun k y o h q=>CM (Vy (Zut h)) q;refine AX (He u w) fun e x=>?_;have d:=s.ok _ x;unfold Ek at q;generalize P.rows.getD r.toNat .stop=row at e x d q;have j:∀ {b:Int},0<=b/\b<P.boxes->(xs.map AV.int)[b.toNat]?=some (.int (Ct xs b))/\b<xs.length:=fun h=>Jm z h.1 h.2;refine Ag (GZ (Ax C (OB.of (by rfl) ?_)));refine Ag (AD (Bp (B5 S (OB.of (by rfl) (Ax rfl (Zif u (LF w t) e ?_))))));have T:(AM (AM p 2 (.int r)) 3 (Co xs)) 0=some P.av:=S;have D:(AM (AM p 2 (.int r)) 3 (Co xs)) 2=some (.int r):=rfl;have E:(AM (AM p 2 (.int r)) 3 (Co xs)) 3=some (Co xs):=rfl;generalize AM (AM p 2 (.int r)) 3 (Co xs)=τ at T D E ⊢
 cases row with
 | stop =>
  exact Ac Zuu ⟨_,_,rfl,i _ _ (CM rfl q)⟩
 | go k =>
  refine Ac VS ?_
  (repeat' (first|refine Ag ?_|refine Ar ?_|refine Ay (by trivial) ?_|with_reducible refine AI ?_|with_reducible refine CA ?_|refine Af ?_|refine AP ?_|refine i _ _ ?_|fail))
  exact F k xs none (Cc B l) q
 | ask b k =>
  have g:=j d.1;have a:=d.1;refine Ac QX ?_
  (repeat' (first|refine Ie a.1 (D2 B a.2) g.1 ?_|refine Ag ?_|refine AK ?_|refine Ar ?_|refine A9 ?_|refine Ay (by trivial) ?_|with_reducible refine AI ?_|refine Ba (by trivial) ?_|refine Bk (by trivial) ?_|refine Ak ?_|refine Af ?_|refine AP ?_|refine AU ?_|refine Bn ?_|refine BG ?_|refine BV (fun _=>?_) (fun _=>?_)|refine OB.of (by rfl) ?_|refine i _ _ ?_|fail))
  .rename_i h;dsimp only at q;rw[if_pos h] at q;exact F k xs none (Cc B l) q
  .rename_i h;dsimp only at q;rw[if_neg h] at q;exact F (r+1) xs none (Cc B l) q
 | tell b =>
  have g:=j d;have a:0<=b/\b<P.boxes:=d;refine Ac Zuv ?_
  (repeat' (first|refine Ie a.1 (D2 B a.2) g.1 ?_|refine Ag ?_|refine Ar ?_|refine Ay (by trivial) ?_|refine Ba (by trivial) ?_|refine Bk (by trivial) ?_|refine Ak ?_|refine Af ?_|refine An ?_|refine AP ?_|refine Bn ?_|refine i _ _ ?_|fail))
  exact F (r+1) xs (some (Ct xs b)) (Cc B l) q
 | put b v =>
  have g:=j d.1;have a:=d.1;refine Ac QW ?_
  (repeat' (first|refine Zur a.1 g.2 (Cc B l) ?_|refine Ag ?_|refine Ar ?_|with_reducible refine AI ?_|refine BY (by trivial) ?_|with_reducible refine CA ?_|refine Bk (by trivial) ?_|refine Ak ?_|refine B4 ?_|refine Af ?_|refine An ?_|refine AP ?_|refine Bn ?_|refine i _ _ ?_|fail))
  exact F (r+1) _ none (by simp;exact Cc B l) q
 | copy b c =>
  have g:=j d.1;have a:=d.1;have A:=j d.2;have m:=d.2;refine Ac Zuw ?_
  (repeat' (first|refine Ie m.1 (D2 B m.2) A.1 ?_|refine Zur a.1 g.2 (Cc B l) ?_|refine Ag ?_|refine Ar ?_|with_reducible refine AI ?_|refine BY (by trivial) ?_|with_reducible refine CA ?_|refine Ba (by trivial) ?_|refine Bk (by trivial) ?_|refine Ak ?_|refine B4 ?_|refine Af ?_|refine An ?_|refine AP ?_|refine Bn ?_|refine i _ _ ?_|fail))
  exact F (r+1) _ none (by simp;exact Cc B l) q
 | more b =>
  have g:=j d;have a:0<=b/\b<P.boxes:=d;refine Ac Zux ?_
  (repeat' (first|refine Ie a.1 (D2 B a.2) g.1 ?_|refine Zur a.1 g.2 (Cc B l) ?_|refine Ag ?_|refine AK ?_|refine Ar ?_|refine AD ?_|refine A9 ?_|refine Ay (by trivial) ?_|with_reducible refine AI ?_|refine BY (by trivial) ?_|refine Ba (by trivial) ?_|refine Bk (by trivial) ?_|refine Cf (by trivial) ?_|refine Br ?_|refine Ak ?_|refine B4 ?_|refine Af ?_|refine An ?_|refine AP ?_|refine Bn ?_|refine BV (fun _=>?_) (fun _=>?_)|refine OB.of (by rfl) ?_|refine i _ _ ?_|fail))
  .rename_i h;dsimp only at q;rw[if_pos h] at q;exact F (r+1) _ none (by simp;exact Cc B l) q
  .rename_i h;dsimp only at q;rw[if_neg h] at q;exact F (r+1) _ none (by simp;exact Cc B l) q
theorem Zu5{a b:AV}{c:Bool}{Q:AV->Prop}(h:c=false->Q a)(k:c=true->Q b):OB (Cy H (.lst [a,b]) (.int (if c=true then 1 else 0))) Q:=by
 cases c with
 | true=>exact⟨b,rfl,k rfl⟩
 | false=>exact⟨a,rfl,h rfl⟩
theorem Zu6{n:Nat}{P:Ao}(s:P.Ok){r:Int}(u:0<=r)(w:r<P.rows.length){xs:List Int}(z:BQ P xs)(q:Q (Ek P r xs) H):W (AF tbl (n+2) 24 [P.av,.tup [.int r,Co xs]] H) Q:=by
 refine AB (f:=⟨2,true,Zo1⟩) rfl (EQ (fun p R S A i=>?_));have B:=s.b3;have t:=s.r16;have l:=z.1;have F:∀ k y o,y.length<=100->Q (C8 k y o) H->H.take H.length=H/\OB (AR H.length H 12 (C8 k y o)) fun V=>Q V H:=fun k y o h q=>CM (Vy (Zut h)) q;refine AX (He u w) fun e x=>?_;have d:=s.ok _ x;unfold Ek at q;generalize P.rows.getD r.toNat .stop=row at e x d q;have j:∀ {b:Int},0<=b/\b<P.boxes->(xs.map AV.int)[b.toNat]?=some (.int (Ct xs b))/\b<xs.length:=fun h=>Jm z h.1 h.2;refine Ag (AD (B5 A (OB.of (by rfl) ?_)));refine Ag (AD (B5 A (OB.of (by rfl) ?_)));refine Ag (AD (Bp (B5 S (OB.of (by rfl) (Ax rfl (Zif u (LF w t) e ?_))))));have T:(AM (AM p 2 (.int r)) 3 (Co xs)) 0=some P.av:=S;have D:(AM (AM p 2 (.int r)) 3 (Co xs)) 2=some (.int r):=rfl;have E:(AM (AM p 2 (.int r)) 3 (Co xs)) 3=some (Co xs):=rfl;generalize AM (AM p 2 (.int r)) 3 (Co xs)=τ at T D E ⊢
 cases row with
 | stop =>
  exact Ac Zuy ⟨_,_,rfl,i _ _ (CM rfl q)⟩
 | go k =>
  refine Ac VT ?_
  (repeat' (first|refine Ag ?_|refine Ar ?_|refine Ay (by trivial) ?_|with_reducible refine AI ?_|with_reducible refine CA ?_|refine Af ?_|refine AP ?_|refine i _ _ ?_|fail))
  exact F k xs none (Cc B l) q
 | ask b k =>
  have g:=j d.1;have a:=d.1;refine Ac QY ?_
  (repeat' (first|refine Ie a.1 (D2 B a.2) g.1 ?_|(refine Ac Zu0 ?_;refine Ar ?_)|refine Ag ?_|refine AK ?_|refine Ar ?_|refine A9 ?_|refine Ay (by trivial) ?_|with_reducible refine AI ?_|refine Ba (by trivial) ?_|refine Bk (by trivial) ?_|refine Ak ?_|refine Af ?_|refine AP ?_|refine G2 ?_|refine AU ?_|refine Bn ?_|refine BG ?_|refine BV (fun _=>?_) (fun _=>?_)|refine Eg ?_|refine OB.of (by rfl) ?_|refine i _ _ ?_|fail))
  .rename_i h;dsimp only at q;rw[if_pos h] at q;exact F k xs none (Cc B l) q
  .rename_i h;dsimp only at q;rw[if_neg h] at q;exact F (r+1) xs none (Cc B l) q
 | tell b =>
  have g:=j d;have a:0<=b/\b<P.boxes:=d;refine Ac Zuz ?_
  (repeat' (first|refine Ie a.1 (D2 B a.2) g.1 ?_|refine Ag ?_|refine Ar ?_|refine Ay (by trivial) ?_|refine Ba (by trivial) ?_|refine Bk (by trivial) ?_|refine Ak ?_|refine Af ?_|refine An ?_|refine AP ?_|refine Bn ?_|refine i _ _ ?_|fail))
  exact F (r+1) xs (some (Ct xs b)) (Cc B l) q
 | put b v =>
  have g:=j d.1;have a:=d.1;refine Ac QZ (Ag (AD ?_))
  (repeat' (first|refine Hc a.1 g.2 (Cc B l) ?_|(refine Ac Zu1 ?_;refine Ar ?_)|refine Ay (by trivial) ?_|with_reducible refine AI ?_|refine BY (by trivial) ?_|with_reducible refine CA ?_|refine Bk (by trivial) ?_|refine Ak ?_|refine B4 ?_|refine Af ?_|refine AP ?_|refine Bn ?_|refine i _ _ ?_|fail))
  exact F (r+1) _ none (by simp;exact Cc B l) q
 | copy b c =>
  have g:=j d.1;have a:=d.1;have C:=j d.2;have m:=d.2;refine Ac Zu2 ?_
  (repeat' (first|refine Ie m.1 (D2 B m.2) C.1 ?_|refine Hc a.1 g.2 (Cc B l) ?_|(refine Ac Zu3 ?_;refine Ar ?_)|refine Ag ?_|refine AD ?_|refine Ay (by trivial) ?_|with_reducible refine AI ?_|refine BY (by trivial) ?_|with_reducible refine CA ?_|refine Ba (by trivial) ?_|refine Bk (by trivial) ?_|refine Ak ?_|refine B4 ?_|refine Af ?_|refine An ?_|refine AP ?_|refine Bn ?_|refine i _ _ ?_|fail))
  exact F (r+1) _ none (by simp;exact Cc B l) q
 | more b =>
  have g:=j d;have a:0<=b/\b<P.boxes:=d;refine Ac Zu4 ?_
  (repeat' (first|refine Ie a.1 (D2 B a.2) g.1 ?_|refine Zu5 (fun _=>?_) (fun _=>?_)|refine Hc a.1 g.2 (Cc B l) ?_|refine Ag ?_|refine Ar ?_|refine AD ?_|refine Ay (by trivial) ?_|with_reducible refine AI ?_|refine BY (by trivial) ?_|refine Ba (by trivial) ?_|refine Bk (by trivial) ?_|refine FI (by trivial) ?_|refine Br ?_|refine Ak ?_|refine B4 ?_|refine BX ?_|refine Af ?_|refine An ?_|refine AP ?_|refine BW ?_|refine Bp ?_|refine Bn ?_|refine KR ?_|refine OB.of (by rfl) ?_|refine i _ _ ?_|fail))
  .rename_i h;dsimp only at q;rw[if_neg (of_decide_eq_false h)] at q;exact F (r+1) _ none (by simp;exact Cc B l) q
  .rename_i h;dsimp only at q;rw[if_pos (of_decide_eq_true h)] at q;exact F (r+1) _ none (by simp;exact Cc B l) q
abbrev St:=Int×List Int
def sv:Option St->AV
 | some s=>.tup [.int s.1,Co s.2]
 | none=>.none
def CR(P:Ao)(s:St):Prop:=(0<=s.1/\s.1<P.rows.length)/\BQ P s.2
def Be(P:Ao)(s:St):Option St×Option Int:=match P.rows.getD s.1.toNat .stop with
 | .stop=>(none,none)
 | .go k=>(some (k,s.2),none)
 | .ask b k=>(some (if Ct s.2 b=0 then k else s.1+1,s.2),none)
 | .tell b=>(some (s.1+1,s.2),some (Ct s.2 b))
 | .put b v=>(some (s.1+1,s.2.set b.toNat v),none)
 | .copy b c=>(some (s.1+1,s.2.set b.toNat (Ct s.2 c)),none)
 | .more b=>(some (s.1+1,s.2.set b.toNat (if Ct s.2 b+1>P.most then 0 else Ct s.2 b+1)),none)
theorem Zu7(P:Ao)(s:St):Ek P s.1 s.2=.tup [sv (Be P s).1,ov (Be P s).2]:=by
 unfold Ek Be
 cases P.rows.getD s.1.toNat .stop with
 | ask b k =>
  dsimp only
  by_cases h:Ct s.2 b=0
  .refine Ac (if_pos h) (Ac (if_pos h) ?_);rfl
  .refine Ac (if_neg h) (Ac (if_neg h) ?_);rfl
 | _=>rfl
theorem Zu8{P:Ao}(b:P.Ok){k:Int}(a:0<=k)(H:k<P.rows.length)(n:¬ (P.rows.getD k.toNat .stop).last):k+1<P.rows.length:=by
 refine Cg b.last fun i r e c=>?_
 rcases Int.lt_or_le (k+1) P.rows.length with h|h
 .exact h
 .exfalso
  have:k.toNat=i.length:=by rw[e] at h H;simp at h H;exact SG a h H
  rw[e,this] at n;simp at n;exact n c
theorem BQ.get{P:Ao}{xs:List Int}(h:BQ P xs)(H:0<=P.most)(b:Int):0<=Ct xs b/\Ct xs b<=P.most:=by
 unfold Ct;refine Ac (cr) ?_
 cases e:xs[b.toNat]? with
 | none=>exact⟨dE _,H⟩
 | some x=>exact h.2 x (aV e)
theorem BQ.set{P:Ao}{xs:List Int}(h:BQ P xs)(b:Int){v:Int}(a:0<=v/\v<=P.most):BQ P (xs.set b.toNat v):=by
 refine⟨by refine Ac bZ ?_;exact h.1,fun x c=>?_⟩
 rcases List.mem_or_eq_of_mem_set c with H|rfl
 .exact h.2 x H
 .exact a
theorem Zu9{P:Ao}(d:P.Ok){s S:St}(h:CR P s)(e:(Be P s).1=some S):CR P S:=by
 refine AX h fun q x=>?_;obtain⟨a,f⟩:=q;refine AX (He a f) fun _ m=>?_;have H:=d.ok _ m;have g:=Zu8 d a f;have M:=d.m1;unfold Be at e;generalize P.rows.getD s.1.toNat .stop=row at e m H g
 cases row with
 | stop=>injection e
 | go k=>obtain rfl:=inj e;exact⟨H,x⟩
 | ask b k =>
  obtain rfl:=inj e;refine⟨?_,x⟩;dsimp only
  split
  .exact H.2
  .exact⟨by exact Fr a,g id⟩
 | tell b=>obtain rfl:=inj e;exact⟨⟨by show 0<=s.1+1;exact Fr a,g id⟩,x⟩
 | put b v=>obtain rfl:=inj e;exact⟨⟨by show 0<=s.1+1;exact Fr a,g id⟩,x.set b H.2⟩
 | copy b c=>obtain rfl:=inj e;exact⟨⟨by show 0<=s.1+1;exact Fr a,g id⟩,x.set b (x.get (by exact c0 (by assumption)) c)⟩
 | more b =>
  obtain rfl:=inj e;refine⟨⟨by show 0<=s.1+1;exact Fr a,g id⟩,x.set b ?_⟩;have:=x.get (by exact c0 (by assumption)) b
  split
  .exact⟨dE 0,aO this.1 this.2⟩
  .exact⟨Fr this.1,jb.mp (by assumption)⟩
def Fm(P:Ao):Nat->Option St->List Int×Option St
 | 0,s=>([],s)
 | _+1,none=>([],none)
 | n+1,some s=>((Be P s).2.toList++(Fm P n (Be P s).1).1,(Fm P n (Be P s).1).2)
theorem HU(P:Ao):∀ n,Fm P n none=([],none)
 | 0=>rfl
 | _+1=>rfl
theorem Zva{n:Nat}{P:Ao}(a:P.Ok){s:St}(h:CR P s)(q:Q (.tup [sv (Be P s).1,ov (Be P s).2]) H):W (AF tbl (n+2) 6 [P.av,sv (some s)] H) Q :=
 Ra a h.1.1 h.1.2 h.2 (by refine Ac (Zu7 P s) ?_;exact q)
theorem Zvb{n:Nat}{P:Ao}(a:P.Ok){s:St}(h:CR P s)(q:Q (.tup [sv (Be P s).1,ov (Be P s).2]) H):W (AF tbl (n+2) 24 [P.av,sv (some s)] H) Q :=
 Zu6 a h.1.1 h.1.2 h.2 (by refine Ac (Zu7 P s) ?_;exact q)
theorem Zvc(s:Option Int){Q:Bool->Prop}(h₁:∀ t,s=some t->Q true)(a:s=none->Q false):OB (Bl H .isNot (ov s) .none) Q:=by
 cases s with
 | none=>exact⟨false,rfl,a rfl⟩
 | some t=>exact⟨true,rfl,h₁ t rfl⟩
theorem Zvd{n:Nat}{one:Ao}{M:Int}(e:one.Ok){r:Bh}(a:r.Ok one.boxes one.most M){xs:List Int}(x:BQ one xs)(q:Q (ov (Bw xs r)) H) :
  W (AF tbl (n+1) 11 [r.av,.tup (xs.map .int)] H) Q:=by
 refine AB (f:=⟨2,true,Zm3⟩) rfl (B1 rfl ?_);unfold Zm3
 cases r with
 | is v =>
  (repeat' (first|refine Ag ?_|refine AK ?_|refine Ar ?_|refine Ba (by trivial) ?_|refine Ak ?_|refine AU ?_|refine Zir (by decide +kernel) ?_|refine AA ?_|refine OB.of (by rfl) ?_|fail))
  exact CM (Zia _) q
 | byBox b V =>
  have h:=Zug x a.1.1 a.1.2;have c:=e.b3;have d:=e.m4;have g:=a.1.1;have A:=a.1.2;have B:=a.2.1
  (repeat' (first|refine Ag ?_|refine AK ?_|refine Ar ?_|refine A9 ?_|refine Ba (by trivial) ?_|refine Ak ?_|refine Bp ?_|refine AU ?_|refine Zis (by decide +kernel) ?_|refine A8 ?_|refine OB.of (by rfl) ?_|fail))
  exact Ie (by assumption) (D2 c A) h.1 (Ie h.2.1 (aO h.2.2 (aO d (Al rfl))) (Mr h.2.1 (B▸gE h.2.2)) (CM (Zia _) q))
theorem Zve(v:Option Int):D3 H (ov v) .none=some v.isNone:=by cases v<;>rfl
theorem Zvf:∀ l:List (Option Int),DP H .none (l.map ov)=some (l.any bO)
 | []=>rfl
 | v::r=>by
  (refine Ac ci ?_;rewrite [DP,Zve];refine Ac (Zvf r) ?_);rfl
theorem Zvg{n:Nat}{one:Ao}{M:Int}(b:one.Ok){R:List Bh}(l:R.length<=1000)(d:∀ r∈R,r.Ok one.boxes one.most M){xs:List Int}(g:BQ one xs)(q:Q (tv (R.map (Bw xs))) H) :
  W (AF tbl (n+2) 12 [.tup (R.map Bh.av),.tup (xs.map .int)] H) Q:=by
 refine AB (f:=⟨2,true,Zm7⟩) rfl (B1 rfl ?_);unfold Zm7;refine Ag (AD (BX (Af (KS (f:=Bh.av) (P:=fun r x=>x=ov (Bw xs r)) (Ax rfl ⟨R,rfl,by exact al (by assumption) (Al rfl),?_,?_⟩)))))
 .intro r a i;exact B4 (Dy rfl rfl (Zvd b (d r a) g ⟨rfl,Zia _,rfl⟩))
 .intro Y c;have y:=c.map_eq;have y:Y=(R.map (Bw xs)).map ov:=by refine Ac y (Ac dt ?_);rfl
  subst y;refine An (Zih (by simp;exact al (by assumption) (Al rfl)) ?_);refine Ag (AK (AU (Ak (Ax rfl (OB.of (v:=(R.map (Bw xs)).any bO) (Zvf _) (Vv (fun h=>?_) (fun h=>?_)))))))
  .have e:tv (R.map (Bw xs))=.none:=by unfold tv;exact Ac (if_pos h) rfl
   rw[e] at q;exact Ar (Ak (CM rfl q))
  .have e:tv (R.map (Bw xs))=.tup ((R.map (Bw xs)).map ov):=by unfold tv;exact Ac (if_neg (by simp[h])) rfl
   rw[e] at q;exact A9 (IR rfl (CM (H7 Zuf) q))
theorem Zvh{n:Nat}{L:List Ae}{r:Int}(q:Q (pv (L.find? fun p=>decide (p.row=r))) H):W (AF tbl (n+1) 13 [.lst (L.map Ae.av),.int r] H) Q:=by
 refine AB (f:=⟨2,true,Zna⟩) rfl (B1 rfl ?_);unfold Zna
 (repeat' (first|refine Ag ?_|refine CX ?_|refine Ax (by trivial) ?_|refine OB.of (by rfl) ?_|fail))
 refine Qv (fun R c a=>c 1=some (.int r)/\a=H/\L.find? (fun p=>decide (p.row=r))=R.find? (fun p=>decide (p.row=r))) ?_ ?_ ⟨rfl,rfl,rfl⟩
 .intro p R c a h;refine GH h fun s E e=>?_;subst E
  (repeat' (first|refine AK ?_|refine Ar ?_|refine A9 ?_|refine Ba (by trivial) ?_|refine Ak ?_|refine Ax (by trivial) ?_|refine AU ?_|refine BG ?_|refine BV (fun _=>?_) (fun _=>?_)|refine OB.of (by rfl) ?_|fail))
  .rename_i b;rw[e,List.find?_cons_of_pos (by simpa using b)] at q;exact CM (p.flat_of (Al rfl)) q
  .rename_i b;rw[List.find?_cons_of_neg (by simpa using b)] at e;exact⟨s,rfl,e⟩
 .intro c a h;refine GH h fun s E e=>?_;clear h;subst E
  (repeat' (first|refine Ar ?_|refine Ak ?_|fail))
  rw[e] at q;exact CM rfl q
inductive Fn where
 | over (n:Nat)
 | stuck (n:Nat)
 | comes (n:Nat)
 | missed (a b:Nat)
noncomputable def Fn.av:Fn->AV
 | .over n=>.tup [.str "over",.int n]
 | .stuck n=>.tup [.str "stuck",.int n]
 | .comes n=>.tup [.str "comes",.int n]
 | .missed a b=>.tup [.str "missed",.int a,.int b]
noncomputable def C6(s:St):List St->Nat->Option Nat
 | [],_=>none
 | x::r,i=>if x=s then some i else C6 s r (i+1)
noncomputable def FZ:List St->Nat->List (St×AV)
 | [],_=>[]
 | x::r,i=>(x,.int i)::FZ r (i+1)
theorem Sr(s:St):∀ (l:List St) (i:Nat),AY (FZ l i) s=(C6 s l i).map fun k:Nat=>AV.int k
 | [],_=>rfl
 | x::r,i=>by
  unfold C6
  by_cases h:x=s
  .refine Ac (if_pos h) ?_;simp[AY,FZ,h]
  .refine Ac (if_neg h) (BE (Sr s r (i+1)) ?_);simp[AY,FZ,h]
theorem Jn(s:St):∀ (l:List St) (i:Nat),FZ (l++[s]) i=FZ l i++[(s,.int (i+l.length:Nat))]
 | [],_=>rfl
 | x::r,i=>by
  show (x,AV.int i)::FZ (r++[s]) (i+1)=_;refine Ac (Jn s r (i+1)) ?_;have:i+1+r.length=i+(x::r).length:=by simp;exact LM
  refine Ac this ?_;rfl
theorem Hf:∀ (l:List St) (i:Nat),(FZ l i).length=l.length
 | [],_=>rfl
 | x::r,i=>by show (FZ r (i+1)).length+1=_;refine Ac (Hf r (i+1)) ?_;rfl
theorem Zvj{s:St}:∀ {l:List St} {i:Nat},C6 s l i=none->s∉l
 | [],_,_=>by simp
 | x::r,i,h=>by
  unfold C6 at h
  by_cases e:x=s
  .rw[if_pos e] at h;injection h
  .rw[if_neg e] at h;rw[aU,not_or];exact⟨fun q=>e q.symm,Zvj h⟩
theorem Zvk{s:St}:∀ {l:List St} {i k:Nat},C6 s l i=some k->s∈l/\k<i+l.length
 | [],_,_,h=>by injection h
 | x::r,i,k,h=>by
  unfold C6 at h
  by_cases e:x=s
  .rw[if_pos e] at h;obtain rfl:=inj h;exact⟨by refine Ac e ?_;exact aN ..,by simp⟩
  .rw[if_neg e] at h;exact AX (Zvk h) fun a H=>⟨aT _ a,by simp at H ⊢;exact Tx H⟩
theorem Jo{s:St}{l:List St}(h:C6 s l 0=none):Cp (FZ l 0) s (.int l.length)=FZ (l++[s]) 0:=by
 have e:AY (FZ l 0) s=none:=by (rewrite [Sr];refine Ac h ?_);rfl
 unfold AY at e;rw[Option.map_eq_none_iff,kJ] at e;have:(FZ l 0).any (fun p=>decide (p.1=s))=false:=by rw[fQ];exact e
 unfold Cp
 (refine Ac this ?_;rw[Jn])
 simp
def Bc(P:Ao)(ps:List Ae):Nat->List St->Option St->Fn
 | 0,l,_=>.over l.length
 | _+1,l,none=>.over l.length
 | f+1,l,some s=>match ps.find? fun p=>decide (p.row=s.1) with
  | some p=>if (p.rules.map (Bw s.2)).any bO then .stuck l.length else .comes l.length
  | none=>match C6 s l 0 with
   | some i=>.missed i (l.length-i)
   | none=>Bc P ps f (l++[s]) (Be P s).1
noncomputable def FO:List Int->Nat
 | []=>0
 | x::r=>x.toNat+5*FO r
theorem to5{x:Int}(h:0<=x/\x<=4):x.toNat<5:=(kN h.1).mpr (cF h.2 (Al rfl))
theorem lt5{a b c:Nat}(H:a<5)(h:b<c):a+5*b<c*5:=by exact SW H h
theorem Zvl:∀ {l:List Int},(∀ x∈l,0<=x/\x<=4)->FO l<5 ^ l.length
 | [],_=>by simp[FO]
 | x::r,h=>by
  have i:=Zvl (l:=r) fun y a=>h y (aT _ a);have H:=h x (aN ..);show x.toNat+5*FO r<5 ^ (r.length+1);rw[Nat.pow_succ];exact lt5 (to5 H) i
theorem dm5{a b c d:Nat}(h:a<5)(H:c<5)(e:a+5*b=c+5*d):a=c/\b=d:=by exact Uo h H e
theorem VU{a b c d:Nat}(hb:b<125)(h:d<125)(e:a*125+b=c*125+d):a=c/\b=d:=by exact S7 hb h e
theorem Zvm{x y:Int}(h:0<=x)(H:0<=y)(e:x.toNat=y.toNat):x=y:=by exact BE (bL h) (BE (bL H) (Ac e rfl))
theorem Zvn:∀ {l k:List Int},l.length=k.length->(∀ x∈l,0<=x/\x<=4)->(∀ x∈k,0<=x/\x<=4)->FO l=FO k->l=k
 | [],[],_,_,_,_=>rfl
 | [],_::_,h,_,_,_=>by injection h
 | _::_,[],h,_,_,_=>by injection h
 | x::l,y::k,g,H,a,e=>by
  have c:=H x (aN ..);have d:=a y (aN ..);have e:x.toNat+5*FO l=y.toNat+5*FO k:=e;have b:=dm5 (to5 c) (to5 d) e;have E:x=y:=Zvm c.1 d.1 b.1;have f:=b.2;exact Ac E (Ac (Zvn (by simpa using g) (fun z hz=>H z (aT _ hz)) (fun z hz=>a z (aT _ hz)) f) rfl)
def VV(s:St):Nat:=s.1.toNat*125+FO s.2
theorem CR.four{P:Ao}(H:P.Ok){s:St}(h:CR P s):(∀ x∈s.2,0<=x/\x<=4)/\s.2.length<=3:=by
 have m:=H.m4;have b:=H.b3;refine⟨fun x a=>?_,by have:=h.2.1;exact UK b this⟩;have:=h.2.2 x a;exact Tj m this
theorem Rb{P:Ao}(H:P.Ok){s:St}(h:CR P s):VV s<2000:=by
 refine AX (h.four H) fun a b=>?_;have c:=Zvl a;have d:5 ^ s.2.length<=5 ^ 3:=gG (Al rfl) b;exact Z2l (aZ (JS h.1.1 h.1.2) H.r16) (aZ c d)
theorem Zvo{P:Ao}(a:P.Ok){s t:St}(h:CR P s)(k:CR P t)(e:VV s=VV t):s=t:=by
 refine AX (h.four a) fun H b=>AX (k.four a) fun K g=>?_;have c:=Zvl H;have f:5 ^ s.2.length<=5 ^ 3:=gG (Al rfl) b;have i:=Zvl K;have j:5 ^ t.2.length<=5 ^ 3:=gG (Al rfl) g;have d:=VU (aZ c f) (aZ i j) e;refine jX (Zvm h.1.1 k.1.1 d.1) (Zvn ?_ H K d.2);exact iB (h.2.1.trans k.2.1.symm)
theorem Hg:∀ (N:Nat) (l:List Nat),l.Nodup->(∀ x∈l,x<N)->l.length<=N
 | 0,[],_,_=>bB _
 | 0,x::_,_,h=>absurd (h x (aN ..)) (Uf)
 | N+1,l,H,h=>by
  have i:=Hg N (l.erase N) (H.erase N) fun x a=>by
   have:=(H.mem_erase_iff).mp a;exact Nat.lt_of_le_of_ne (kR (h x this.2)) this.1
  have:l.length<=(l.erase N).length+1:=by
   refine Ac List.length_erase ?_
   split
   .exact jl (bB _)
   .exact cJ _
  exact T2 i this
theorem Zvp{P:Ao}(a:P.Ok):∀ {l:List St},l.Nodup->(∀ s∈l,CR P s)->(l.map VV).Nodup
 | [],_,_=>by simp
 | s::l,n,h=>by
  rw[fx] at n
  (refine Ac ci ?_;rw[fx])
  refine⟨fun m=>?_,Zvp a n.2 fun t H=>h t (aT _ H)⟩;exact Ah (a7.mp m) fun t H e=>n.1 (Zvo a (h t (aT _ H)) (h s (aN ..)) e▸H)
theorem Zvq{P:Ao}(H:P.Ok){l:List St}(n:l.Nodup)(h:∀ s∈l,CR P s):l.length<=2000:=by
 have:=Hg 2000 (l.map VV) (Zvp H n h) fun x b=>by
  refine Ah (a7.mp b) fun s a e=>?_;subst e;exact Rb H (h s a)
 simpa using this
theorem Mt(l:List (Option Int)){Q:Bool->Prop}(q:Q (l.any bO)):OB (Bl H .is (tv l) .none) Q:=by
 unfold tv
 cases e:l.any bO with
 | true=>rw[e] at q;exact⟨true,rfl,q⟩
 | false=>rw[e] at q;exact⟨false,rfl,q⟩
theorem Zvr(p:Option Ae){Q:Bool->Prop}(q:Q p.isSome):OB (Bl H .isNot (pv p) .none) Q:=by
 cases p with
 | none=>exact⟨false,rfl,q⟩
 | some p=>exact⟨true,rfl,q⟩
theorem Zvs(s:Option St){Q:Bool->Prop}(q:Q s.isSome):OB (Bl H .isNot (sv s) .none) Q:=by
 cases s with
 | none=>exact⟨false,rfl,q⟩
 | some s=>exact⟨true,rfl,q⟩
def MeI(one:Ao)(ps:List Ae)(s:St)(H:AH)(k:Nat)(σ:AW)(h:AH):Prop:=∃ (l:List St) (st:Option St),σ 0=some one.av/\σ 1=some (.lst (ps.map Ae.av))/\σ 2=some (sv st)/\σ 3=some (.ref H.length)/\σ 4=some (.int l.length)/\h=H++[.dictS (FZ l 0)]/\(∀ t,st=some t->CR one t)/\(∀ t∈l,CR one t)/\l.Nodup/\k+l.length=2001/\Bc one ps k l st=Bc one ps 2001 [] (some s)
theorem Zvt{n:Nat}{one two:Ao}(g:one.Ok)(M:two.Ok){ps:List Ae}(I:∀ p∈ps,p.Ok one two){s:St}(O:CR one s)(q:Q (Bc one ps 2001 [] (some s)).av H):W (AF tbl (n+3) 14 [one.av,.lst (ps.map Ae.av),sv (some s)] H) Q:=by
 refine AB (f:=⟨3,true,Zng⟩) rfl (ES (fun V R A w S o=>?_));unfold Zng;have K:=M.b3
 (repeat' (first|refine Ag ?_|refine AD ?_|refine Ak ?_|refine IZ ?_|fail))
 refine Zjs (MeI one ps s H) 2001 (Al rfl) ⟨[],some s,A,w,S,rfl,rfl,rfl,fun t e=>(da e)▸O,fun _ h=>(nomatch h),jV,rfl,rfl⟩ ?_;intro k Y U h;refine UO h fun l st A w S J X x z D G C e=>?_;clear h;subst x;have F:=Zvq g G D;refine aD (Zao C F) fun j E=>?_;subst E;refine KP S (Zvs st ?_)
 cases st with
 | none =>
  refine⟨fun h=>(nomatch h),fun _=>?_⟩;have e:Fn.over l.length=_:=e;rw[<- e] at q
  (repeat' (first|refine Ar ?_|refine Ay (by trivial) ?_|with_reducible refine CA ?_|refine AP ?_|refine o _ _ ?_|fail))
  exact GY rfl q
 | some t =>
  refine⟨fun _=>⟨j,rfl,?_⟩,fun h=>(nomatch h)⟩;have u:=z t rfl
  have e:(match (ps.find? fun p=>decide (p.row=t.1)) with
   | some p=>if (p.rules.map (Bw t.2)).any bO then Fn.stuck l.length else .comes l.length
   | none=>match C6 t l 0 with
    | some i=>.missed i (l.length-i)
    | none=>Bc one ps j (l++[t]) (Be one t).1)=_:=e
  refine Ag (AD (B4 (BY w (Af (B5 S (OB.of (v:=.int t.1) rfl (An (Zvh ?_))))))));refine Ag (AK (KP rfl (Zvr _ ?_)))
  cases y:(ps.find? fun p=>decide (p.row=t.1)) with
  | some p =>
   rw[y] at e;dsimp only at e;have m:p∈ps:=dP y;have P:=(I p m).rl;refine AA (Ag (AK (AU (B4 (Af (B5 rfl (OB.of (v:=.tup (p.rules.map Bh.av)) rfl (Af (B5 S (OB.of (v:=.tup (t.2.map .int)) rfl (An (Zvg g (Gf K P) (I p m).ok u.2 (Ak (Mt _ ?_))))))))))))))
   cases r:(p.rules.map (Bw t.2)).any bO with
   | true =>
    rw[r,if_pos rfl] at e;rw[<- e] at q
    (repeat' (first|refine Ar ?_|refine Ay (by trivial) ?_|with_reducible refine CA ?_|refine AP ?_|refine AA ?_|refine o _ _ ?_|fail))
    exact GY rfl q
   | false =>
    rw[r,if_neg (Al rfl)] at e;rw[<- e] at q
    (repeat' (first|refine Ar ?_|refine A9 ?_|refine Ay (by trivial) ?_|with_reducible refine CA ?_|refine AP ?_|refine A8 ?_|refine o _ _ ?_|fail))
    exact GY rfl q
  | none =>
   rw[y] at e;dsimp only at e;refine A8 (A9 ?_);refine Ag (AK (AZ (Ja (Ax S (Ax J (Zjz (k:=t) (Cn ?_)))))));rw[Sr]
   cases c:C6 t l 0 with
   | some i =>
    rw[c] at e;dsimp only at e;have B:=(Zvk c).2;rw[<- e] at q;have L:AY (FZ l 0) t=some (.int i):=by (rewrite [Sr];refine Ac c ?_);rfl
    refine AA ?_
    (repeat' (first|refine Zj0 (k:=t) L ?_|refine Ar ?_|with_reducible refine CA ?_|refine Bk (by trivial) ?_|refine Ax (by trivial) ?_|refine Af ?_|refine An ?_|refine AP ?_|refine Jb ?_|refine EN ?_|refine o _ _ ?_|fail))
    have:(l.length:Int)-(i:Int)=((l.length-i:Nat):Int):=(kl (cC (by first|assumption|(rw[ey] at B;exact B)|omega))).symm;exact Ac this (GY rfl q)
   | none =>
    rw[c] at e;dsimp only at e;refine A8 (A9 ?_)
    (repeat' (first|refine Zj2 (k:=t) (by rw[Hf];exact al (by assumption) (Al rfl)) ?_|refine Zva g u ?_|refine Ag ?_|refine AD ?_|refine Dy (by trivial) (by trivial) ?_|refine Bk (by trivial) ?_|refine Ak ?_|refine Ax (by trivial) ?_|refine B4 ?_|refine Bp ?_|refine Jc ?_|refine Bn ?_|refine OB.of (by rfl) ?_|fail))
    refine⟨l++[t],(Be one t).1,A,w,rfl,J,?_,by exact Ac (Jo c) rfl,fun T d=>Zu9 g u d,?_,?_,by simp;exact L7 C,e⟩
    .show some (AV.int ((l.length:Int)+1))=_;simp
    .intro T d
     rcases bl.mp d with d|d
     .exact D T d
     .refine Ac (aJ.mp d) ?_;exact u
    .rw[cK];refine⟨G,by simp,fun a r b N=>?_⟩;refine Ac (aJ.mp N) ?_;intro q;exact Zvj c (q▸r)
def RT(ps:List Ae)(r:List (Int×AV)):Prop:=∀ k,AY r k=(ps.find? fun p=>decide (p.row=k)).map fun p=>.tup (p.rules.map Bh.av)
def HF(ps:List Ae):List (Int×AV):=ps.map fun p=>(p.row,.tup (p.rules.map Bh.av))
theorem Mu:∀ ps:List Ae,RT ps (HF ps)
 | [],k=>rfl
 | p::ps,k=>by
  have i:=Mu ps k
  by_cases e:p.row=k
  .simp[HF,AY,e]
  .have h:AY (HF (p::ps)) k=AY (HF ps) k:=by simp[HF,AY,eG,e]
   have H:(p::ps).find? (fun p=>decide (p.row=k))=ps.find? fun p=>decide (p.row=k):=by simp[eG,e]
   exact Ac h (Ac H (Ac i rfl))
theorem Zvu{n:Nat}{ps:List Ae}(j:ps.length<=100)(g:(ps.map Ae.row).Nodup)(q:Q (.ref H.length) (H++[.dict (HF ps)])):W (AF tbl (n+1) 26 [.lst (ps.map Ae.av)] H) Q:=by
 refine AB (f:=⟨1,false,Zpb⟩) rfl (BZ rfl ?_);unfold Zpb
 (repeat' (first|refine Ag ?_|refine AD ?_|refine CX ?_|refine Ax (by trivial) ?_|refine Ha ?_|refine OB.of (by rfl) ?_|fail))
 refine Qv (fun r c a=>c 1=some (.ref H.length)/\∃ d,ps=d++r/\a=H++[.dict (HF d)]) ?_ ?_ ⟨rfl,[],rfl,rfl⟩
 .intro p r c a h;obtain⟨s,d,e,rfl⟩:=h
  have w:Cp (HF d) p.row (.tup (p.rules.map Bh.av))=HF (d++[p]):=by
   have:(HF d).any (fun x=>decide (x.1=p.row))=false:=by
    rw[fQ];intro x m i;obtain⟨P,b,rfl⟩:=a7.mp m;rw[e,cw,cK] at g;exact g.2.2 P.row (gP b) p.row (by simp) (of_decide_eq_true i)
   unfold Cp;refine Ac this ?_;simp[HF]
  have l:(HF d).length<=100:=by
   have:=congrArg eX e;simp[HF] at this ⊢;exact SZ j this
  (repeat' (first|refine Zju (k:=p.row) (LR l) ?_|refine Ba (by trivial) ?_|refine Ak ?_|refine Ax (by trivial) ?_|refine IY ?_|refine OB.of (by rfl) ?_|fail))
  exact⟨s,d++[p],by refine Ac e ?_;simp,by exact Ac w rfl⟩
 .intro c a h;obtain⟨s,d,e,rfl⟩:=h;rw[bS] at e;subst e
  (repeat' (first|refine Ar ?_|refine Ax (by trivial) ?_|fail))
  exact q
theorem Zvv{c:Bool}{a b:AV}{Q:AV->Prop}(q:Q (if c then b else a)):OB (Cy H (.lst [a,b]) (.int (if c=true then 1 else 0))) Q:=by
 cases c with
 | true=>exact⟨_,rfl,q⟩
 | false=>exact⟨_,rfl,q⟩
theorem Rc{n:Nat}{one two:Ao}(x:one.Ok)(Z:two.Ok){ps:List Ae}(T:∀ p∈ps,p.Ok one two){s:St}(hs:CR one s){J:Nat}{z:List (Int×AV)}(N:H[J]?=some (.dict z))(u:RT ps z)(q:Q (Bc one ps 2001 [] (some s)).av H):W (AF tbl (n+3) 27 [one.av,.ref J,sv (some s)] H) Q:=by
 refine AB (f:=⟨3,true,Zpi⟩) rfl (ES (fun bt R I A S B=>?_));unfold Zpi;have Y:=Z.b3;have o:∀ X:AH,(H++X)[J]?=some (.dict z):=fun X=>by refine Ac (aM (Bm N)) ?_;exact N
 (repeat' (first|refine Ag ?_|refine AD ?_|refine IZ ?_|fail))
 refine Zjs (fun k w K=>∃ (l:List St) (st:Option St),w 0=some one.av/\w 1=some (.ref J)/\w 2=some (sv st)/\w 3=some (.ref H.length)/\K=H++[.dictS (FZ l 0)]/\(∀ t,st=some t->CR one t)/\(∀ t∈l,CR one t/\(ps.find? fun p=>decide (p.row=t.1))=none)/\l.Nodup/\k+l.length=2001/\Bc one ps k l st=Bc one ps 2001 [] (some s)) 2001 (Al rfl) ⟨[],some s,I,A,S,rfl,rfl,fun t e=>(da e)▸hs,fun _ h=>(nomatch h),jV,rfl,rfl⟩ ?_;intro k w K h;obtain⟨l,st,I,A,S,U,rfl,D,C,P,O,e⟩:=h;have F:=Zvq x P fun t g=>(C t g).1;refine aD (Zao O F) fun j E=>?_;subst E;refine KP S (Zvs st ?_);have dl:(FZ l 0).length=l.length:=Hf l 0
 cases st with
 | none =>
  refine⟨fun h=>(nomatch h),fun _=>?_⟩;have e:Fn.over l.length=_:=e;rw[<- e] at q
  (repeat' (first|refine Zj1 (al (bW dl) (al F (Al rfl))) ?_|refine Ar ?_|with_reducible refine CA ?_|refine Ax (by trivial) ?_|refine Af ?_|refine An ?_|refine AP ?_|refine FJ ?_|refine B _ _ ?_|fail))
  exact Ac dl (GY rfl q)
 | some t =>
  refine⟨fun _=>⟨j,rfl,?_⟩,fun h=>(nomatch h)⟩;have g:=D t rfl
  have e:(match (ps.find? fun p=>decide (p.row=t.1)) with
   | some p=>if (p.rules.map (Bw t.2)).any bO then Fn.stuck l.length else .comes l.length
   | none=>match C6 t l 0 with
    | some i=>.missed i (l.length-i)
    | none=>Bc one ps j (l++[t]) (Be one t).1)=_:=e
  refine Ag (AK (AZ (Ja (Ax S (Ax U (Zjz (k:=t) (Cn ?_)))))));rw[Sr]
  cases c:C6 t l 0 with
  | some i =>
   refine AX (Zvk c) fun hm M=>?_;rw[(C t hm).2,c] at e;dsimp only at e;rw[<- e] at q;have L:AY (FZ l 0) t=some (.int i):=by (rewrite [Sr];refine Ac c ?_);rfl
   refine AA ?_
   (repeat' (first|refine Zj0 (k:=t) L ?_|refine Zj1 (al (bW dl) (al F (Al rfl))) ?_|refine Ar ?_|with_reducible refine CA ?_|refine Br ?_|refine Ax (by trivial) ?_|refine Af ?_|refine An ?_|refine AP ?_|refine Jb ?_|refine FJ ?_|refine EN ?_|refine B _ _ ?_|fail))
   refine Ac dl ?_;have:(l.length:Int)-(i:Int)=((l.length-i:Nat):Int):=(kl (cC (by first|assumption|(rw[ey] at M;exact M)|omega))).symm;exact Ac this (GY rfl q)
  | none =>
   refine A8 (A9 ?_);refine Ag (AK (AZ (Hb (B5 S (OB.of (v:=.int t.1) rfl (Ax A (Zjv (o _) (Cn ?_))))))));rw[u]
   cases m:(ps.find? fun p=>decide (p.row=t.1)) with
   | some p =>
    rw[m] at e;dsimp only at e;have r:p∈ps:=dP m;have G:=(T p r).rl;have L:AY z t.1=some (.tup (p.rules.map Bh.av)):=by (rewrite [u];refine Ac m ?_);rfl
    refine AA (Ar (AP (Af (Bp (BW (CA (AI ?_)))))))
    (repeat' (first|refine Zjw (o _) L ?_|refine Zuh x (Gf Y G) (T p r).ok g.2 ?_|refine Mt _ ?_|refine Ba (by trivial) ?_|refine Ak ?_|refine Ax (by trivial) ?_|refine B4 ?_|refine BX ?_|refine Af ?_|refine An ?_|refine Ci ?_|refine Q2 ?_|refine KR ?_|refine OB.of (by rfl) ?_|fail))
    refine Zvv ?_
    (repeat' (first|refine Zj1 (al (bW dl) (al F (Al rfl))) ?_|refine Ax (by trivial) ?_|refine Af ?_|refine An ?_|refine FJ ?_|refine B _ _ ?_|fail))
    refine Ac dl ?_
    cases y:(p.rules.map (Bw t.2)).any bO with
    | true =>
     rw[y,if_pos rfl] at e;rw[<- e] at q;exact GY rfl q
    | false =>
     rw[y,if_neg (Al rfl)] at e;rw[<- e] at q;exact GY rfl q
   | none =>
    rw[m,c] at e;dsimp only at e;refine A8 (A9 ?_)
    (repeat' (first|refine Zj2 (k:=t) (al (bW dl) (al F (Al rfl))) ?_|refine Zvb x g ?_|refine Zj1 (al (bW dl) (al F (Al rfl))) ?_|refine Ag ?_|refine AD ?_|refine Dy (by trivial) (by trivial) ?_|refine Ak ?_|refine Ax (by trivial) ?_|refine B4 ?_|refine Bp ?_|refine FJ ?_|refine Jc ?_|refine OB.of (by rfl) ?_|fail))
    refine⟨l++[t],(Be one t).1,I,A,rfl,U,by exact Ac dl (Ac (Jo c) rfl),fun V d=>Zu9 x g d,?_,?_,by simp;exact L7 O,e⟩
    .intro V d
     rcases bl.mp d with d|d
     .exact C V d
     .refine Ac (aJ.mp d) ?_;exact⟨g,m⟩
    .rw[cK];refine⟨P,by simp,fun a y b hb=>?_⟩;refine Ac (aJ.mp hb) ?_;intro q;exact Zvj c (q▸y)
theorem Mv{n:Nat}{i lo a:Int}(h:lo<=i/\i<=a)(q:Q (.bool true) H):W (AF tbl (n+1) 0 [.int i,.int lo,.int a] H) Q:=by
 refine Zum rfl ?_
 have:C5 lo a (.int i)=true:=by
  show (decide _&&decide _)=true;refine Ac (decide_eq_true h.1) (Ac (decide_eq_true h.2) ?_);rfl
 exact Ac this q
def rσ(r:AQ)(b m k:Int):AW:=BL [r.av,.int b,.int m,.int k] 0
def HG(b:As)(a c:Int):DE:=dF b 0 [Am (.int a),dI 0,Am (.int c)]
theorem Df{a c:Int}(h:0<=a/\a<c):0<=a/\a<=c-1:=⟨h.1,dU h.2⟩
section
variable {Φ:As}{H:AH}{b m k j v:Int}
theorem Zvx:HD Φ (rσ .stop b m k) H=.ok (.ret (.bool true),rσ .stop b m k) H:=by kernel_rfl
theorem Mw:HD Φ (rσ (.go j) b m k) H=Ai (Av (HG Φ j (k-1))) (Zlo Φ) (rσ (.go j) b m k) H:=by kernel_rfl
theorem Zvy:HD Φ (rσ (.more j) b m k) H=Ai (Av (HG Φ j (b-1))) (Zln Φ) (rσ (.more j) b m k) H:=by kernel_rfl
theorem Zvz:HD Φ (rσ (.tell j) b m k) H=Ai (Av (HG Φ j (b-1))) (Zln Φ) (rσ (.tell j) b m k) H:=by kernel_rfl
theorem Jp:HD Φ (rσ (.put j v) b m k) H=Ai (Bo (BU (Aq (HG Φ j (b-1)))) (Av (Am (.bool false))) AC) (QL Φ) (rσ (.put j v) b m k) H:=by kernel_rfl
theorem Jq:QL Φ (rσ (.put j v) b m k) H=(Ai (Av (HG Φ v m)) (Zll Φ)) (rσ (.put j v) b m k) H:=by kernel_rfl
theorem Zv0:HD Φ (rσ (.copy j v) b m k) H=Ai (Bo (BU (Aq (HG Φ j (b-1)))) (Av (Am (.bool false))) AC) (QL Φ) (rσ (.copy j v) b m k) H:=by kernel_rfl
theorem Zv1:QL Φ (rσ (.copy j v) b m k) H=(Ai (Av (HG Φ v (b-1))) (Zlk Φ)) (rσ (.copy j v) b m k) H:=by kernel_rfl
theorem Rd:HD Φ (rσ (.ask j v) b m k) H=Ai (Bo (BU (Aq (HG Φ j (b-1)))) (Av (Am (.bool false))) AC) (QL Φ) (rσ (.ask j v) b m k) H:=by kernel_rfl
theorem Re:QL Φ (rσ (.ask j v) b m k) H=(Av (HG Φ v (k-1))) (rσ (.ask j v) b m k) H:=by kernel_rfl
theorem VW{n:Nat}{a c:Int}(h:0<=a/\a<=c){σ:AW}(q:R (.bool true) H):WS (Av (HG (AF tbl (n+1)) a c) σ H) N R :=
 Ar (B4 (CA (CA (AI (Mv h q)))))
theorem EV{n:Nat}{a c:Int}(h:0<=a/\a<=c){d:DS}{σ:AW}(q:R (.bool true) H):WS (Ai (Av (HG (AF tbl (n+1)) a c)) d σ H) N R:=Ag (VW h q)
theorem HH{n:Nat}{a c:Int}(h:0<=a/\a<=c){d:DS}{σ:AW}(q:WS (d σ H) N R):WS (Ai (Bo (BU (Aq (HG (AF tbl (n+1)) a c))) (Av (Am (.bool false))) AC) d σ H) N R :=
 Ag (AK (B0 (AZ (B4 (CA (CA (AI (Mv h (Cn (A8 (A9 q)))))))))))
end
theorem Zv2{n:Nat}{b m k:Int}{r:AQ}(h:r.Ok b m k)(q:Q (.bool true) H):W (AF tbl (n+2) 1 [r.av,.int b,.int m,.int k] H) Q:=by
 refine AB (f:=⟨4,true,HD⟩) rfl (B1 rfl ?_);have f:=CM (H:=H) (v:=.bool true) rfl q;refine (?_:WS (HD (AF tbl (n+1)) (rσ r b m k) H) _ _)
 cases r with
 | stop=>refine Ac Zvx ?_;exact⟨_,_,rfl,f⟩
 | go j=>refine Ac Mw ?_;exact EV (Df h) f
 | more j=>refine Ac Zvy ?_;exact EV (Df h) f
 | tell j=>refine Ac Zvz ?_;exact EV (Df h) f
 | put j v=>refine Ac Jp ?_;exact HH (Df h.1) (Ac Jq (EV h.2 f))
 | copy j v=>refine Ac Zv0 ?_;exact HH (Df h.1) (Ac Zv1 (EV (Df h.2) f))
 | ask j v=>refine Ac Rd ?_;exact HH (Df h.1) (Ac Re (VW (Df h.2) f))
theorem Zv3{X:Type}{f:X->AV}{l:List X}{xs:List AV}(h:Cv (fun (_:X) x=>x=AV.bool true) l xs){Q:AV->Prop}(q:Q (.bool true)):OB (BK H .all [.lst xs]) Q :=
 Zjk (Cv.all (T:=fun v=>v=AV.bool true) (fun _ _ e=>e) h) q
noncomputable def Bx(P:Ao)(r:AV):AV:=.tup [.int P.boxes,.int P.most,r]
section
variable {H:AH}{l:List AV}{r:AV}
theorem DJ(b:BA H l r)(a:l.length<=1000){Q:AV->Prop}(q:Q (.int l.length)):OB (BK H .len [r]) Q:=by
 refine⟨_,?_,q⟩;show Gm H r=_;have e:=b.of
 cases b with
 | lst=>exact if_pos (al a (Al rfl))
 | ref h =>
  show (listOf? H (.ref _)).bind _=_;exact Ac e (if_pos (al a (Al rfl)))
theorem DK(a:BA H l r){Q:AV->Prop}(q:Q (.bool true)):OB (BK H .isinstance [r,.bi .list]) Q:=by
 refine⟨_,?_,q⟩;show (Er H r .list).map AV.bool=_
 cases a with
 | lst=>rfl
 | ref h =>
  unfold Er F6;simp only[h];rfl
theorem El(b:BA H l r)(a:l.length<=1000){Q:AV->Prop}(q:Q (.lst l)):OB (BK H .list [r]) Q:=by
 refine⟨_,?_,q⟩;show Ec H r=_;have e:=b.of
 cases b with
 | lst=>exact if_pos (al a (Al rfl))
 | ref h =>
  show (listOf? H (.ref _)).bind _=_;exact Ac e (if_pos (al a (Al rfl)))
theorem B8(a:BA H l r){k:Int}{v:AV}(e:Ce l k=some v){Q:AV->Prop}(q:Q v):OB (Cy H r (.int k)) Q:=by
 refine⟨v,?_,q⟩;have E:=a.of
 cases a with
 | lst=>exact e
 | ref h =>
  show (listOf? H (.ref _)).bind _=_;exact Ac E e
end
def pσ(b m:Int)(r:AV):AW:=AM (AM (AM (BL [.tup [.int b,.int m,r]] 0) 1 (.int b)) 2 (.int m)) 3 r
theorem VX{a:As}{b m:Int}{r:AV}:QM a (BL [.tup [.int b,.int m,r]] 0) H=Zlx a (pσ b m r) H:=by kernel_rfl
theorem Zv4{i:List AQ}{x:AQ}(h:i.length<=1000):Ce ((i++[x]).map AQ.av) (-1)=some x.av:=by
 unfold Ce;refine Ac (if_pos ⟨by exact bd _,by exact bd _⟩) (Ac (if_neg (Al rfl)) (Ac (if_pos (by simp;exact LH h)) ?_));have:(-1+(((i++[x]).map AQ.av).length:Int)).toNat=(i.map AQ.av).length:=by simp;exact Il h
 refine Ac this ?_;simp
theorem Zv5{X:Type}{f:X->AV}{l:List X}{r:AV}(a:BA H (l.map f) r)(h:l.length<=1000){Q:AV->Prop}(q:Q (.int l.length)):OB (BK H .len [r]) Q:=DJ a (by rw[aK];exact h) (by rw[aK];exact q)
theorem Zv6{n:Nat}{P:Ao}(h:P.Ok){r:AV}(a:BA H (P.rows.map AQ.av) r)(q:Q (.bool true) H):W (AF tbl (n+3) 2 [Bx P r] H) Q:=by
 refine AB (f:=⟨1,true,QM⟩) rfl (B1 rfl ?_);have f:=CM (H:=H) (v:=.bool true) rfl q;have B:=h.b0;have c:=h.r1;have R:=h.r16;have l:P.rows.length<=1000:=al R (Al rfl);refine (?_:WS (QM (AF tbl (n+2)) (BL [.tup [.int P.boxes,.int P.most,r]] 0) H) _ _);refine Ac VX ?_;unfold Zlx;refine Ag (AK (CH (B0 (AZ (B4 (BY (v:=.int P.boxes) rfl (CA (AI (Mv ⟨B,h.b3⟩ (Cn (A8 ?_)))))))))));refine B0 (AZ (B4 (BY (v:=.int P.most) rfl (CA (AI (Mv ⟨h.m1,h.m4⟩ (Cn (A8 (A9 ?_)))))))));unfold Sn
 (repeat' (first|refine AA ?_|refine A8 ?_|refine DK a ?_|refine Zv5 a l ?_|refine Zjd (P:=fun _ x=>x=.bool true) ?_|refine Ag ?_|refine AK ?_|refine Ar ?_|refine A9 ?_|refine Ay (by trivial) ?_|with_reducible refine AI ?_|refine BY (by trivial) ?_|refine Ak ?_|refine Ax (by trivial) ?_|refine BX ?_|refine Af ?_|refine FH ?_|refine AZ ?_|refine B0 ?_|refine CH ?_|refine BV (fun _=>?_) (fun _=>?_)|refine Qt (fun _=>?_) (fun _=>?_)|refine Cn ?_|refine OB.of (by rfl) ?_|fail))
 all_goals first|exact absurd (bF.mpr c) (by assumption)|exact absurd (show (P.rows.length:Int)<=20 from bF.mpr (al R (Al rfl))) (by assumption)|skip
 refine⟨_,.inr a,by rw[aK];exact al l (Al rfl),?_,?_⟩
 .intro v m X;refine Ah (a7.mp m) fun x o e=>?_;subst e
  (repeat' (first|refine Zv5 (a.more X) l ?_|refine Zv2 (h.ok x o) ?_|refine Ay (by trivial) ?_|refine BY (by trivial) ?_|refine B4 ?_|refine BX ?_|refine Af ?_|refine An ?_|fail))
  exact⟨rfl,rfl,rfl⟩
 .intro y d;refine An (Zv3 (f:=fun v:AV=>v) d ?_);refine Cg h.last fun i x e k=>?_;have g:i.length<=1000:=by have:=congrArg eX e;simp at this;exact T4 c R this
  have b:Ce (P.rows.map AQ.av) (-1)=some x.av:=by refine Ac e ?_;exact Zv4 g
  cases x with
  | go j =>
   (repeat' (first|refine AA ?_|refine A8 ?_|refine B8 a b ?_|refine Ar ?_|refine A9 ?_|refine Ba (by trivial) ?_|refine Ak ?_|refine Bp ?_|refine G2 ?_|refine Ci ?_|refine Qs ?_|refine Zir (by decide +kernel) ?_|refine Mi ?_|refine Cn ?_|refine Eg ?_|refine OB.of (by rfl) ?_|fail))
   exact f
  | stop =>
   (repeat' (first|refine AA ?_|refine A8 ?_|refine B8 a b ?_|refine Ar ?_|refine A9 ?_|refine Ba (by trivial) ?_|refine Ak ?_|refine Bp ?_|refine G2 ?_|refine Ci ?_|refine Qs ?_|refine Zir (by decide +kernel) ?_|refine Zis (by decide +kernel) ?_|refine Vu ?_|refine Cn ?_|refine Eg ?_|refine OB.of (by rfl) ?_|fail))
   exact f
  | _=>exact k.elim
theorem Rf{l:List AV}{P:Ao}{r:AV}(c:BA H l r)(f:∀ v∈l,flat 10 v=true):AR H.length H 12 (Bx P r)=some (Bx P r):=by
 cases c with
 | lst=>exact KQ _ _ (H7 (n:=11) fun v a=>by
   simp only[aU,bf,or_false] at a
   rcases a with rfl|rfl|rfl
   .rfl
   .rfl
   .exact Zij f)
 | @ref i h =>
  have b:=(Bm h);show ([AV.int P.boxes,AV.int P.most,AV.ref i].mapM (AR H.length H 11)).map AV.tup=_
  have e:AR H.length H 11 (.ref i)=some (.ref i):=by
   show (if i<H.length then some (AV.ref i) else _)=_;exact Ac (if_pos b) rfl
  refine Ac (Sh (KQ _ _ rfl) (Sh (KQ _ _ rfl) (Sh e Zio))) ?_;rfl
theorem Zv7{n:Nat}{P:Ao}(h:P.Ok){r:AV}(a:BA H (P.rows.map AQ.av) r)(q:Q (Bx P r) H):W (AF tbl (n+4) 3 [Bx P r] H) Q:=by
 refine AB (f:=⟨1,true,VD⟩) rfl (B1 rfl ?_);unfold VD
 (repeat' (first|refine Zv6 h a ?_|refine Ag ?_|refine AK ?_|refine Ar ?_|refine A9 ?_|refine Ax (by trivial) ?_|refine AZ ?_|refine B0 ?_|refine A8 ?_|refine Cn ?_|fail))
 refine⟨List.take_length,_,Rf a (fun v b=>?_),q⟩;exact Ah (a7.mp b) fun x _ e=>BE e (x.flat_of (Al rfl))
theorem Zv8{n:Nat}{P:Ao}(h:P.Ok){xs:List Int}(a:BQ P xs){r:AV}(q:Q (.bool true) H):W (AF tbl (n+2) 4 [Bx P r,Co xs] H) Q:=by
 have l:=a.1;have b:=h.b3;refine AB (f:=⟨2,true,VE⟩) rfl (B1 rfl ?_);have f:=CM (H:=H) (v:=.bool true) rfl q;unfold VE
 (repeat' (first|refine AA ?_|refine A8 ?_|refine Vz (by simp;exact Ux l b) ?_|refine KS (f:=AV.int) (P:=fun _ x=>x=.bool true) ?_|refine Ag ?_|refine AK ?_|refine Ar ?_|refine A9 ?_|refine Ay (by trivial) ?_|refine Ba (by trivial) ?_|refine Ak ?_|refine Ax (by trivial) ?_|refine BX ?_|refine Af ?_|refine AU ?_|refine Eh ?_|refine Qt (fun _=>?_) (fun _=>?_)|refine OB.of (by rfl) ?_|fail))
 all_goals first|(rename_i h;exfalso;simp at h;exact Uy l h)|skip
 refine⟨xs,rfl,HK b l,?_,?_⟩
 .intro x m d
  (repeat' (first|refine Mv (a.2 x m) ?_|fail))
  exact⟨rfl,rfl,rfl⟩
 .intro y c;exact An (Zv3 (f:=AV.int) c f)
theorem VY{X:Type}{f:X->AV}{l:List X}{Q:AV->Prop}(h:l.length<=1000000)(q:Q (.int l.length)):OB (BK H .len [.tup (l.map f)]) Q:=Vz (by rw[aK];exact h) (by rw[aK];exact q)
theorem Zwa{n:Nat}{b r:AV}{m:Int}{v:Option Int}(h:Sq m v)(q:Q (.bool true) H):W (AF tbl (n+2) 7 [.tup [b,.int m,r],ov v] H) Q:=by
 refine AB (f:=⟨2,true,VF⟩) rfl (B1 rfl ?_);have f:=CM (H:=H) (v:=.bool true) rfl q;unfold VF
 cases v with
 | none =>
  (repeat' (first|refine Ar ?_|refine FI (by trivial) ?_|refine Ak ?_|refine Qs ?_|refine Mi ?_|refine Cn ?_|refine OB.of (by rfl) ?_|fail))
  exact f
 | some i =>
  have:=h i rfl
  (repeat' (first|refine Mv (by assumption) ?_|refine Ar ?_|fail))
  exact f
def lσ(a b v:AV):AW:=BL [a,b,v] 0
section
variable {Φ:As}{H:AH}{a b x y r B:AV}{l:List AV}{b0 m0 j:Int}
theorem Jr:JU Φ (lσ a b (.tup [x,y,.tup l])) H=VH Φ (lσ a b (.tup [x,y,.tup l])) H:=by kernel_rfl
theorem Mx:Ij Φ (lσ a B (.tup [.str "is",x])) H=Ai (Av (Cz Φ (Am (.fn 7)) [Am B,Am x])) (Zmo Φ) (lσ a B (.tup [.str "is",x])) H:=by kernel_rfl
theorem Js:Ij Φ (lσ (.tup [.int b0,.int m0,r]) B (.tup [.str "by",.int j,.tup l])) H=Ai (Bo (BU (Aq (HG Φ j (b0-1)))) (Av (Am (.bool false))) AC) (VG Φ) (lσ (.tup [.int b0,.int m0,r]) B (.tup [.str "by",.int j,.tup l])) H:=by kernel_rfl
end
theorem HV{n:Nat}{c:Bool}{lo h:Int}{v:AV}(a:DW v=true)(e:C5 lo h v=c)(q:Q (.bool c) H):W (AF tbl (n+1) 0 [v,.int lo,.int h] H) Q:=Zum a (e▸q)
theorem Fz{lo H i:Int}(h:lo<=i/\i<=H):C5 lo H (.int i)=true:=by
 show (decide _&&decide _)=true;refine Ac (decide_eq_true h.1) (Ac (decide_eq_true h.2) ?_);rfl
theorem Lb{one two:Ao}(a:one.Ok)(b:two.Ok){r:AV}(d:BA H (two.rows.map AQ.av) r){x y:AV}{l:List AV}{c C:Bool}(f:DW x=true)(g:DW y=true)(e:C5 0 ((one.rows.length:Int)-1) x=c)(E:C5 0 ((two.rows.length:Int)-1) y=C){n:Nat}
  (q:(c&&C)=false->R (.bool false) H) (h:(c&&C)=true->WS (QO (AF tbl (n+3)) (lσ one.av (Bx two r) (.tup [x,y,.tup l])) H) N R):WS (VH (AF tbl (n+3)) (lσ one.av (Bx two r) (.tup [x,y,.tup l])) H) N R:=by
 have i:=a.r16;have t:=b.r16;unfold VH;refine Ag (AK (CH (B0 (AZ (B4 (Af (B5 (v:=.tup [x,y,.tup l]) rfl (OB.of (v:=x) rfl (CA (Af ?_))))))))));refine Br (BX (Af (B5 (v:=one.av) rfl (OB.of rfl (An (V0 (by exact al (by assumption) (Al rfl)) (Ak (EN (An (HV f e (Cn ?_)))))))))))
 cases c with
 | false=>exact AA (AA (Ar (Ak (q rfl))))
 | true =>
  refine A8 (B0 (AZ (B4 (Af (B5 (v:=.tup [x,y,.tup l]) rfl (OB.of (v:=y) rfl (CA (Af ?_))))))));refine Br (BX (Af (B5 (v:=Bx two r) rfl (OB.of (v:=r) rfl (An (Zv5 d (al t (Al rfl)) (Ak (EN (An (HV g E (Cn ?_)))))))))))
  cases C with
  | false=>exact AA (Ar (Ak (q rfl)))
  | true=>exact A8 (A9 (h rfl))
theorem Zwb{n:Nat}{one two:Ao}(a:one.Ok){r:AV}{u:Bh}(h:u.Ok one.boxes one.most two.most)(q:Q (.bool true) H):W (AF tbl (n+3) 8 [one.av,Bx two r,u.av] H) Q:=by
 refine AB (f:=⟨3,true,Ij⟩) rfl (B1 rfl ?_);have f:=CM (H:=H) (v:=.bool true) rfl q
 cases u with
 | is v =>
  refine (?_:WS (Ij (AF tbl (n+2)) (lσ one.av (Bx two r) (.tup [.str "is",ov v])) H) _ _);exact Ac Mx (Ag (Ar (B4 (CA (AI (Zwa h f))))))
 | byBox b V =>
  have d:0<=b/\b<one.boxes:=h.1;have l:(V.length:Int)=one.most+1:=h.2.1;have m:=a.m4;refine (?_:WS (Ij (AF tbl (n+2)) (lσ (.tup [.int one.boxes,.int one.most,.lst (one.rows.map AQ.av)]) (Bx two r) (.tup [.str "by",.int b,.tup (V.map ov)])) H) _ _);refine Ac Js (HH (Df d) ?_);unfold VG
  (repeat' (first|refine AA ?_|refine A8 ?_|refine VY (Io l m) ?_|refine KS (f:=ov) (P:=fun _ x=>x=.bool true) (B5 rfl (OB.of (v:=.tup (V.map ov)) rfl ⟨V,rfl,by exact Io l m,?_,?_⟩))|refine Ag ?_|refine AK ?_|refine Ar ?_|refine A9 ?_|refine Ba (by trivial) ?_|refine Br ?_|refine Ak ?_|refine BX ?_|refine Af ?_|refine An ?_|refine AU ?_|refine Bn ?_|refine Eh ?_|refine Qt (fun _=>?_) (fun _=>?_)|refine OB.of (by rfl) ?_|fail))
  all_goals first|exact absurd l (by assumption)|skip
  .intro v e g;exact B4 (Dy (v:=Bx two r) rfl (u:=ov v) rfl (Zwa (h.2.2 v e) ⟨rfl,rfl,rfl⟩))
  .intro y c;exact An (Zv3 (f:=ov) c f)
theorem Zwc{n:Nat}{one two:Ao}(a:one.Ok)(c:two.Ok){p:Ae}(h:p.Ok one two){r:AV}(j:BA H (two.rows.map AQ.av) r)(q:Q (.bool true) H):W (AF tbl (n+4) 9 [one.av,Bx two r,p.av] H) Q:=by
 refine AB (f:=⟨3,true,JU⟩) rfl (B1 rfl ?_);have f:=CM (H:=H) (v:=.bool true) rfl q;have b:=c.b3;have G:=h.r1;have d:=h.o1;have g:=h.rl;refine (?_:WS (JU (AF tbl (n+3)) (lσ one.av (Bx two r) (.tup [.int p.row,.int p.other,.tup (p.rules.map Bh.av)])) H) _ _);refine Ac Jr (Lb a c j rfl rfl (Fz ⟨h.r0,dU G⟩) (Fz ⟨h.o0,dU d⟩) (fun e=>nomatch e) (fun _=>?_));unfold QO;refine Ar (D7 (Ci (BX (Af (B5 (v:=.tup [.int p.row,.int p.other,.tup (p.rules.map Bh.av)]) rfl (OB.of (v:=.tup (p.rules.map Bh.av)) rfl (An (VY (HK b g) (B5 (v:=Bx two r) rfl (OB.of (v:=.int two.boxes) rfl (BG (Cn ?_))))))))))));refine Ac (decide_eq_true g) (AA (BX (Af (KS (f:=Bh.av) (P:=fun _ x=>x=.bool true) (B5 (v:=.tup [.int p.row,.int p.other,.tup (p.rules.map Bh.av)]) rfl (OB.of (v:=.tup (p.rules.map Bh.av)) rfl ⟨p.rules,rfl,by exact HK b g,?_,?_⟩))))))
 .intro u k l;exact B4 (BY (v:=one.av) rfl (Dy (v:=Bx two r) rfl (u:=u.av) rfl (Zwb a (h.ok u k) ⟨rfl,rfl,rfl⟩)))
 .intro y i;exact An (Zv3 (f:=Bh.av) i f)
theorem Zwd{n:Nat}{P:Ao}(h:P.Ok){r:AV}(a:BA H (P.rows.map AQ.av) r)(q:Q P.av H):W (AF tbl (n+1) 15 [Bx P r] H) Q:=by
 refine AB (f:=⟨1,true,Zni⟩) rfl (B1 rfl ?_);unfold Zni;have R:=h.r16;refine Ar (AP (Af (B5 (v:=Bx P r) rfl (OB.of (v:=.int P.boxes) rfl (Af (B5 (v:=Bx P r) rfl (OB.of (v:=.int P.most) rfl ?_)))))));refine Af (BX (Af (B5 (v:=Bx P r) rfl (OB.of (v:=r) rfl (An (El a (by rw[aK];exact al R (Al rfl)) (An ?_)))))));exact CM P.flat q
structure Su(one:Ao)(w:AV)(j k:Nat)(σ:AW):Prop where
 s0:σ 0=some one.av
 s1:σ 1=some w
 s2:σ 2=some (.ref j)
 s3:σ 3=some (.ref k)
noncomputable def CN(dn:List Ae):List (Int×AV):=dn.map fun p=>(p.row,AV.bool true)
section
variable {one two:Ao}(h1:one.Ok)(h2:two.Ok){ps:List Ae}(h:Eb one two ps){H:AH}{r:AV}(hr:BA H (two.rows.map AQ.av) r){j:Nat}
include h1 h2 h hr
theorem Zwe{n:Nat}{dn rest:List Ae}{p:Ae}(e:ps=dn++p::rest){σ:AW}(f:Su one (Bx two r) j H.length σ):WS (KY (AF tbl (n+4)) (AM σ 4 p.av) (H++[.dict (CN dn)])) (fun σ' i=>Su one (Bx two r) j H.length σ'/\i=H++[.dict (CN (dn++[p]))]) R:=by
 have a:=h.len;have o:p∈ps:=by refine Ac e ?_;simp
 have b:dn.length<=16:=by have:=congrArg eX e;simp at this;exact Ta a this
 have w:((CN dn).any fun x=>decide (x.1=p.row))=false:=by
  rw[fQ];intro x y m;refine Ah (a7.mp y) fun P c E=>?_;subst E;have d:=h.nd;rw[e,cw,cK] at d;exact d.2.2 P.row (gP c) p.row (by simp) (of_decide_eq_true m)
 have l:(AY (CN dn) p.row).isSome=false:=by
  unfold AY;refine Ac ic ?_;rw[fQ] at w;have:List.find? (fun q=>decide (q.1=p.row)) (CN dn)=none:=kJ.mpr w;refine Ac this ?_;rfl
 have t:Cp (CN dn) p.row (.bool true)=CN (dn++[p]):=by
  unfold Cp;refine Ac w ?_;simp[CN]
 have S:=f.s0;have g:=f.s1;have s:=f.s3;unfold KY;refine Ag (AK (CH (B0 (AZ (B4 (BY (v:=one.av) S (Dy (v:=Bx two r) g (u:=p.av) rfl (Zwc h1 h2 (h.ok p o) (hr.more _) (Cn (A8 ?_))))))))));refine AZ (Hb (B5 (v:=p.av) rfl (OB.of (v:=.int p.row) rfl (Ax (v:=.ref H.length) s (Zjt (k:=p.row) ?_)))));refine Ac l (Cn (A8 (A9 ?_)));unfold Zmx;refine IY (Ak (Ax (v:=.ref H.length) s (B5 (v:=p.av) rfl (OB.of (v:=.int p.row) rfl (Zju (k:=p.row) (by unfold CN;rw[aK];exact al b (Al rfl)) ?_)))));exact Ac t ⟨⟨S,g,f.s2,s⟩,rfl⟩
theorem Zwf{n:Nat}{tl:List AV}{src:AH->Option (List AV)}(s:∀ X,src (H++X)=some (ps.map Ae.av++tl)):∀ (rest dn:List Ae),ps=dn++rest->∀ (f:Nat) (σ:AW),Su one (Bx two r) j H.length σ->∃ σ',Su one (Bx two r) j H.length σ'/\BF (.one 4) (KY (AF tbl (n+4))) src (f+rest.length) dn.length σ (H++[.dict (CN dn)])=BF (.one 4) (KY (AF tbl (n+4))) src f ps.length σ' (H++[.dict (CN ps)])
 | [],dn,e,f,σ,q=>by
  rw[bS] at e;subst e;exact⟨σ,q,rfl⟩
 | p::rest,dn,e,f,σ,q=>by
  refine Cg (Zwe h1 h2 h hr (n:=n) (R:=fun _ _=>False) e q) fun x g c a=>?_;obtain⟨fl,A⟩:=x
  cases fl with
  | ret v=>exact a.elim
  | next =>
   refine AX a fun d b=>Ah (Zwf (n:=n) s rest (dn++[p]) (by (refine Ac e ?_;rw[cu]);rfl) f A d) fun σ' Q E=>?_;refine⟨σ',Q,?_⟩;refine BE E (Ac bH ?_);show BF _ _ src (f+rest.length+1) _ _ _=_;subst b;refine (Zaw (s _) (v:=p.av) (Ac e (Ac cw (Ac (cu ..) (BE (show (dn.map Ae.av).length=dn.length from aK ..) Zau))))).trans ?_;show Rs.bind (KY (AF tbl (n+4)) (AM σ 4 p.av) _) _=_;exact Ac c rfl
end
theorem Rg{t:Tg}{b:DS}{src:AH->Option (List AV)}{g i:Nat}{σ:AW}{l:List AV}(e:src H=some l)(h:l.length=i):BF t b src (g+1) i σ H=.ok (.next,σ) H:=(GL e (dO (bW h))).trans (if_pos h)
theorem Z2z{k:Nat}{b:DS}{src:AH->Option (List AV)}{g i c:Nat}{σ:AW}{H h:AH}{l:List AV}{v:AV}(e:src H=some l)(a:l[i]?=some v)(z:Z (b (AM σ k v) H) c h):Z (BF (.one k) b src (g+1) i σ H) c h:=Ac (Zaw e a) (Z.bind z)
theorem Rh{t:Tg}{it:DE}{b:DS}{σ:AW}{H a:AH}{c k:Nat}(h:W (it σ H) fun x aa=>x=.ref k/\Z (BF t b (fun H=>listOf? H (.ref k)) 20000 0 σ aa) c a):Z (Da t it b σ H) c a :=
 Z.after (h.mono fun x aa h=>by refine AX h fun e q=>?_;subst e;exact q)
section
variable {one two:Ao}(h1:one.Ok)(h2:two.Ok){ps:List Ae}(h:Eb one two ps){H:AH}{r:AV}(hr:BA H (two.rows.map AQ.av) r){j:Nat}
theorem Zwg{l:List AV}(h:H[j]?=some (.list l))(X:AH):listOf? (H++X) (.ref j)=some l:=((BA.ref h).more X).of
def VZ(one:Ao)(w:AV)(ps:List Ae)(H:AH)(v:AV):Prop:=(∀ (n:Nat) (X:AH) (Q:AV->AH->Prop),Q (.bool false) (H++X)->W (AF tbl (n+4) 9 [one.av,w,v] (H++X)) Q)\/∃ q:Ae,v=q.av/\q.Ok one two/\∃ p∈ps,p.row=q.row
include h1 h2 h hr
theorem Jt{n:Nat}{tl:List AV}(b:H[j]?=some (.list (ps.map Ae.av++tl))){σ:AW}(f:Su one (Bx two r) j H.length σ):∃ g σ',Su one (Bx two r) j H.length σ'/\BF (.one 4) (KY (AF tbl (n+4))) (fun H=>listOf? H (.ref j)) 20000 0 σ (H++[.dict []])=BF (.one 4) (KY (AF tbl (n+4))) (fun H=>listOf? H (.ref j)) (g+1) ps.length σ' (H++[.dict (CN ps)]):=by
 have a:=h.len;refine Ah (Zwf h1 h2 h hr (n:=n) (src:=fun H=>listOf? H (.ref j)) (fun X=>Zwg b X) ps [] rfl (19999-ps.length+1) σ f) fun σ' q e=>⟨19999-ps.length,σ',q,?_⟩;refine BE e (Ac (show 19999-ps.length+1+ps.length=20000 by exact SD a) ?_);rfl
theorem Zwh{n:Nat}(c:H[j]?=some (.list (ps.map Ae.av)))(q:Q (.lst (ps.map Ae.av)) H):W (AF tbl (n+5) 10 [one.av,Bx two r,.ref j] H) Q:=by
 refine AB (f:=⟨3,true,VJ⟩) rfl (ES (fun B R S i s d=>?_));unfold VJ;have a:=h.len;have b:=BA.ref c;have l:(ps.map Ae.av).length<=1000:=by rw[aK];exact al a (Al rfl)
 refine Ag (AK (CH (B0 (AZ (BX (H0 (v:=.ref j) s (DK b (Cn (A8 ?_)))))))));refine AZ (Ci (BX (Ay (v:=.ref j) s (Zv5 b (al a (Al rfl)) (Ak (OB.of (v:=decide ((20:Int)<ps.length)) rfl (Cn ?_)))))));refine Ac (decide_eq_false (TO a)) (A8 (A9 (Ag (AD (Ha ?_)))));unfold Zmz;refine Ag (Qy (Ax (v:=.ref j) s ⟨j,rfl,?_⟩));refine Cg (Jt h1 h2 h hr (n:=n) (tl:=[]) (by rw[bS];exact c) (σ:=AM B 3 (.ref H.length)) ⟨S,i,s,rfl⟩) fun g k f e=>Ac e (Ac (Rg (Zwg c _) (aK ..)) ?_);refine⟨_,_,rfl,Ar (BX (Ay (v:=.ref j) f.s2 (El (b.more _) l (d _ _ ?_))))⟩;exact GY (Zij (Zui (Al rfl))) q
theorem Zwi{n:Nat}{v:AV}(c:VZ (two:=two) one (Bx two r) ps H v){tl:List AV}(t:ps.length+tl.length<=19)(b:H[j]?=some (.list (ps.map Ae.av++v::tl))):Z (AF tbl (n+5) 10 [one.av,Bx two r,.ref j] H) 3 (H++[.dict (CN ps)]):=by
 refine Zt3 (Ew rfl ?_);unfold VJ;have i:=h.len;have d:=BA.ref b;have L:(ps.map Ae.av++v::tl).length=ps.length+tl.length+1:=by simp;exact Uv
 refine IT (AK (CH (B0 (AZ (BX (H0 (v:=.ref j) rfl (DK d (Cn (A8 ?_)))))))));refine AZ (Ci (BX (Ay (v:=.ref j) rfl (DJ d (by refine Ac L ?_;exact al (cx t) (Al rfl)) (Ak (OB.of (v:=decide ((20:Int)<((ps.map Ae.av++v::tl).length:Nat))) rfl (Cn ?_)))))));refine Ac (decide_eq_false (by rw[L];exact TP t L)) (A8 (A9 (IT (AD (Ha ?_)))));unfold Zmz;refine De (Rh (k:=j) (Ax (v:=.ref j) rfl ⟨rfl,?_⟩));refine Cg (Jt h1 h2 h hr (n:=n) b (σ:=AM (BL [one.av,Bx two r,.ref j] 0) 3 (.ref H.length)) ⟨rfl,rfl,rfl,rfl⟩) fun g q f e=>Ac e (Z2z (Zwg b _) (v:=v) (by (refine Ac (bT (by rw[aK];exact bB _)) ?_;rw[aK,jo]);rfl) ?_);unfold KY;refine De (IU ?_)
 rcases c with c|⟨p,rfl,o,a⟩
 .refine CH (B0 (AZ (B4 (BY (v:=one.av) f.s0 (Dy (v:=Bx two r) f.s1 (u:=v) rfl (c n _ _ (Cn (AA (AA (Sk (Ak rfl)))))))))))
 .refine CH (B0 (AZ (B4 (BY (v:=one.av) f.s0 (Dy (v:=Bx two r) f.s1 (u:=p.av) rfl (Zwc h1 h2 o (hr.more _) (Cn (A8 ?_))))))));refine AZ (Hb (B5 (v:=p.av) rfl (OB.of (v:=.int p.row) rfl (Ax (v:=.ref H.length) f.s3 (Zjt (k:=p.row) ?_)))))
  have l:(AY (CN ps) p.row).isSome=true:=by
   unfold AY
   (refine Ac ic ?_;rw[lh])
   exact Ah a fun P m E=>⟨_,gP m,decide_eq_true E⟩
  exact Ac l (Cn (AA (Sk (Ak rfl))))
end
theorem Zwj(s:Option St):flat 11 (sv s)=true:=by
 cases s with
 | none=>rfl
 | some s =>
  refine H7 (n:=10) ?_;intro v h;simp at h
  rcases h with rfl|rfl
  .rfl
  .exact H7 Zud
structure B6 where
 run:Ao
 now:Option St
 told:List Int
 want:Option (Ao×List Ae)
 many:Nat
def wv:Option (Ao×List Ae)->AV
 | none=>.none
 | some w=>.tup [w.1.av,.lst (w.2.map Ae.av)]
structure B6.Ok(L:B6):Prop where
 run:L.run.Ok
 now:∀ t,L.now=some t->CR L.run t
 want:∀ w,L.want=some w->w.1.Ok/\∀ p∈w.2,p.Ok L.run w.1
noncomputable def place?(ps:List Ae)(t:St):Option Ae:=ps.find? fun p=>decide (p.row=t.1)
def NS(L:B6):Prop:=∀ w t p,L.want=some w->L.now=some t->place? w.2 t=some p->(p.rules.map (Bw t.2)).any bO=false
def fresh(p:Ae)(t:St):St:=(p.other,(p.rules.map (Bw t.2)).map fun v=>v.getD 0)
def By(L:B6):B6:=match L.want,L.now with
 | some w,some t=>(match place? w.2 t with
  | some p=>{ run:=w.1,now:=some (fresh p t),told:=L.told,want:=none,many:=L.many+1 }
  | none=>L)
 | _,_=>L
def DX(L:B6)(t:St):B6:={ L with now:=(Be L.run t).1,told:=L.told++(Be L.run t).2.toList,want:=if (Be L.run t).1.isSome then L.want else none }
def E2(L:B6):B6:=match L.now with
 | some t=>By (DX L t)
 | none=>L
theorem Zwk:∀ {l:List (Option Int)},l.any bO=false->l.map ov=(l.map fun v=>v.getD 0).map AV.int
 | [],_=>rfl
 | none::_,h=>by injection h
 | some i::r,h=>by
  have h:r.any bO=false:=h;rw[ci,ci,ci,Zwk h];rfl
theorem Zwl{p:Ae}{t:St}(h:(p.rules.map (Bw t.2)).any bO=false):AV.tup [.int p.other,tv (p.rules.map (Bw t.2))]=sv (some (fresh p t)):=by
 unfold tv;refine Ac (if_neg (by rw[h];decide)) (Ac (Zwk h) ?_);rfl
theorem Zwm{one two:Ao}{r:Bh}(h:r.Ok one.boxes one.most two.most){xs:List Int}:Sq two.most (Bw xs r):=by
 cases r with
 | is v=>exact h
 | byBox b V =>
  intro i e;have e:V.getD (xs.getD b.toNat 0).toNat none=some i:=e;rw[cr] at e
  cases q:V[(xs.getD b.toNat 0).toNat]? with
  | none=>rw[q] at e;injection e
  | some v=>rw[q] at e;exact h.2.2 v (aV q) i e
theorem Zwn{one two:Ao}(H:two.Ok){p:Ae}(h:p.Ok one two){t:St}:CR two (fresh p t):=by
 refine⟨⟨h.o0,h.o1⟩,by simp[fresh,h.rl],fun x c=>?_⟩;refine Ah (a7.mp c) fun v b E=>?_;subst E;refine Ah (a7.mp b) fun r a E=>?_;subst E;have:=Zwm (h.ok r a) (xs:=t.2)
 cases e:Bw t.2 r with
 | none=>exact⟨dE _,by have:=H.m1;show (0:Int)<=_;exact c0 (by assumption)⟩
 | some i=>exact this i e
theorem Zwo{L:B6}{P:B6->Prop}(h:P L)(k:∀ w t p,L.want=some w->L.now=some t->place? w.2 t=some p->P { run:=w.1,now:=some (fresh p t),told:=L.told,want:=none,many:=L.many+1 }):P (By L):=by
 unfold By
 cases b:L.want with
 | none=>exact h
 | some w=>cases a:L.now with
  | none=>exact h
  | some t =>
   show P (match place? w.2 t with|some p=>_|none=>_)
   cases H:place? w.2 t with
   | none=>exact h
   | some p=>exact k w t p b a H
set_option tactic.hygienic true in
theorem Zwp{L:B6}(h:L.Ok):(By L).Ok:=Zwo h fun w t p c d b =>
 AX (h.want w c) fun H a=>⟨H,fun T e=>inj e▸Zwn H (a p (dP b)),fun _ e=>nn e trivial⟩
theorem Zwq{L:B6}(h:L.Ok){t:St}(H:L.now=some t):(DX L t).Ok:=by
 refine⟨h.run,fun T e=>Zu9 h.run (h.now t H) e,fun w e=>?_⟩;have e:(if (Be L.run t).1.isSome then L.want else none)=some w:=e
 split at e
 .exact h.want w e
 .injection e
set_option tactic.hygienic true in
theorem Ri{L:B6}(h:L.Ok):(E2 L).Ok:=by
 unfold E2
 cases H:L.now with
 | some t=>exact Zwp (Zwq h H)
 | none=>exact h
noncomputable def C9:List aW:=[aA "running",aA "now",aA "told",aA "wanted",aA "many"]
structure At(l:List (aW×AV))(r n t w m:AV):Prop where
 own:∀ x∈l,C9.contains x.1=true
 r:l.lookup (aA "running")=some r
 n:l.lookup (aA "now")=some n
 t:l.lookup (aA "told")=some t
 w:l.lookup (aA "wanted")=some w
 m:l.lookup (aA "many")=some m
theorem Ey{l:List (aW×AV)}{a b:aW}{v:AV}(h:(a == b)=false):(D1 l b v).lookup a=l.lookup a:=by
 unfold D1;exact Ac cq (Ac h rfl)
theorem JV{l:List (aW×AV)}{a:aW}{v:AV}:(D1 l a v).lookup a=some v:=by
 unfold D1
 (refine Ac cq ?_;rw[beq_self_eq_true])
theorem Zwt{l:List (aW×AV)}{a:aW}{v:AV}(h:C9.contains a=true)(o:∀ x∈l,C9.contains x.1=true):∀ x∈D1 l a v,C9.contains x.1=true:=by
 intro x H
 rcases aU.mp H with rfl|H
 .exact h
 .exact o x H
section
variable {l:List (aW×AV)}{r n t w m v:AV}
theorem At.sr(a:At l r n t w m):At (D1 l "running" v) v n t w m:=⟨Zwt (by decide +kernel) a.own,JV,(Ey (by decide +kernel)).trans a.n,(Ey (by decide +kernel)).trans a.t,(Ey (by decide +kernel)).trans a.w,(Ey (by decide +kernel)).trans a.m⟩
theorem At.sn(a:At l r n t w m):At (D1 l "now" v) r v t w m:=⟨Zwt (by decide +kernel) a.own,(Ey (by decide +kernel)).trans a.r,JV,(Ey (by decide +kernel)).trans a.t,(Ey (by decide +kernel)).trans a.w,(Ey (by decide +kernel)).trans a.m⟩
theorem At.sw(a:At l r n t w m):At (D1 l "wanted" v) r n t v m:=⟨Zwt (by decide +kernel) a.own,(Ey (by decide +kernel)).trans a.r,(Ey (by decide +kernel)).trans a.n,(Ey (by decide +kernel)).trans a.t,JV,(Ey (by decide +kernel)).trans a.m⟩
theorem At.sm(a:At l r n t w m):At (D1 l "many" v) r n t w v:=⟨Zwt (by decide +kernel) a.own,(Ey (by decide +kernel)).trans a.r,(Ey (by decide +kernel)).trans a.n,(Ey (by decide +kernel)).trans a.t,(Ey (by decide +kernel)).trans a.w,JV⟩
theorem At.not(a:At l r n t w m){x:aW}(h:C9.contains x=false):l.lookup x=none:=by
 cases e:l.lookup x with
 | none=>rfl
 | some v =>
  have:=a.own _ (mem_of_lookup e);rw[h] at this;injection this
end
structure LV(H:AH)(j k b:Nat)(L:B6):Prop where
 ne:j≠k
 list:H[k]?=some (.list (L.told.map .int))
 at_:∃ l,H[j]?=some (.attrs l)/\l.length<=b/\At l L.run.av (sv L.now) (.ref k) (wv L.want) (.int L.many)
def Fo(H h:AH)(j k:Nat):Prop:=h.length=H.length/\∀ i,i≠j->i≠k->h[i]?=H[i]?
theorem Fo.refl(H:AH)(j k:Nat):Fo H H j k:=⟨rfl,fun _ _ _=>rfl⟩
theorem Fo.trans{H c h:AH}{j k:Nat}(a:Fo H c j k)(b:Fo c h j k):Fo H h j k:=⟨b.1.trans a.1,fun i d e=>(b.2 i d e).trans (a.2 i d e)⟩
theorem Fo.set{j k i:Nat}{o:AO}(h:i=j\/i=k):Fo H (H.set i o) j k:=⟨bZ ..,fun I a b=>by
 rw[bI]
 rintro rfl
 rcases h with rfl|rfl
 .exact a rfl
 .exact b rfl⟩
theorem LV.more{j k b B:Nat}{L:B6}(v:LV H j k b L)(h:b<=B):LV H j k B L:=by
 obtain⟨a,c,l,d,e,f⟩:=v;exact⟨a,c,l,d,by exact U6 h e,f⟩
section
variable {H:AH}{j k b:Nat}{L:B6}
theorem F0{l:List (aW×AV)}{x:aW}{v:AV}(h:l.lookup x=some v)(H:∀ b,v≠.bi b):atName l x=some v:=by
 unfold atName;refine Ac h ?_
 cases v<;>first|rfl|exact absurd rfl (H _)
theorem Wa(s:Option St):∀ b,sv s≠.bi b:=by cases s<;>(intro b h;injection h)
theorem Wb(s:Option (Ao×List Ae)):∀ b,wv s≠.bi b:=by cases s<;>(intro b h;injection h)
theorem Cu(v:LV H j k b L){Q:AV->Prop}(q:Q (sv L.now)):OB (CE cL H "now" (.inst cL j)) Q:=by
 obtain⟨_,_,l,h,_,a⟩:=v;exact V1 h (F0 a.n (Wa _)) q
theorem JW(v:LV H j k b L){Q:AV->Prop}(q:Q (wv L.want)):OB (CE cL H "wanted" (.inst cL j)) Q:=by
 obtain⟨_,_,l,h,_,a⟩:=v;exact V1 h (F0 a.w (Wb _)) q
theorem EW(v:LV H j k b L){Q:AV->Prop}(q:Q L.run.av):OB (CE cL H "running" (.inst cL j)) Q:=by
 obtain⟨_,_,l,c,_,a⟩:=v;exact V1 c (F0 a.r (by intro b h;injection h)) q
theorem Zwv(v:LV H j k b L){Q:AV->Prop}(q:Q (.int L.many)):OB (CE cL H "many" (.inst cL j)) Q:=by
 obtain⟨_,_,l,c,_,a⟩:=v;exact V1 c (F0 a.m (by intro b h;injection h)) q
theorem Zww(v:LV H j k b L){Q:AV->Prop}(q:Q (.ref k)):OB (CE cL H "told" (.inst cL j)) Q:=by
 obtain⟨_,_,l,c,_,a⟩:=v;exact V1 c (F0 a.t (by intro b h;injection h)) q
theorem FP{l':List (aW×AV)}{c:B6}(v:LV H j k b L)(t:c.told=L.told)(f:l'.length<=b+1)(a:At l' c.run.av (sv c.now) (.ref k) (wv c.want) (.int c.many)):LV (H.set j (.attrs l')) j k (b+1) c:=by
 obtain⟨h,d,l,e,g,i⟩:=v;refine⟨h,?_,l',?_,f,a⟩
 .refine Ac (bI h) (Ac t ?_);exact d
 .exact bR (Bm e)
theorem Ju(v:LV H j k b L)(hb:b<=99999)(s:Option St){Q:AH->Prop}(q:∀ h,LV h j k (b+1) { L with now:=s }->Fo H h j k->Q h):OB (putA cL H "now" (.inst cL j) (sv s)) Q:=by
 exact Bu v.at_ fun l d c a=>V2 d (Hm hb c) (q _ (FP v rfl (by show l.length+1<=b+1;exact HJ c) a.sn) (.set (.inl rfl)))
theorem Rj(v:LV H j k b L)(hb:b<=99999)(P:Ao){Q:AH->Prop}(q:∀ h,LV h j k (b+1) { L with run:=P }->Fo H h j k->Q h):OB (putA cL H "running" (.inst cL j) P.av) Q:=by
 exact Bu v.at_ fun l d c a=>V2 d (Hm hb c) (q _ (FP v rfl (by show l.length+1<=b+1;exact HJ c) a.sr) (.set (.inl rfl)))
theorem Zwx(v:LV H j k b L)(hb:b<=99999)(s:Option (Ao×List Ae)){Q:AH->Prop}(q:∀ h,LV h j k (b+1) { L with want:=s }->Fo H h j k->Q h):OB (putA cL H "wanted" (.inst cL j) (wv s)) Q:=by
 exact Bu v.at_ fun l d c a=>V2 d (Hm hb c) (q _ (FP v rfl (by show l.length+1<=b+1;exact HJ c) a.sw) (.set (.inl rfl)))
theorem Zwy(v:LV H j k b L)(hb:b<=99999){Q:AH->Prop}(q:∀ h,LV h j k (b+1) { L with many:=L.many+1 }->Fo H h j k->Q h):OB (putA cL H "many" (.inst cL j) (.int ((L.many:Int)+1))) Q:=by
 refine Bu v.at_ fun l d c a=>V2 d (Hm hb c) (q _ (FP v rfl (by show l.length+1<=b+1;exact HJ c) ?_) (.set (.inl rfl)));exact a.sm
theorem Zwz(v:LV H j k b L)(n:L.told.length<=100000)(i:Int){Q:AH->Prop}(q:∀ h,LV h j k b { L with told:=L.told++[i] }->Fo H h j k->Q h):OB (BO H (.ref k) (CV [.int i])) Q:=by
 obtain⟨c,d,l,f,g,a⟩:=id v
 have e:BO H (.ref k) (CV [.int i])=some (H.set k (.list (L.told.map .int++[.int i]))):=by
  show (match H[k]? with|some (.list l)=>(CV [.int i] l).map fun m=>H.set k (.list m)|_=>none)=_;refine Ac d ?_;show (if (L.told.map AV.int).length<=1048576 then some (L.told.map AV.int++[.int i]) else none).map _=_;refine Ac (if_pos (by simp;exact al (by assumption) (Al rfl))) ?_;rfl
 refine⟨_,e,q _ ⟨c,?_,l,?_,g,a⟩ (.set (.inr rfl))⟩
 .refine Ac (bR (Bm d)) ?_;simp
 .refine Ac (bI (ct c)) ?_;exact f
theorem Rk(v:LV H j k b L):I1 H (.ref k)=true:=by
 show (match H[k]? with|some (.list _)=>true|_=>false)=true;exact Ac v.list rfl
theorem Lc(v:LV H j k b L){c:As}{K:Nat}{nm:aW}(n:C9.contains nm=false){σ:AW}{d:List DE}(h:W (AL d σ H) fun vs A=>W (c K (.inst cL j::vs) A) Q):∃ J l,AV.inst cL j=.inst cL J/\H[J]?=some (.attrs l)/\l.lookup nm=none/\W (AL d σ H) fun vs A=>W (c K (.inst cL J::vs) A) Q:=by
 exact Bu v.at_ fun l e f a=>⟨j,l,rfl,e,a.not n,h⟩
theorem Zw1(v:LV H j k b L){c:As}{K:Nat}{nm:aW}(n:C9.contains nm=false){σ:AW}{d:List DE}{P:AV->AH->Prop}(h:W (AL d σ H) fun vs A=>ZX (c K (.inst cL j::vs) A) P):∃ J l,AV.inst cL j=.inst cL J/\H[J]?=some (.attrs l)/\l.lookup nm=none/\W (AL d σ H) fun vs A=>ZX (c K (.inst cL J::vs) A) P:=by
 exact Bu v.at_ fun l e f a=>⟨j,l,rfl,e,a.not n,h⟩
end
theorem G5(s:Option (Ao×List Ae)){Q:Bool->Prop}(q:Q s.isNone):OB (Bl H .is (wv s) .none) Q:=by
 cases s with
 | none=>exact⟨true,rfl,q⟩
 | some s=>exact⟨false,rfl,q⟩
theorem My(s:Option (Ao×List Ae)){Q:Bool->Prop}(q:Q s.isSome):OB (Bl H .isNot (wv s) .none) Q:=by
 cases s with
 | none=>exact⟨false,rfl,q⟩
 | some s=>exact⟨true,rfl,q⟩
theorem Dw(s:Option St){Q:Bool->Prop}(q:Q s.isNone):OB (Bl H .is (sv s) .none) Q:=by
 cases s with
 | none=>exact⟨true,rfl,q⟩
 | some s=>exact⟨false,rfl,q⟩
theorem Jv{n:Nat}{L:B6}(o:L.Ok)(ns:NS L){j k b:Nat}(hb:b<=99990)(lv:LV H j k b L)(q:∀ d,LV d j k (b+4) (By L)->Fo H d j k->Q .none d):W (AF tbl (n+3) 50 [.inst cL j] H) Q:=by
 refine AB (f:=⟨1,false,Ztc⟩) rfl (BZ rfl ?_);unfold Ztc;have s:By L=L->Q .none H:=fun e=>q H (by refine Ac e ?_;exact lv.more (UL)) (.refl ..)
 cases h:L.want with
 | none =>
  (repeat' (first|refine JW lv ?_|refine Cu lv ?_|refine G5 _ ?_|refine Dw _ ?_|refine Ag ?_|refine AK ?_|refine Ea (by trivial) ?_|refine Ak ?_|refine AU ?_|refine CH ?_|fail))
  refine Ac h ?_
  (repeat' (first|refine Ar ?_|refine Ak ?_|refine AA ?_|fail))
  exact s (by unfold By;exact Ac h rfl)
 | some w =>
  cases a:L.now with
  | none =>
   (repeat' (first|refine JW lv ?_|refine Cu lv ?_|refine G5 _ ?_|refine Dw _ ?_|refine Ag ?_|refine AK ?_|refine Ea (by trivial) ?_|refine Ak ?_|refine AU ?_|refine CH ?_|fail))
   refine Ac h ?_
   (repeat' (first|refine JW lv ?_|refine Cu lv ?_|refine G5 _ ?_|refine Dw _ ?_|refine Ea (by trivial) ?_|refine Ak ?_|refine AU ?_|refine A8 ?_|fail))
   refine Ac a ?_
   (repeat' (first|refine Ar ?_|refine Ak ?_|refine AA ?_|fail))
   exact s (by unfold By;exact Ac h (Ac a rfl))
  | some t =>
   obtain⟨y,i⟩:=o.want w h;have B:=y.b3;refine Ag (AK ?_)
   (repeat' (first|refine JW lv ?_|refine Cu lv ?_|refine G5 _ ?_|refine Dw _ ?_|refine Ea (by trivial) ?_|refine Ak ?_|refine AU ?_|refine CH ?_|fail))
   refine Ac h ?_
   (repeat' (first|refine JW lv ?_|refine Cu lv ?_|refine G5 _ ?_|refine Dw _ ?_|refine Ea (by trivial) ?_|refine Ak ?_|refine AU ?_|refine A8 ?_|fail))
   refine Ac a (A8 (A9 ?_));refine Ag (AD (B4 (Af (Bp (Ea rfl (JW lv ?_))))));refine Ac h (Ak (OB.of (v:=.lst (w.2.map Ae.av)) rfl (Af (Bp (Ea rfl (Cu lv ?_))))));refine Ac a (Ak (OB.of (v:=.int t.1) rfl (An (Zvh ?_))));refine AK (KP rfl (Zvr _ ?_))
   cases c:(w.2.find? fun p=>decide (p.row=t.1)) with
   | none =>
    refine A8 (A9 ?_);exact s (by unfold By;refine Ac h (Ac a ?_);show (match place? w.2 t with|some p=>_|none=>L)=L;unfold place?;exact Ac c rfl)
   | some p =>
    have m:p∈w.2:=dP c;have R:=(i p m).rl;have g:=ns w t p h a c
    have e:By L={ run:=w.1,now:=some (fresh p t),told:=L.told,want:=none,many:=L.many+1 }:=by
     unfold By;refine Ac h (Ac a ?_);show (match place? w.2 t with|some p=>_|none=>L)=_;unfold place?;exact Ac c rfl
    refine AA (Ag (CJ (AP (Af (B5 rfl (OB.of (v:=.int p.other) rfl (Af (B4 (Af (B5 rfl (OB.of (v:=.tup (p.rules.map Bh.av)) rfl (Af (Bp (Ea rfl (Cu lv ?_)))))))))))))));refine Ac a (Ak (OB.of (v:=.tup (t.2.map .int)) rfl (An ?_)));refine Zvg (M:=w.1.most) o.run (Gf B R) (i p m).ok (o.now t a).2 (An (Ax rfl ?_));refine Ac (Zwl g) (Ju lv (by exact al (by assumption) (Al rfl)) _ fun z C A=>Ag (CJ (Bp (Ea rfl (JW C ?_)))));show W _ _;refine Ac (show ({ L with now:=some (fresh p t) }:B6).want=some w from h) (Ak (OB.of (v:=w.1.av) rfl (Ax rfl (Rj C (by exact bP (by assumption) (Al rfl)) _ fun G u r=>?_))));refine Ag (CJ (Ak (Ax rfl (Zwx u (Tz hb) none fun I D E=>?_))));refine CJ (Br (Ea rfl (Zwv D (Ak (Bn (Ax rfl (Zwy D (Ty hb) fun l F x=>?_)))))));refine q l ?_ (((A.trans r).trans E).trans x);exact Ac e F
theorem Zw3{L:B6}(h:L.want=none):By L=L:=by unfold By;exact Ac h rfl
theorem Zw4(L:B6):(By L).told=L.told:=Zwo (P:=fun M=>M.told=L.told) rfl fun _ _ _ _ _ _=>rfl
set_option tactic.hygienic true in
theorem Zw5(L:B6):(E2 L).told.length<=L.told.length+1:=by
 unfold E2
 cases L.now with
 | some t =>
  rw[Zw4];show (L.told++(Be L.run t).2.toList).length<=_
  cases (Be L.run t).2<;>simp
 | none=>exact Z2d
theorem Zw6{n:Nat}{L:B6}{j k b:Nat}(lv:LV H j k b L)(q:Q (sv L.now) H):W (AF tbl (n+1) 54 [.inst cL j] H) Q:=by
 refine AB (f:=⟨1,true,Ztv⟩) rfl (B1 rfl ?_);unfold Ztv;exact Ar (Ea rfl (Cu lv (CM (Mj _ (Al rfl) (Zwj _)) q)))
theorem Zw7{n:Nat}{L:B6}{j k b:Nat}(lv:LV H j k b L)(q:Q (.bool L.want.isSome) H):W (AF tbl (n+1) 56 [.inst cL j] H) Q:=by
 refine AB (f:=⟨1,true,Ztz⟩) rfl (B1 rfl ?_);unfold Ztz;exact Ar (Ci (Ea rfl (JW lv (Ak (My _ (CM rfl q))))))
theorem Zw8{n:Nat}{L:B6}{j k b:Nat}(lv:LV H j k b L)(q:Q (.int L.many) H):W (AF tbl (n+1) 57 [.inst cL j] H) Q:=by
 refine AB (f:=⟨1,true,Zt1⟩) rfl (B1 rfl ?_);unfold Zt1;exact Ar (Ea rfl (Zwv lv (CM rfl q)))
noncomputable def newS(P:Ao)(xs:List Int):B6:={ run:=P,now:=some (0,xs),told:=[],want:=none,many:=0 }
theorem Zw9{P:Ao}(h:P.Ok){xs:List Int}(H:BQ P xs):(newS P xs).Ok:=⟨h,fun t e=>by obtain rfl:=inj e;exact⟨⟨dE _,by have:=h.r1;show (0:Int)<(P.rows.length:Int);exact Us this⟩,H⟩,fun _ e=>by injection e⟩
theorem Zxa{n:Nat}{v:AV}(q:Q .none (H++[AO.exo cX (some (H.length+1)) true,AO.attrs [(aA "shown",v)]])):W (AF tbl (n+1) 48 [.ref H.length,v] (H++[AO.exo cX none true])) Q:=by
 refine AB (f:=⟨2,false,Zsy⟩) rfl (BZ rfl ?_);unfold Zsy;refine Ag (Bt (Zkf (H0 rfl ⟨_,_,rfl,?_,?_⟩)))
 .exact Zg3 (Zhs _ _)
 .refine QA (Ax rfl (Ax rfl (Zke (f:=true) (by simp) ?_)));have e:(H++[AO.exo cX none true]).set H.length (.exo cX (some (H++[AO.exo cX none true]).length) true)++[AO.attrs [(aA "shown",v)]]=H++[AO.exo cX (some (H.length+1)) true,AO.attrs [(aA "shown",v)]]:=by simp
  exact Ac e q
noncomputable def Fn.bad:Fn->Bool
 | .stuck _=>true
 | .missed _ _=>true
 | _=>false
noncomputable def Em(L:B6)(two:Ao)(ps:List Ae):B6:={ L with want:=some (two,ps) }
theorem Z20{n:Nat}{L:B6}(o:L.Ok)(ns:∀ t,L.now=some t->NS (DX L t)){j k b:Nat}(hb:b<=99980)(z:L.told.length<=10000)(lv:LV H j k b L)(q:∀ l,LV l j k (b+10) (E2 L)->Fo H l j k->Q (.bool L.now.isSome) l):W (AF tbl (n+4) 51 [.inst cL j] H) Q:=by
 refine AB (f:=⟨1,false,Zti⟩) rfl (BZ rfl ?_);unfold Zti;refine Ag (AK (AU (Ea rfl (Cu lv (Ak (Dw _ ?_))))))
 cases h:L.now with
 | none =>
  rw[h] at q;refine AA (Ar (Ak (q H ?_ (.refl ..))));have e:E2 L=L:=by unfold E2;exact Ac h rfl
  exact Ac e (lv.more (Z2e))
 | some t =>
  rw[h] at q;refine A8 (A9 ?_);have e:E2 L=By (DX L t):=by unfold E2;exact Ac h rfl
  have T:=o.now t h;refine Ag (Zkg (B4 (Af (Ea rfl (EW lv (Af (Ea rfl (Cu lv ?_))))))));refine Ac h (An (Zva o.run T ⟨_,_,rfl,Ax rfl (Ju lv (by exact al (by assumption) (Al rfl)) _ fun a g p=>?_)⟩))
  have r:∀ (c:AW) (A:AH),c 0=some (.inst cL j)->LV A j k (b+1) { L with now:=(Be L.run t).1,told:=L.told++(Be L.run t).2.toList }->Fo H A j k ->
    WS (Ai (Bo (Aq (Aw .is (BM cL "now" (Aa 0)) (Am .none))) (CF cL "wanted" (Aa 0) (Am .none)) AC) (Ai (Bj (BD (AF tbl (n+3)) cL "come" 50 (Aa 0) [])) (Av (Am (.bool true)))) c A) (fun _ a=>Q .none a) (fun v a=>Q v a):=by
   intro c A s C B
   have F:∀ (c:AW) (d:AH),c 0=some (.inst cL j)->LV d j k (b+2) (DX L t)->Fo H d j k->WS (Ai (Bj (BD (AF tbl (n+3)) cL "come" 50 (Aa 0) [])) (Av (Am (.bool true))) c d) (fun _ a=>Q .none a) (fun v a=>Q v a):=by
    intro c d s D E;refine Ag (Bt (KT s (Lc D (by decide +kernel) (An (Jv (Zwq o h) (ns t h) (Z2f hb) D fun u w y=>?_)))));refine Ar (Ak (q u ?_ (E.trans y)));exact Ac e (w.more (Z13))
   refine Ag (AK (AU (Ea s (Cu C (Ak (Dw _ ?_))))));show (bO (Be L.run t).1=true->_)/\_
   cases x:(Be L.run t).1 with
   | none =>
    refine AA (CJ (Ak (Ax s (Zwx C (by exact bP (by assumption) (Al rfl)) none fun d D E=>F c d s ?_ (B.trans E)))));have:DX L t={ L with now:=(Be L.run t).1,told:=L.told++(Be L.run t).2.toList,want:=none }:=by unfold DX;refine Ac x ?_;rfl
    exact Ac this D
   | some G =>
    refine A8 (A9 (F c A s ?_ B));have:DX L t={ L with now:=(Be L.run t).1,told:=L.told++(Be L.run t).2.toList }:=by unfold DX;refine Ac x ?_;rfl
    exact Ac this (C.more (Ut))
  refine Ag (AK (KP rfl (Zvc _ (fun i m=>?_) (fun m=>?_))))
  .rw[m] at r ⊢;refine AA (Bt (DG (Ea rfl (Zww g ⟨Rk g,Ay rfl (Zwz g (by show L.told.length<=_;exact al (by assumption) (Al rfl)) i fun A C B=>?_)⟩))));exact r _ A rfl C (p.trans B)
  .rw[m] at r;refine A8 (A9 (r _ a rfl ?_ p));have:L.told++(none:Option Int).toList=L.told:=by simp
   exact Ac this g
noncomputable def EX:Rs (Fl×AW)->Option (AV×AH)
 | .ok (.ret v,_) H=>some (v,H)
 | _=>none
theorem EY{r:Rs (Fl×AW)}{v:AV}(e:EX r=some (v,H))(q:R v H):WS r N R:=by
 cases r with
 | ok p h =>
  obtain⟨f,b⟩:=p
  cases f with
  | ret w =>
   refine AX (mR (da e)) fun E a=>?_;subst E;subst a;exact⟨_,_,rfl,q⟩
  | next=>injection e
 | err _ _=>injection e
 | bad=>injection e
noncomputable def kw:Nat->aW
 | 1=>aA "program"
 | 2=>aA "state"
 | 3=>aA "places"
 | 5=>aA "busy"
 | _=>aA "over"
theorem Z21{a:As}:EX (KZ a (BL [.exc 1] 0) H)=some (.tup [.str (kw 1)],H):=by kernel_rfl
theorem Z22{a:As}:EX (KZ a (BL [.exc 2] 0) H)=some (.tup [.str (kw 2)],H):=by kernel_rfl
theorem Z23{a:As}:EX (KZ a (BL [.exc 3] 0) H)=some (.tup [.str (kw 3)],H):=by kernel_rfl
theorem Z24{a:As}:EX (KZ a (BL [.exc 5] 0) H)=some (.tup [.str (kw 5)],H):=by kernel_rfl
theorem Z25{a:As}:EX (KZ a (BL [.exc 6] 0) H)=some (.tup [.str (kw 6)],H):=by kernel_rfl
inductive KC:Nat->Prop
 | c1:KC 1
 | c2:KC 2
 | c3:KC 3
 | c5:KC 5
 | c6:KC 6
theorem Zxb{n c:Nat}(h:KC c)(q:Q (.tup [.str (kw c)]) H):W (AF tbl (n+1) 31 [.exc c] H) Q:=by
 refine AB (f:=⟨1,true,KZ⟩) rfl (B1 rfl ?_);have f:=CM (H:=H) (v:=.tup [.str (kw c)]) rfl q
 cases h with
 | c1=>exact EY Z21 f
 | c2=>exact EY Z22 f
 | c3=>exact EY Z23 f
 | c5=>exact EY Z24 f
 | c6=>exact EY Z25 f
theorem Mz{c:Nat}(h:KC c):c∈[1,3,2,6,5,7]:=by cases h<;>decide
theorem Zxc{x:AV}{c:Nat}(h:CC H x=some c){l:List (Nat×Bool)}{b:Bool}(e:Fh l c=some b){Q:AV->Prop}(q:Q (.bool b)):OB (I0 (Fh l) H x) Q:=by
 refine⟨_,?_,q⟩;unfold I0;refine Ac h ?_;show (Fh l c).map AV.bool=_;refine Ac e ?_;rfl
noncomputable def uw(m:Fn):AV:=.tup [.str "unsafe",m.av]
theorem Zxd(m:Fn):flat 12 (uw m)=true:=H7 (n:=11) fun v h=>by
 simp only[aU,bf,or_false] at h
 rcases h with rfl|rfl
 .rfl
 .cases m<;>rfl
theorem Zxe{n i j:Nat}{m:Fn}(d:H[i]?=some (.exo cX (some j) false))(e:H[j]?=some (.attrs [(aA "shown",m.av)]))(q:Q (uw m) H):W (AF tbl (n+1) 31 [.ref i] H) Q:=by
 refine AB (f:=⟨1,true,KZ⟩) rfl (B1 rfl ?_);have f:=CM (H:=H) (v:=uw m) (Zxd m) q
 have a:CC H (.ref i)=some cX:=by
  show (match H[i]? with|some (.exo c _ _)=>some c|_=>none)=_;exact Ac d rfl
 unfold KZ
 (repeat' (first|refine Zxc a (b:=false) rfl ?_|refine Zxc a (b:=true) rfl ?_|refine Zkd (j:=j) (f:=false) d e (F0 JV (by cases m<;>(intro b h;injection h))) ?_|refine Ag ?_|refine AK ?_|refine Ar ?_|refine AD ?_|with_reducible refine AI ?_|with_reducible refine CA ?_|refine Bk (by trivial) ?_|refine Br ?_|refine Ax (by trivial) ?_|refine BX ?_|refine Af ?_|refine An ?_|refine BW ?_|refine G3 ?_|refine Q1 ?_|refine Zkc ?_|refine Zjq ?_|refine AZ ?_|refine AA ?_|refine Cn ?_|refine KR ?_|refine OB.of (by rfl) ?_|fail))
 exact f
section
variable {a:DE}{b:DS}{σ:AW}{H:AH}
theorem Jw{t:DT}{c:DS}(h:W (t σ H) fun x aa=>x=false/\aa=H):Ai (Bo t c AC) b σ H=b σ H:=by
 refine B2 h fun x aa e E a=>?_;subst E;subst a;unfold Ai Bo;refine Ac e ?_;rfl
theorem Rm(h:W (a σ H) fun _ aa=>aa=H):Ai (Bj a) b σ H=b σ H:=by
 refine Cg h fun x aa e E=>?_;subst E;unfold Ai Bj;refine Ac e ?_;rfl
theorem Jx{i:Nat}{v:AV}(h:W (a σ H) fun x aa=>x=v/\aa=H):Ai (AG i a) b σ H=b (AM σ i v) H:=by
 refine B2 h fun x aa e E c=>?_;subst E;subst c;unfold Ai AG;refine Ac e ?_;rfl
end
def aσ(j:Nat)(x y:AV):AW:=BL [.inst cL j,x,y] 0
section
variable {n:Nat}{L:B6}{H:AH}{j k b:Nat}(lv:LV H j k b L){x y:AV}
include lv
theorem Zxf(h:L.now=none):Z (AF tbl (n+1) 52 [.inst cL j,x,y] H) 6 H:=by
 refine Zt5 (Ew rfl ?_);unfold La;refine De (IU (AU (Ea rfl (Cu lv (Ak (Dw _ ?_))))));exact Ac h (AA (Sk (Ak rfl)))
variable {t:St}(hn:L.now=some t)
include hn
theorem M0{a:As}:La a (aσ j x y) H=Ztq a (aσ j x y) H:=by
 refine Jw (AU (Ea (v:=.inst cL j) rfl (Cu lv (Ak (Dw _ ?_)))));exact Ac hn ⟨rfl,rfl⟩
theorem Zxg{w:Ao×List Ae}(h:L.want=some w):Z (AF tbl (n+1) 52 [.inst cL j,x,y] H) 5 H:=by
 refine Zt5 (Ew rfl ((M0 lv hn).symm▸?_));unfold Ztq;refine De (IU (AU (Ea (v:=.inst cL j) rfl (JW lv (Ak (My _ ?_))))));exact Ac h (AA (Sk (Ak rfl)))
variable (hw:L.want=none)
include hw
theorem M1{a:As}:La a (aσ j x y) H=Ztp a (aσ j x y) H:=by
 refine Ac (M0 lv hn) (Jw (AU (Ea (v:=.inst cL j) rfl (JW lv (Ak (My _ ?_))))));exact Ac hw ⟨rfl,rfl⟩
theorem Rn(z:Z (AF tbl n 3 [x] H) 1 H):Z (AF tbl (n+1) 52 [.inst cL j,x,y] H) 1 H:=by
 refine Zt5 (Ew rfl ((M1 lv hn hw).symm▸?_));unfold Ztp;exact De (IV (Zjo (Ay (v:=x) rfl z)))
variable {two:Ao}(h2:two.Ok){r:AV}(hr:BA H (two.rows.map AQ.av) r)
include h2 hr
theorem M2:La (AF tbl (n+4)) (aσ j (Bx two r) y) H=Zto (AF tbl (n+4)) (aσ j (Bx two r) y) H:=by
 exact Ac (M1 lv hn hw) (Rm (B4 (Ay (v:=Bx two r) rfl (Zv7 h2 hr rfl))))
theorem Ro{h:AH}(z:Z (AF tbl (n+4) 10 [L.run.av,Bx two r,y] H) 3 h):Z (AF tbl (n+5) 52 [.inst cL j,Bx two r,y] H) 3 h:=by
 refine Zt5 (Ew rfl ((M2 lv hn hw h2 hr).symm▸?_));unfold Zto;exact De (Z.bind (Zjo (Af (Ea (v:=.inst cL j) rfl (EW lv (Dy (v:=Bx two r) rfl (u:=y) rfl z))))))
variable (ok:L.Ok){ps:List Ae}(hp:Eb L.run two ps){i:Nat}(hi:H[i]?=some (.list (ps.map Ae.av)))
include ok hp hi
def bσ(j i:Nat)(x:AV)(ps:List Ae)(m:Fn):AW:=AM (AM (aσ j x (.ref i)) 3 (.lst (ps.map Ae.av))) 4 m.av
theorem M3:La (AF tbl (n+5)) (aσ j (Bx two r) (.ref i)) H=Ztm (AF tbl (n+5)) (bσ j i (Bx two r) ps (Bc L.run ps 2001 [] (some t))) H:=by
 refine Ac (M2 lv hn hw h2 hr) ?_;unfold Zto;refine Ac (Jx (v:=.lst (ps.map Ae.av)) (B4 (Af (Ea (v:=.inst cL j) rfl (EW lv (Dy (v:=Bx two r) rfl (u:=.ref i) rfl (Zwh ok.run h2 hp hr hi ⟨rfl,rfl⟩))))))) (Jx (B4 (Af (Ea (v:=.inst cL j) rfl (EW lv (BY (v:=.lst (ps.map Ae.av)) rfl (Af (Ea (v:=.inst cL j) rfl (Cu lv ?_)))))))));exact Ac hn (An (Zvt ok.run h2 hp.ok (ok.now t hn) ⟨rfl,rfl⟩))
theorem Zxh(h:(Bc L.run ps 2001 [] (some t)).bad=true){P:AV->AH->Prop}(q:P (.ref H.length) (H++[AO.exo cX (some (H.length+1)) false,AO.attrs [(aA "shown",(Bc L.run ps 2001 [] (some t)).av)]])):ZX (AF tbl (n+6) 52 [.inst cL j,Bx two r,.ref i] H) P:=by
 refine Zt6 (Q6 rfl ((M3 lv hn hw h2 hr ok hp hi).symm▸?_));unfold Ztm
 have f:∀ m:Fn,P (.ref H.length) (H++[AO.exo cX (some (H.length+1)) false,AO.attrs [(aA "shown",m.av)]])->ZX (Se cX (G1 (AF tbl (n+5)) cX 48 [Aa 4]) (bσ j i (Bx two r) ps m) H) P:=by
  intro m q;refine Zka (Q9 (Ay (v:=m.av) rfl (Zxa ⟨rfl,H.length,some (H.length+1),rfl,bB _,by simp,?_⟩)));have e:(H++[AO.exo cX (some (H.length+1)) true,AO.attrs [(aA "shown",m.av)]]).set H.length (.exo cX (some (H.length+1)) false)=H++[AO.exo cX (some (H.length+1)) false,AO.attrs [(aA "shown",m.av)]]:=by simp
  exact Ac e q
 generalize Bc L.run ps 2001 [] (some t)=m at h q ⊢;refine Zj9 (V3 ?_)
 cases m with
 | over _=>injection h
 | comes _=>injection h
 | stuck a=>exact⟨true,H,by kernel_rfl,AA (f _ q)⟩
 | missed a b=>exact⟨true,H,by kernel_rfl,AA (f _ q)⟩
theorem Zxi(c:(Bc L.run ps 2001 [] (some t)).bad=false)(ns:NS { L with want:=some (two,ps) })(hb:b<=99980)(q:∀ h,LV h j k (b+10) (By { L with want:=some (two,ps) })->Fo H h j k->Q .none h):W (AF tbl (n+6) 52 [.inst cL j,Bx two r,.ref i] H) Q:=by
 refine AB (f:=⟨3,false,La⟩) rfl (BZ rfl ((M3 lv hn hw h2 hr ok hp hi).symm▸?_));unfold Ztm;have o:({ L with want:=some (two,ps) }:B6).Ok:=⟨ok.run,ok.now,fun w e=>by obtain rfl:=inj e;exact⟨h2,hp.ok⟩⟩
 have F:∀ m:Fn,WS (Ztl (AF tbl (n+5)) (bσ j i (Bx two r) ps m) H) (fun _ A=>Q .none A) (fun v A=>Q v A):=by
  intro m;unfold Ztl;refine Ag (CJ (AP (Af (B4 (Ay (v:=Bx two r) rfl (Zwd h2 hr (Ay (v:=.lst (ps.map Ae.av)) rfl (Ax (v:=.inst cL j) rfl (Zwx lv (al hb (Al rfl)) (some (two,ps)) fun A C d=>?_)))))))));unfold Ztk;refine Bt (KT (v:=.inst cL j) rfl (Lc C (by decide +kernel) (An (Jv o ns (by exact bP (by assumption) (Al rfl)) C fun g l B=>?_))));exact q g (l.more (TV)) (d.trans B)
 generalize Bc L.run ps 2001 [] (some t)=m at c ⊢;refine Ag (AK ?_)
 cases m with
 | stuck _=>injection c
 | missed _ _=>injection c
 | over a=>exact⟨false,H,by kernel_rfl,A8 (A9 (F _))⟩
 | comes a=>exact⟨false,H,by kernel_rfl,A8 (A9 (F _))⟩
end
section
variable {n:Nat}{L:B6}{H:AH}{j k b:Nat}(lv:LV H j k b L){x y:AV}{Q:AV->AH->Prop}
include lv
theorem FQ{c:Nat}(b:KC c){h:AH}(z:Z (AF tbl (n+1) 52 [.inst cL j,x,y] H) c h)(q:Q (.tup [.str (kw c)]) h):W (AF tbl (n+2) 32 [.inst cL j,x,y] H) Q:=by
 refine AB (f:=⟨3,false,QP⟩) rfl (BZ rfl ?_);unfold QP;refine Bu lv.at_ fun l d e a=>Ag (IW (Zj7 (Ax (v:=.inst cL j) rfl ⟨j,l,rfl,d,a.not (by decide +kernel),Dy (v:=x) rfl (u:=y) rfl z⟩)) (Mz b) ?_);exact Ar (B4 (Ay (v:=.exc c) rfl (Zxb b q)))
theorem Zxj(h:W (AF tbl (n+1) 52 [.inst cL j,x,y] H) fun _ a=>Q (.tup []) a):W (AF tbl (n+2) 32 [.inst cL j,x,y] H) Q:=by
 refine AB (f:=⟨3,false,QP⟩) rfl (BZ rfl ?_);unfold QP;refine Ag (Q0 (KT (v:=.inst cL j) rfl (Lc lv (by decide +kernel) (Dy (v:=x) rfl (u:=y) rfl (h.mono fun _ a q=>?_)))));exact Ar (AP (An q))
theorem Rp{m:Fn}(h:∀ P:AV->AH->Prop,P (.ref H.length) (H++[AO.exo cX (some (H.length+1)) false,AO.attrs [(aA "shown",m.av)]])->ZX (AF tbl (n+1) 52 [.inst cL j,x,y] H) P)(q:∀ X,Q (uw m) (H++X)):W (AF tbl (n+2) 32 [.inst cL j,x,y] H) Q:=by
 refine AB (f:=⟨3,false,QP⟩) rfl (BZ rfl ?_);unfold QP;refine Ag (Q8 (Zkb (Ax (v:=.inst cL j) rfl (Zw1 lv (by decide +kernel) (Dy (v:=x) rfl (u:=y) rfl (h _ ⟨cX,?_,by decide,?_⟩))))))
 .unfold CC;simp
 .exact Ar (B4 (Ay (v:=.ref H.length) rfl (Zxe (j:=H.length+1) (by simp) (by simp) (q _))))
end
theorem Zxk{l:List AV}{k:Int}{Q:AV->Prop}(a:0<=k)(b:k<l.length)(c:l.length<=1000)(q:∀ v∈l,Q v):OB (Cy H (.lst l) (.int k)) Q:=by
 have h:k.toNat<l.length:=by exact TD a b c
 exact Zif a (L8 b c) (bK h) (q _ (lA h))
theorem AQ.pln_of(r:AQ){n:Nat}(h:2<=n):Mine.Cw n r.av=true:=by
 refine Qw _ h ?_
 cases r<;>exact Ig (by simp) (by
  intro v H;simp at H
  first
   | (rcases H with rfl|rfl|rfl<;>first|rfl|decide +kernel)
   | (rcases H with rfl|rfl<;>first|rfl|decide +kernel)
   | (subst H;decide +kernel))
theorem Jy(v:Option Int){n:Nat}:Cw (n+1) (ov v)=true:=by cases v<;>rfl
theorem Bh.pln_of{r:Bh}{b m M:Int}(h:r.Ok b m M)(c:m<=100):Mine.Cw 3 r.av=true:=by
 cases r with
 | is v =>
  refine Ig (by simp) ?_;intro w a;simp at a
  rcases a with rfl|rfl
  .decide +kernel
  .exact Jy _
 | byBox b V =>
  refine Ig (by simp) ?_;intro v H;simp at H
  rcases H with rfl|rfl|rfl
  .decide +kernel
  .rfl
  .refine Ig (by have:=h.2.1;simp;exact L0 c this) ?_;intro v H;obtain⟨r,_,rfl⟩:=a7.mp H;exact Jy _
theorem Ae.pln_of{one two:Ao}{p:Ae}(H:p.Ok one two)(a:one.Ok)(c:two.Ok):Mine.Cw 5 p.av=true:=by
 have b:=c.b3;have m:=a.m4;have R:=H.rl;refine Ig (by simp) ?_;intro v h;simp at h
 rcases h with rfl|rfl|rfl
 .rfl
 .rfl
 .refine Ig (by simp;exact Gf b R) ?_;intro v h;obtain⟨r,d,rfl⟩:=a7.mp h;exact r.pln_of (H.ok r d) (LS m)
theorem Zxl{one two:Ao}{ps:List Ae}(l:ps.length<=16)(a:∀ p∈ps,p.Ok one two)(h:one.Ok)(H:two.Ok):Mine.Cw 6 (.lst (ps.map Ae.av))=true:=by
 refine Ml (by simp;exact UJ l) ?_;intro v b;obtain⟨p,m,rfl⟩:=a7.mp b;exact p.pln_of (a p m) h H
theorem Zxm{v:AV}{l:List AV}(h:Cw 12 (.lst (v::l))=true){Q:Bool->Prop}(q:Q true):OB (Bl H .ne (.lst (v::l)) (.lst [])) Q:=by
 refine AX (Zix (n:=11) h) fun _ p=>Bu (Ziy (H:=H) (fun v b=>Sj 11 v b) p) fun D e i j=>Bu (Sj (H:=H) 12 _ h) fun d g c C=>?_
 have E:data H 12 (.lst (v::l))=some (.list D):=by
  show ((v::l).mapM (data H 11)).map dY=_;refine Ac e ?_;rfl
 obtain rfl:=inj (E.symm.trans g)
 cases D with
 | nil =>
  exfalso
  rw[dN] at e
  cases b:data H 11 v with
  | none=>rw[b] at e;injection e
  | some a =>
   rw[b] at e
   cases m:l.mapM (data H 11) with
   | none=>rw[m] at e;injection e
   | some r=>rw[m] at e;injection (inj e)
 | cons a r =>
  have s:bx (.list (a::r))=true:=by
   unfold bx;refine Ac c ?_;simp;exact al (by assumption) (Al rfl)
  have f:bx (.list [])=true:=by decide +kernel
  refine⟨true,?_,q⟩
  have key:D3 H (.lst (v::l)) (.lst [])=some false:=by
   unfold D3;refine Ac E ?_;show (if (bx (.list (a::r))&&bx (.list []))=true then some (ce (.list (a::r)) (.list [])) else none)=_;refine Ac s (Ac f ?_);rfl
  unfold Bl;simp only[key];rfl
noncomputable def tb(p s a d c f:AV):List (aW×AV):=[(aA "program",p),(aA "state",s),(aA "awaited",a),(aA "said",d),(aA "changed",c),(aA "refused",f)]
def tL(L:B6)(f:AV):AO:=.dictN (tb L.run.av (sv L.now) (wv L.want) (.lst (L.told.map .int)) (.int L.many) f)
section
variable {p s a d c f v:AV}
theorem HW:AY (tb p s a d c f) "program"=some p:=by kernel_rfl
theorem FT:AY (tb p s a d c f) "state"=some s:=by kernel_rfl
theorem HX:AY (tb p s a d c f) "awaited"=some a:=by kernel_rfl
theorem Wc:AY (tb p s a d c f) "said"=some d:=by kernel_rfl
theorem Wd:AY (tb p s a d c f) "changed"=some c:=by kernel_rfl
theorem We:AY (tb p s a d c f) "refused"=some f:=by kernel_rfl
theorem Z26:Cp (tb p s a d c f) "program" v=tb v s a d c f:=by kernel_rfl
theorem Wf:Cp (tb p s a d c f) "state" v=tb p v a d c f:=by kernel_rfl
theorem Rq:Cp (tb p s a d c f) "awaited" v=tb p s v d c f:=by kernel_rfl
theorem Z27:Cp (tb p s a d c f) "said" v=tb p s a v c f:=by kernel_rfl
theorem Z28:Cp (tb p s a d c f) "changed" v=tb p s a d v f:=by kernel_rfl
theorem Wg:Cp (tb p s a d c f) "refused" v=tb p s a d c v:=by kernel_rfl
end
section
variable {σ:AW}{H:AH}{i m:Nat}{nm:aW}{p s a d c f:AV}
theorem C0{l:List (aW×AV)}{v:AV}(e:AY l nm=some v)(s:σ i=some (.ref m))(h:H[m]?=some (.dictN l))(q:Q v H):W (BC (Aa i) (Am (.str nm)) σ H) Q:=by
 refine W.bind (Ax s (W.bind (Ak (C4 ⟨v,?_,q⟩))));unfold getN dictN?;simp only[h];exact e
theorem Fp{e:DE}{v:AV}{l':List (aW×AV)}(g:σ i=some (.ref m))(b:Cp (tb p s a d c f) nm v=l')(h:W (e σ H) fun x aa=>x=v/\aa[m]?=some (.dictN (tb p s a d c f))/\N σ (aa.set m (.dictN l'))):WS (CD (Aa i) (Am (.str nm)) e σ H) N R:=by
 refine W.bind (h.mono fun x aa h=>?_);obtain⟨rfl,h,q⟩:=h;refine W.bind (Ax g (W.bind (Ak ?_)))
 have E:putN aa (.ref m) (.str nm) x=some (aa.set m (.dictN l')):=by
  unfold putN;simp only[h];refine Ac b ?_;rfl
 exact⟨_,_,by exact Ac E rfl,q⟩
theorem Bz{x:AO}(h:m<H.length):(H.set m x)[m]?=some x:=bR h
theorem FU{x:AO}(h:H[m]?=some x):H.set m x=H:=by
 exact aD (bp.mp h) fun l e=>BE e (jJ l)
end
noncomputable def Dx(T:B6):B6:=if T.now.isSome then T else { T with want:=none }
theorem Zxn{X:Type}{p:X->Bool}{l:List X}{r:List X}(e:l.filter p=r):l.find? p=r.head?:=by exact BE e (Ac (List.head?_filter) rfl)
theorem Zxo{n:Nat}{T:B6}(o:(Dx T).Ok)(ns:NS (Dx T))(K:∀ w,T.want=some w->w.2.length<=16){f:AV}{i:Nat}(h:H[i]?=some (tL T f))(q:Q .none (H.set i (tL (By (Dx T)) f))):W (AF tbl (n+2) 30 [.ref i] H) Q:=by
 refine AB (f:=⟨1,false,Zpy⟩) rfl (BZ rfl ?_);unfold Zpy;have k:=(Bm h);refine Ag (AK (AU (C0 FT rfl h (Ak (Dw _ ?_)))))
 cases b:T.now with
 | none =>
  refine AA (Fp rfl Rq (Ak ⟨rfl,h,?_⟩));have e:By (Dx T)={ T with want:=none }:=by unfold Dx;exact Ac b (Zw3 rfl)
  unfold Zpx;refine AK (AU (C0 HX rfl (Bz k) (Ak (My none (A8 (A9 ?_))))));rw[e] at q;exact q
 | some t =>
  have F:Dx T=T:=by unfold Dx;refine Ac b ?_;rfl
  rw[F] at o ns q;refine A8 (A9 ?_);unfold Zpx;refine AK (AU (C0 HX rfl h (Ak (My _ ?_))))
  cases j:T.want with
  | none =>
   rw[Zw3 j,FU h] at q;exact A8 (A9 q)
  | some w =>
   refine AX (o.want w j) fun B C=>?_;have z:=K w j;have D:=B.b3;refine AA (Ag (AD (Zje (f:=Ae.av) (g:=Ae.av) (p:=fun p=>decide (p.row=t.1)) (Bp (C0 HX rfl h (Ak (OB.of (v:=.lst (w.2.map Ae.av)) (by refine Ac j ?_;rfl) ⟨w.2,rfl,al z (Al rfl),fun p G X=>?_,fun p G X=>Ax (v:=p.av) rfl ⟨rfl,p.flat_of (Al rfl),rfl⟩,?_⟩)))))))
   .exact AU (B5 (v:=p.av) rfl (OB.of (v:=.int p.row) rfl (Bp (C0 FT rfl (by refine Ac (aM k) ?_;exact h) (Ak (OB.of (v:=.int t.1) (by refine Ac b ?_;rfl) (BG ⟨rfl,rfl⟩)))))))
   unfold Zpw;have E:place? w.2 t=(w.2.filter fun p=>decide (p.row=t.1)).head?:=Zxn rfl
   cases l:(w.2.filter fun p=>decide (p.row=t.1)) with
   | nil =>
    rw[l] at E;have e:By T=T:=by unfold By;refine Ac j (Ac b ?_);show (match place? w.2 t with|some p=>_|none=>T)=T;refine Ac E ?_;rfl
    rw[e,FU h] at q;exact AK (Cf (v:=.lst []) rfl (BW (An (OB.of (v:=false) (by kernel_rfl) (A8 (A9 q))))))
   | cons p r =>
    rw[l] at E;have A:∀ x∈p::r,x∈w.2:=fun x y=>(fy.mp (l▸y)).1;have m:(p::r).length<=16:=al (l▸fW ..) z
    have J:Cw 12 (.lst ((p::r).map Ae.av))=true:=Ml (n:=11) (by rw[aK];exact al m (Al rfl)) fun v I=>by
     exact Ah (a7.mp I) fun x y e=>BE e (Qw _ (Al rfl) (Ae.pln_of (C x (A x y)) o.run B))
    have P:=C p (A p (aN ..));have R:=P.rl;have u:=ns w t p j b E
    have e:By T={ run:=w.1,now:=some (fresh p t),told:=T.told,want:=none,many:=T.many+1 }:=by
     unfold By;refine Ac j (Ac b ?_);show (match place? w.2 t with|some p=>_|none=>T)=_;refine Ac E ?_;rfl
    rw[e] at q;refine AK (Cf (v:=.lst ((p::r).map Ae.av)) rfl (BW (An (Zxm J (AA ?_)))));refine Ag (Fp (p:=T.run.av) (s:=sv T.now) (a:=wv T.want) (d:=.lst (T.told.map .int)) (c:=.int T.many) (f:=f) (v:=sv (some (fresh p t))) rfl Wf (AP (Af (Bp (B5 (v:=.lst ((p::r).map Ae.av)) rfl (OB.of (v:=p.av) rfl (Ak (OB.of (v:=.int p.other) rfl (Af (B4 (Af (Bp (B5 (v:=.lst ((p::r).map Ae.av)) rfl (OB.of (v:=p.av) rfl (Ak (OB.of (v:=.tup (p.rules.map Bh.av)) rfl (Af (Bp (C0 FT rfl h (Ak (OB.of (v:=Co t.2) (by refine Ac b ?_;rfl) (An ?_))))))))))))))))))))));refine Zuh (M:=w.1.most) o.run (Gf D R) P.ok (o.now t b).2 (An ⟨Zwl u,h,?_⟩);unfold Zpv;refine Ag (Fp (v:=w.1.av) rfl Z26 (Bp (C0 HX rfl (Bz k) (Ak (OB.of (v:=w.1.av) (by refine Ac j ?_;rfl) ⟨rfl,Bz k,?_⟩)))));rw[eC];unfold Zpu;refine Ag (Fp (v:=.none) rfl Rq (Ak ⟨rfl,Bz k,?_⟩));rw[eC];unfold Zpt;refine Fp (v:=.int ((T.many:Int)+1)) rfl Z28 (Br (C0 Wd rfl (Bz k) (Ak (Bn ⟨rfl,Bz k,?_⟩))));rw[eC];exact q
theorem Ld{k:Nat}(h:k<=2):k=0\/k=1\/k=2:=(by decide:∀ k,k<3->k=0\/k=1\/k=2) k (eQ h)
def DY(c:Nat):AV:=.tup [.str (kw c)]
def BB(L:B6)(ps:List Ae)(odd:Nat):AV:=match L.now,L.want with
 | none,_=>DY 6
 | some _,some _=>DY 5
 | some t,none=>if odd=1 then DY 1 else if odd=2 then DY 3 else if (Bc L.run ps 2001 [] (some t)).bad then uw (Bc L.run ps 2001 [] (some t)) else .tup []
theorem Zxp(L:B6)(ps:List Ae)(odd:Nat):flat 12 (BB L ps odd)=true:=by
 unfold BB
 cases L.now with
 | none=>rfl
 | some t =>
 cases L.want with
 | some w=>rfl
 | none =>
  show flat 12 (if odd=1 then _ else _)=true
  split
  .rfl
  .split
   .rfl
   .split
    .exact Zxd _
    .rfl
theorem Jz{n:Nat}{L:B6}(o:L.Ok){two:Ao}(j:two.Ok){ps:List Ae}{odd:Nat}(k:odd<=2)(l:odd=0->L.now.isSome=true->L.want=none->Eb L.run two ps){f x:AV}{i:Nat}(h:H[i]?=some (tL L f))(q:Q (BB L ps odd) H):W (AF tbl (n+4) 29 [.ref i,x,.lst (ps.map Ae.av),.int odd] H) Q:=by
 refine AB (f:=⟨4,true,Zpq⟩) rfl (B1 rfl ?_);have c:=CM (H:=H) (Zxp L ps odd) q;unfold Zpq;refine Ag (AK (AU (C0 FT rfl h (Ak (Dw _ ?_)))))
 cases d:L.now with
 | none =>
  have e:BB L ps odd=DY 6:=by unfold BB;exact Ac d rfl
  rw[e] at c;exact AA (Ar (AP (AI c)))
 | some t =>
  refine A8 (A9 ?_);unfold Zpp;refine Ag (AK (AU (C0 HX rfl h (Ak (My _ ?_)))))
  cases g:L.want with
  | some w =>
   have e:BB L ps odd=DY 5:=by unfold BB;exact Ac d (Ac g rfl)
   rw[e] at c;exact AA (Ar (AP (AI c)))
  | none =>
   refine A8 (A9 ?_);unfold Zpo
   rcases Ld k with rfl|rfl|rfl
   rotate_left
   .have e:BB L ps 1=DY 1:=by unfold BB;refine Ac d (Ac g ?_);rfl
    rw[e] at c;exact Ag (EY (v:=DY 1) (H:=H) (by kernel_rfl) c)
   .have e:BB L ps 2=DY 3:=by unfold BB;refine Ac d (Ac g ?_);rfl
    rw[e] at c;exact Ag (EY (v:=DY 3) (H:=H) (by kernel_rfl) c)
   .have p:=l rfl (by refine Ac d ?_;rfl) g;refine Ag (AK (KP (v:=.int 0) rfl (OB.of (v:=false) rfl (A8 (A9 ?_)))));unfold Zpn;refine Ag (AD (B4 (Af (C0 HW rfl h (Af (B4 (Ay (v:=.lst (ps.map Ae.av)) rfl (Zvu (al p.len (Al rfl)) p.nd (Af (C0 FT rfl (by refine Ac (aM (Bm h)) ?_;exact h) (An ?_)))))))))));refine Ac d (Rc o.run j p.ok (o.now t d) (by simp) (Mu ps) ?_);have e:BB L ps 0=if (Bc L.run ps 2001 [] (some t)).bad then uw (Bc L.run ps 2001 [] (some t)) else .tup []:=by unfold BB;refine Ac d (Ac g ?_);rfl
    have fl:=Zxp L ps 0;rw[e] at q fl;unfold Zpm;generalize Bc L.run ps 2001 [] (some t)=m at q fl ⊢;have F:=GY (H:=H) (X:=[.dict (HF ps)]) fl q
    cases m with
    | over a=>exact Ag (AK ⟨false,_,by kernel_rfl,A8 (A9 (Ar (AP (An F))))⟩)
    | comes a=>exact Ag (AK ⟨false,_,by kernel_rfl,A8 (A9 (Ar (AP (An F))))⟩)
    | stuck a=>exact Ag (AK ⟨true,_,by kernel_rfl,AA (Ar (AP (CA (Ay (v:=Fn.av (.stuck a)) rfl F))))⟩)
    | missed a b=>exact Ag (AK ⟨true,_,by kernel_rfl,AA (Ar (AP (CA (Ay (v:=Fn.av (.missed a b)) rfl F))))⟩)
set_option tactic.hygienic true in
theorem Zxq{L:B6}(h:∀ w t,L.want=some w->L.now=some t->place? w.2 t=none):By L=L :=
 Zwo (P:=fun M=>M=L) rfl fun w t p b a H=>nn ((h w t b a).symm.trans H) trivial
theorem Zxr{L:B6}{t:St}{w:Ao×List Ae}(h:(DX L t).want=some w):L.want=some w/\(Be L.run t).1.isSome=true:=by
 have h:(if (Be L.run t).1.isSome then L.want else none)=some w:=h
 split at h
 .rename_i q;exact⟨h,q⟩
 .injection h
def DM(N:Nat)(L:B6):Prop:=∀ w i t p,L.want=some w->i<N->(∀ I T,I<i->(Fm L.run I L.now).2=some T->place? w.2 T=none)->(Fm L.run i L.now).2=some t->place? w.2 t=some p->(p.rules.map (Bw t.2)).any bO=false
def F1(L:B6):Prop:=∀ w t,L.want=some w->L.now=some t->place? w.2 t=none
theorem DM.ns{N:Nat}{L:B6}(h:DM (N+1) L):NS L:=fun w t p b a H=>h w 0 t p b (fE _) (fun _ _ h=>absurd h (cO _)) a H
theorem DM.come{N:Nat}{L:B6}(h:DM N L):DM N (By L)/\F1 (By L):=by
 by_cases q:∃ w t p,L.want=some w/\L.now=some t/\place? w.2 t=some p
 .refine Do q fun w t p c b a=>?_;have e:(By L).want=none:=by unfold By;refine Ac c (Ac b ?_);show B6.want (match place? w.2 t with|some p=>_|none=>L)=none;exact Ac a rfl
  exact⟨fun W _ _ _ H=>by (rw[e] at H;injection H),fun W _ H=>by (rw[e] at H;injection H)⟩
 .have o:∀ w t,L.want=some w->L.now=some t->place? w.2 t=none:=by
   intro w t c b
   cases a:place? w.2 t with
   | none=>rfl
   | some p=>exact absurd ⟨w,t,p,c,b,a⟩ q
  exact Ac (Zxq o) ⟨h,o⟩
theorem DM.mid{N:Nat}{L:B6}(h:DM (N+1) L)(c:F1 L){t:St}(n:L.now=some t):DM N (DX L t):=by
 intro w i f p b d o r e;refine h w (i+1) f p (Zxr b).1 (LL d) ?_ (by refine Ac n ?_;exact r) e;intro I T a H
 match I,a,H with
 | 0,_,H=>exact c w T (Zxr b).1 H
 | k+1,a,H=>exact o k T (KJ a) (by rw[n] at H;exact H)
set_option tactic.hygienic true in
theorem DM.go{N:Nat}{L:B6}(h:DM (N+1) L)(c:F1 L):DM N (E2 L)/\F1 (E2 L):=by
 unfold E2
 cases n:L.now with
 | some t=>exact (h.mid c n).come
 | none=>exact⟨fun w i t p a H=>h w i t p a (Uw H),c⟩
theorem Zxs{N:Nat}{L:B6}(h:L.want=none):DM N L/\F1 L:=⟨fun w _ _ _ H=>by (rw[h] at H;injection H),fun w _ H=>by (rw[h] at H;injection H)⟩
theorem Zxt(P:Ao)(ps:List Ae):∀ (f:Nat) (l:List St) (st:Option St) (n:Nat),Bc P ps f l st=.over n->∀ i t,i<f->(Fm P i st).2=some t->place? ps t=none
 | 0,_,_,_,_,i,_,a,_=>absurd a (cO _)
 | f+1,l,none,n,_,i,t,_,H=>by rw[HU] at H;injection H
 | f+1,l,some s,n,h,i,t,a,H=>by
  have h:(match place? ps s with
   | some p=>if (p.rules.map (Bw s.2)).any bO then Fn.stuck l.length else .comes l.length
   | none=>match C6 s l 0 with
    | some i=>.missed i (l.length-i)
    | none=>Bc P ps f (l++[s]) (Be P s).1)=.over n:=h
  cases b:place? ps s with
  | some p=>rw[b] at h;dsimp only at h;split at h<;>injection h
  | none =>
   rw[b] at h;dsimp only at h
   match i,a,H with
   | 0,_,H=>obtain rfl:=inj H;exact b
   | k+1,a,H =>
    cases q:C6 s l 0 with
    | some i=>rw[q] at h;injection h
    | none =>
     rw[q] at h;exact Zxt P ps f _ _ n h k t (KJ a) H
theorem Zxu(P:Ao)(ps:List Ae):∀ (f:Nat) (l:List St) (st:Option St) (n:Nat),Bc P ps f l st=.comes n->∃ c t p,n=l.length+c/\c<f/\(Fm P c st).2=some t/\place? ps t=some p/\(p.rules.map (Bw t.2)).any bO=false/\∀ i T,i<c->(Fm P i st).2=some T->place? ps T=none
 | 0,_,_,_,h=>by injection h
 | f+1,l,none,n,h=>by injection h
 | f+1,l,some s,n,h=>by
  have h:(match place? ps s with
   | some p=>if (p.rules.map (Bw s.2)).any bO then Fn.stuck l.length else .comes l.length
   | none=>match C6 s l 0 with
    | some i=>.missed i (l.length-i)
    | none=>Bc P ps f (l++[s]) (Be P s).1)=.comes n:=h
  cases a:place? ps s with
  | some p =>
   rw[a] at h;dsimp only at h
   split at h
   .injection h
   .rename_i b
    cases h
    exact⟨0,s,p,rfl,by exact fE _,rfl,a,by simpa using b,fun _ _ h=>absurd h (cO _)⟩
  | none =>
   rw[a] at h;dsimp only at h
   cases q:C6 s l 0 with
   | some i=>rw[q] at h;injection h
   | none =>
    rw[q] at h;refine UP (Zxu P ps f _ _ n h) fun c t p e j r g b o=>⟨c+1,t,p,by refine Ac e ?_;simp;exact LM,by exact LL j,r,g,b,?_⟩;intro i T d H
    match i,d,H with
    | 0,_,H=>obtain rfl:=inj H;exact a
    | k+1,d,H=>exact o k T (KJ d) H
theorem Zxv{L:B6}{two:Ao}{ps:List Ae}{t:St}(n:L.now=some t)(g:(Bc L.run ps 2001 [] (some t)).bad=false):DM 2001 (Em L two ps):=by
 intro w i T p l k H r f;obtain rfl:=inj l;have r:(Fm L.run i L.now).2=some T:=r;have H:∀ I T,I<i->(Fm L.run I L.now).2=some T->place? ps T=none:=H;rw[n] at r;simp only[n] at H
 cases e:Bc L.run ps 2001 [] (some t) with
 | stuck _=>rw[e] at g;injection g
 | missed _ _=>rw[e] at g;injection g
 | over m =>
  have:=Zxt _ _ _ _ _ _ e i T k r;rw[f] at this;injection this
 | comes m =>
  obtain⟨c,o,P,_,_,b,a,j,d⟩:=Zxu _ _ _ _ _ _ e
  rcases Nat.lt_trichotomy i c with h|h|h
  .have:=d i T h r;rw[f] at this;injection this
  .subst h;rw[r] at b;obtain rfl:=inj b;have f:place? ps T=some p:=f;rw[f] at a;obtain rfl:=inj a;exact j
  .have:=H c o h b;rw[a] at this;injection this
structure Kp(H H':AH)(S:List Nat):Prop where
 le:H.length<=H'.length
 eq:∀ m,m<H.length->m∉S->H'[m]?=H[m]?
theorem Kp.refl(H:AH)(S:List Nat):Kp H H S:=⟨bB _,fun _ _ _=>rfl⟩
theorem Kp.trans{H d c:AH}{S:List Nat}(a:Kp H d S)(b:Kp d c S):Kp H c S:=⟨al a.le b.le,fun m h n=>(b.eq m (aZ h a.le) n).trans (a.eq m h n)⟩
theorem Kp.set{S:List Nat}{m:Nat}{x:AO}(h:m∈S):Kp H (H.set m x) S:=⟨bW (bZ ..).symm,fun i _ n=>bI fun (e:m=i)=>n (e▸h)⟩
theorem Kp.app(H X:AH)(S:List Nat):Kp H (H++X) S:=⟨by refine Ac bH ?_;exact aQ ..,fun m h _=>aM h⟩
theorem Fo.kp{H h:AH}{j k:Nat}(o:Fo H h j k){S:List Nat}(a:j∈S)(b:k∈S):Kp H h S:=⟨bW o.1.symm,fun m _ n=>o.2 m (fun e=>n (e▸a)) (fun e=>n (e▸b))⟩
theorem LV.kp{H a:AH}{j k b:Nat}{L:B6}(v:LV H j k b L){S:List Nat}(h:Kp H a S)(i:j∉S)(m:k∉S):LV a j k b L:=by
 obtain⟨e,c,l,d,f,g⟩:=v;exact⟨e,(h.eq k (Bm c) m).trans c,l,(h.eq j (Bm d) i).trans d,f,g⟩
structure MW(H:AH)(j k i m b:Nat)(L:B6)(f:Option (Ao×List Ae)):Prop where
 lv:LV H j k b L
 tb:H[i]?=some (tL L (wv f))
 ok:L.Ok
 sf:DM m L
 cm:F1 L
 wl:∀ w,L.want=some w->w.2.length<=16
 tl:L.told.length+m<=1000
 hb:b+10*m<=90000
 ij:i≠j
 ik:i≠k
theorem MW.kp{H a:AH}{j k i m b:Nat}{L:B6}{f:Option (Ao×List Ae)}(w:MW H j k i m b L f){S:List Nat}(h:Kp H a S)(d:j∉S)(e:k∉S)(c:i∉S):MW a j k i m b L f :=
 { w with lv:=w.lv.kp h d e,tb:=(h.eq i (Bm w.tb) c).trans w.tb }
theorem Zxw{L:B6}{w:Ao×List Ae}(h:(By L).want=some w):L.want=some w:=by
 revert h
 exact Zwo (P:=fun M=>M.want=some w->L.want=some w) id fun _ _ _ _ _ _ h=>nn h trivial
theorem Zxx{L:B6}{w:Ao×List Ae}(h:(E2 L).want=some w):L.want=some w:=by
 unfold E2 at h
 cases H:L.now with
 | some t=>rw[H] at h;exact (Zxr (Zxw h)).1
 | none=>rw[H] at h;exact h
def HY(L:B6)(t:St):B6:={ L with now:=(Be L.run t).1,told:=L.told++(Be L.run t).2.toList }
theorem Zxy{L:B6}{t:St}:DX L t=Dx (HY L t):=by
 unfold DX Dx HY
 cases (Be L.run t).1<;>rfl
theorem MW.go{H h:AH}{j k i m b:Nat}{L:B6}{f:Option (Ao×List Ae)}(w:MW H j k i (m+1) b L f)(lv:LV h j k (b+10) (E2 L))(tb:h[i]?=some (tL (E2 L) (wv f))):MW h j k i m (b+10) (E2 L) f:=by
 have s:=w.sf.go w.cm;have:=Zw5 L;have t:=w.tl;have a:=w.hb;exact⟨lv,tb,Ri w.ok,s.1,s.2,fun x c=>w.wl x (Zxx c),by exact Tl this t,by exact LA a,w.ij,w.ik⟩
theorem Wh{n:Nat}{j k i m b:Nat}{L:B6}{f:Option (Ao×List Ae)}(w:MW H j k i (m+2) b L f){σ:AW}(o:σ 0=some (.inst cL j))(S:σ 1=some (.ref i))
  (q:∀ σ' A,σ' 0=some (.inst cL j)->σ' 1=some (.ref i)->MW A j k i (m+1) (b+10) (E2 L) f->Kp H A [j,k,i]->N σ' A):WS (Zro (AF tbl (n+4)) σ H) N R:=by
 have y:=(Bm w.tb);have G:=w.hb;have I:=w.tl
 have F:∀ (σ':AW) (g:AH),σ' 0=some (.inst cL j)->σ' 1=some (.ref i)->σ' 4=some (.bool L.now.isSome)->g=H.set i (tL (E2 L) (wv f))->WS (Zrm (AF tbl (n+4)) σ' g) N R:=by
  intro σ' g o S B E;have kp:Kp H g [i]:=E▸Kp.set (CS);have r:LV g j k b L:=w.lv.kp kp (fun h=>w.ij (aJ.mp h).symm) (fun h=>w.ik (aJ.mp h).symm);have Q:g[i]?=some (tL (E2 L) (wv f)):=E▸Bz y;unfold Zrm;refine Ag (AD (KT o (Lc r (by decide +kernel) (An (Z20 w.ok (fun t M=>(w.sf.mid w.cm M).ns) (U7 G) (Tu G I) r fun C v2 O=>?_)))));unfold Zrl;refine AK (CH (B0 (AZ (BX (H0 (v:=.bool L.now.isSome) rfl (OB.of (v:=.bool true) rfl (Cn (A8 ?_))))))));refine Zhe (v:=.bool L.now.isSome) rfl (u:=.bool L.now.isSome) B (OB.of (v:=false) (by cases L.now.isSome<;>kernel_rfl) (A8 (A9 ?_)));have U:C[i]?=some (tL (E2 L) (wv f)):=(O.2 i w.ij w.ik).trans Q;refine q _ C o S (w.go v2 U) ?_;have P:Kp H g [j,k,i]:=E▸Kp.set (by simp);exact P.trans (O.kp (by simp) (by simp))
 unfold Zro;refine Ag (AD (Ci (C0 FT S w.tb (Ak (Zvs _ ?_)))));unfold Zrn
 cases l:L.now with
 | none =>
  have e:E2 L=L:=by unfold E2;exact Ac l rfl
  refine Ag (AK (AZ (Ax (v:=.bool false) rfl (Cn (A8 (A9 (F _ H o S (by refine Ac l ?_;rfl) ?_)))))));exact Ac e (Ac (FU w.tb) rfl)
 | some t =>
  refine Ag (AK (AZ (Ax (v:=.bool true) rfl (Cn (AA ?_)))));have e:E2 L=By (DX L t):=by unfold E2;exact Ac l rfl
  have D:∀ (σ':AW) (g:AH),σ' 0=some (.inst cL j)->σ' 1=some (.ref i)->σ' 4=some (.bool L.now.isSome)->g=H.set i (tL (HY L t) (wv f))->WS (Bj (Cz (AF tbl (n+4)) (Am (.fn 30)) [Aa 1]) σ' g) (fun K J=>WS (Zrm (AF tbl (n+4)) K J) N R) R:=by
   intro σ' g o S B E;subst E;refine Bt (B4 (Ay S (Zxo (T:=HY L t) (Zxy▸Zwq w.ok l) (Zxy▸(w.sf.mid w.cm l).ns) w.wl (Bz y) (F _ _ o S B ?_))))
   (rewrite [eC];exact Ac e (Ac Zxy rfl))
  refine Ag (AD (B4 (Af (C0 HW S w.tb (Af (C0 FT S w.tb (An ?_)))))));refine Ac l (Zvb w.ok.run (w.ok.now t l) ?_);unfold Zrk;refine Ag (Fp (p:=L.run.av) (s:=sv L.now) (a:=wv L.want) (d:=.lst (L.told.map .int)) (c:=.int L.many) (f:=wv f) (v:=sv (Be L.run t).1) S Wf (B5 (v:=.tup [sv (Be L.run t).1,ov (Be L.run t).2]) rfl (OB.of (v:=sv (Be L.run t).1) rfl ⟨rfl,w.tb,?_⟩)));unfold Zrj;refine Ag (AK (AU (B5 (v:=.tup [sv (Be L.run t).1,ov (Be L.run t).2]) rfl (OB.of (v:=ov (Be L.run t).2) rfl (Ak (Zvc _ (fun x z=>?_) (fun z=>?_)))))))
  .refine AA (Fp (p:=L.run.av) (s:=sv (Be L.run t).1) (a:=wv L.want) (d:=.lst (L.told.map .int)) (c:=.int L.many) (f:=wv f) (v:=.lst (L.told.map .int++[.int x])) S Z27 (Br (C0 Wc S (Bz y) (BW (Af (B5 (v:=.tup [sv (Be L.run t).1,ov (Be L.run t).2]) rfl (OB.of (v:=.int x) (by refine Ac z ?_;rfl) (An (Zjp (by rw[aK];exact al (ba (al (aQ ..) I) 1) (Al rfl)) ⟨rfl,Bz y,?_⟩)))))))));rw[eC];refine D _ _ o S (by refine Ac l ?_;rfl) ?_;unfold tL HY
   (refine Ac z ?_;rewrite [Option.toList_some];refine Ac cw ?_)
   rfl
  .refine A8 (A9 (D _ _ o S (by refine Ac l ?_;rfl) ?_));unfold tL HY
   (refine Ac z ?_;rw[Option.toList_none,bS])
def GnI(H:AH)(j k i m:Nat)(c:Nat)(f:Option (Ao×List Ae))(t:Nat)(σ:AW)(h:AH):Prop:=σ 0=some (.inst cL j)/\σ 1=some (.ref i)/\∃ b L,MW h j k i (m+1+(c-t)) b L f/\Kp H h [j,k,i]
theorem Wi{m c t:Nat}(h:t<c):m+1+(c-t)=(m+(c-(t+1)))+2:=by exact S3 h
theorem Zxz{n c:Nat}(r:c<=1000){j k i m b:Nat}{L:B6}{f:Option (Ao×List Ae)}(w:MW H j k i (m+1+c) b L f)(q:∀ B l a,MW a j k i (m+1) B l f->Kp H a [j,k,i]->Q (.bool true) a):W (AF tbl (n+5) 40 [.inst cL j,.ref i,.int c] H) Q:=by
 refine AB (f:=⟨3,false,Zrp⟩) rfl (BZ rfl ?_);unfold Zrp;have d:(c:Int)<=1000000:=bF.mpr (al r (Al rfl));refine Ag (CX (BX (Ay (v:=.int c) rfl (Mk (by exact bd _) d (Sg (by exact bd _) d ?_)))));refine Sf (GnI H j k i m c f) (fun t o a u h=>?_) (fun o a h=>?_) ⟨rfl,rfl,b,L,w,Kp.refl ..⟩
 .obtain⟨s,S,B,l,e,kp⟩:=h;rw[Wi (dz.mp u)] at e;have E:m+1+(c-(t+1))=m+(c-(t+1))+1:=bQ m 1 _;exact Wh (σ:=AM o 3 (.int t)) e s S fun x p s S g K=>⟨s,S,_,_,E.symm▸g,kp.trans K⟩
 .obtain⟨s,S,B,l,e,kp⟩:=h;rw[show (c:Int).toNat=c from rfl,jo] at e;exact Ar (Ak (q _ _ _ e kp))
def DN(L:B6)(ps:List Ae)(odd:Nat):Bool:=match L.now,L.want with
 | some t,none=>decide (odd=0)&&!(Bc L.run ps 2001 [] (some t)).bad
 | _,_=>false
theorem Zx0{L:B6}{ps:List Ae}{odd:Nat}(h:DN L ps odd=true):BB L ps odd=.tup []:=by
 unfold DN at h;unfold BB
 cases H:L.now with
 | none=>rw[H] at h;injection h
 | some t =>
  cases a:L.want with
  | some w=>rw[H,a] at h;injection h
  | none =>
   rw[H,a] at h;have h:(decide (odd=0)&&!(Bc L.run ps 2001 [] (some t)).bad)=true:=h;refine AX (aL.mp h) fun b m=>?_;obtain rfl:=of_decide_eq_true b;show (if (0:Nat)=1 then _ else if (0:Nat)=2 then _ else if (Bc L.run ps 2001 [] (some t)).bad then _ else _)=_;exact Ac (if_neg (Al rfl)) (Ac (if_neg (Al rfl)) (Ac (if_neg (fun e=>by rw[e] at m;injection m)) rfl))
def Wj(H:AH)(L:B6)(two:Ao)(ps:List Ae)(x y:AV):Nat->Prop
 | 0=>Eb L.run two ps/\∃ r i,x=Bx two r/\BA H (two.rows.map AQ.av) r/\y=.ref i/\H[i]?=some (.list (ps.map Ae.av))
 | 1=>∀ n,Z (AF tbl (n+4) 3 [x] H) 1 H
 | _=>∃ r,x=Bx two r/\BA H (two.rows.map AQ.av) r/\∃ X,∀ n,Z (AF tbl (n+5) 10 [L.run.av,x,y] H) 3 (H++X)
theorem Zx1{n:Nat}{L:B6}(O:L.Ok){j k b:Nat}(lv:LV H j k b L)(hb:b<=90000){two:Ao}(s:two.Ok){ps:List Ae}{x y:AV}{odd:Nat}(C:odd<=2)(g:L.now.isSome=true->L.want=none->Wj H L two ps x y odd)
  (d:∀ X,DN L ps odd=false->Q (BB L ps odd) (H++X)) (A:∀ t f,DN L ps odd=true->L.now=some t->L.want=none->Eb L.run two ps->(Bc L.run ps 2001 [] (some t)).bad=false->LV f j k (b+10) (By (Em L two ps))->Fo H f j k->Q (.tup []) f):W (AF tbl (n+7) 32 [.inst cL j,x,y] H) Q:=by
 have q:DN L ps odd=false->Q (BB L ps odd) H:=fun e=>by have:=d [] e;rw[bS] at this;exact this
 unfold DN at d A q;unfold BB at d q
 cases h:L.now with
 | none =>
  rw[h] at q;exact FQ lv .c6 (Zxf lv h) (q rfl)
 | some t =>
  cases a:L.want with
  | some w =>
   rw[h,a] at q;exact FQ lv .c5 (Zxg lv h a) (q rfl)
  | none =>
   have g:=g (by refine Ac h ?_;rfl) a;rw[h,a] at q d A
   rcases Ld C with rfl|rfl|rfl
   rotate_left
   .exact FQ lv .c1 (Rn (n:=n+5) lv h a (g (n+1))) (q rfl)
   .obtain⟨r,rfl,l,X,z⟩:=g;exact FQ lv .c3 (Ro (n:=n+1) lv h a s l (z n)) (d X rfl)
   .obtain⟨u,r,i,rfl,l,rfl,B⟩:=g
    cases c:(Bc L.run ps 2001 [] (some t)).bad with
    | true =>
     refine Rp lv (m:=Bc L.run ps 2001 [] (some t)) (fun P p=>Zxh (n:=n) lv h a s l O u B c p) fun X=>?_;have e:(if (0:Nat)=1 then DY 1 else if (0:Nat)=2 then DY 3 else if (Bc L.run ps 2001 [] (some t)).bad=true then uw (Bc L.run ps 2001 [] (some t)) else AV.tup [])=uw (Bc L.run ps 2001 [] (some t)):=if_pos c;exact BE e (d X (by show (decide ((0:Nat)=0)&&!(Bc L.run ps 2001 [] (some t)).bad)=false;refine Ac c ?_;rfl))
    | false =>
     refine Zxj lv (Zxi (n:=n) lv h a s l O u B c (Zxv (two:=two) h c).ns (by exact al (by assumption) (Al rfl)) fun f v o=>?_);exact A t f (by show (decide ((0:Nat)=0)&&!(Bc L.run ps 2001 [] (some t)).bad)=true;refine Ac c ?_;rfl) rfl rfl u c v o
theorem Zx2{L:B6}{ps:List Ae}{odd:Nat}(H:odd<=2):(DN L ps odd=true/\BB L ps odd=.tup [])\/(DN L ps odd=false/\((∃ c,KC c/\BB L ps odd=DY c)\/∃ m,BB L ps odd=uw m)):=by
 unfold DN BB
 cases L.now with
 | none=>exact .inr ⟨rfl,.inl ⟨6,.c6,rfl⟩⟩
 | some t =>
  cases L.want with
  | some w=>exact .inr ⟨rfl,.inl ⟨5,.c5,rfl⟩⟩
  | none =>
   rcases Ld H with rfl|rfl|rfl
   rotate_left
   .exact .inr ⟨rfl,.inl ⟨1,.c1,rfl⟩⟩
   .exact .inr ⟨rfl,.inl ⟨3,.c3,rfl⟩⟩
   .cases h:(Bc L.run ps 2001 [] (some t)).bad with
    | true=>exact .inr ⟨by show (decide ((0:Nat)=0)&&!(Bc L.run ps 2001 [] (some t)).bad)=false;refine Ac h ?_;rfl,.inr ⟨_,if_pos h⟩⟩
    | false=>exact .inl ⟨by show (decide ((0:Nat)=0)&&!(Bc L.run ps 2001 [] (some t)).bad)=true;refine Ac h ?_;rfl,by show (if (Bc L.run ps 2001 [] (some t)).bad=true then uw (Bc L.run ps 2001 [] (some t)) else AV.tup [])=_;refine Ac h ?_;rfl⟩
theorem Rr(m:Fn):Cw 12 (uw m)=true:=by cases m<;>kernel_rfl
theorem Zx3{L:B6}{ps:List Ae}{odd:Nat}(H:odd<=2):Cw 12 (BB L ps odd)=true:=by
 rcases Zx2 (L:=L) (ps:=ps) H with ⟨_,e⟩|⟨_,⟨c,h,e⟩|⟨m,e⟩⟩<;>refine Ac e ?_
 .rfl
 .cases h<;>kernel_rfl
 .exact Rr m
theorem Zx4{L:B6}{ps:List Ae}{odd:Nat}(h:odd<=2){Q:Bool->Prop}(q:Q true):OB (Bl H .eq (BB L ps odd) (BB L ps odd)) Q:=Zi1 (Zx3 h) rfl q
theorem Zx5{L:B6}{ps:List Ae}{odd:Nat}(o:odd<=2){Q:Bool->Prop}(q:Q (DN L ps odd)):OB (Bl H .eq (BB L ps odd) (.tup [])) Q:=by
 rcases Zx2 (L:=L) (ps:=ps) o with ⟨a,e⟩|⟨a,⟨c,h,e⟩|⟨m,e⟩⟩<;>refine Ac e ?_<;>rw[a] at q
 .exact OB.of (v:=true) (by kernel_rfl) q
 .cases h<;>exact OB.of (v:=false) (by kernel_rfl) q
 .cases m<;>exact OB.of (v:=false) (by kernel_rfl) q
theorem Sv{f:List AV->Option (AV×List AV)}{o:DE}{σ:AW}(h:W (o σ H) fun x aa=>∃ i l p,x=.ref i/\aa[i]?=some (.list l)/\f l=some p/\Q p.1 (aa.set i (.list p.2))):W (Cr f o σ H) Q :=
 W.bind (h.mono fun x aa h=>by
  refine Dl h fun i l p E a e q=>?_;subst E;exact⟨_,_,by simp only[a,e],q⟩)
theorem BA.kp{H b:AH}{l:List AV}{r:AV}{S:List Nat}(h:BA H l r)(kp:Kp H b S)(s:∀ a,r=.ref a->a∉S):BA b l r:=by
 cases h with
 | lst=>exact .lst
 | @ref a h=>exact .ref ((kp.eq a (Bm h) (s a rfl)).trans h)
theorem Kp.at{H b:AH}{S:List Nat}(kp:Kp H b S){a:Nat}{o:AO}(h:H[a]?=some o)(s:a∉S):b[a]?=some o:=(kp.eq a (Bm h) s).trans h
theorem Kp.more{H b:AH}{S T:List Nat}(kp:Kp H b S)(h:∀ a∈S,a∈T):Kp H b T:=⟨kp.le,fun m c n=>kp.eq m c fun s=>n (h m s)⟩
theorem MW.asked{H h:AH}{j k i m b:Nat}{L:B6}{f:Option (Ao×List Ae)}(w:MW H j k i (m+1) b L f){two:Ao}(c:two.Ok){ps:List Ae}(P:Eb L.run two ps){t:St}(n:L.now=some t)(l:(Bc L.run ps 2001 [] (some t)).bad=false)(lv:LV h j k (b+10) (By (Em L two ps)))(tb:h[i]?=some (tL (By (Em L two ps)) (wv f))):MW h j k i m (b+10) (By (Em L two ps)) f:=by
 have T:=w.tl;have g:=w.hb;have o:(Em L two ps).Ok:=⟨w.ok.run,w.ok.now,fun x e=>by obtain rfl:=inj e;exact⟨c,P.ok⟩⟩;have s:DM m (Em L two ps):=fun x a u p q d=>Zxv (two:=two) n l x a u p q (SU T d);have S:=s.come;refine⟨lv,tb,Zwp o,S.1,S.2,fun x r=>?_,?_,by exact LA g,w.ij,w.ik⟩
 .obtain rfl:=inj (Zxw r);exact P.len
 .rw[Zw4];exact al (cj (cJ m) _) T
structure Hd(H:AH)(j k i x y:Nat)(b0 m0:Int)(hd:AV)(lx ly:List AV):Prop where
 at_:BA H [.tup [.int b0,.int m0,.ref x],.ref y] hd
 own:∀ a,hd=.ref a->a∉[j,k,i,x,y]
 hx:H[x]?=some (.list lx)
 hy:H[y]?=some (.list ly)
 lx:lx.length<=1000
 ly:ly.length<=1000
 nx:x∉[j,k,i,y]
 ny:y∉[j,k,i,x]
theorem Zx7{l:List AV}(h:l.length<=1000):EE l=some (.none,[]):=if_pos (al h (Al rfl))
def Wk(H:AH)(j k b:Nat)(L:B6)(two:Ao)(ps:List Ae)(odd:Nat):Prop:=(DN L ps odd=false/\LV H j k b L)\/(DN L ps odd=true/\∃ t,L.now=some t/\L.want=none/\Eb L.run two ps/\(Bc L.run ps 2001 [] (some t)).bad=false/\LV H j k (b+10) (By (Em L two ps)))
def Z29(f:As)(s b c S a d:Nat)(e:DS):DS:=Ai (Bj (Cr EE (Aj (Aj (Aa S) (dI 0)) (dI 2)))) (Ai (Bj (Cr EE (Aj (Aa S) (dI 1)))) (Ai (Bo (Aq (Aw .eq (Aa a) (Az []))) (Ai (CD (Aa s) (dS "awaited") (Az [Aa b,Aa c])) (Bj (dF f 30 [Aa s]))) e) (Av (Aw .eq (Aa d) (Aa a)))))
section
variable {n:Nat}{H:AH}{j k i m b x y:Nat}{L:B6}{f:Option (Ao×List Ae)}(w:MW H j k i (m+1) b L f){two:Ao}(h2:two.Ok){ps:List Ae}{odd:Nat}(ho:odd<=2){b0 m0:Int}{hd:AV}{lx ly:List AV}(h:Hd H j k i x y b0 m0 hd lx ly)
include w h2 ho h
theorem J0{s1 s2 s3 s4 S G:Nat}{X:DS}{σ:AW}{o:AH}(U:σ s1=some (.ref i))(e2:σ s2=some two.av)(e3:σ s3=some (.lst (ps.map Ae.av)))(V:σ s4=some hd)(W:σ S=some (BB L ps odd))(e7:σ G=some (BB L ps odd))(kp:Kp H o [j,k])(ti:o[i]?=some (tL L (wv f)))(hc:Wk o j k b L two ps odd)(qa:∀ b' L' l,MW l j k i m b' L' f->Kp H l [j,k,i,x,y]->Q (.bool true) l)
  (qe:∀ A,Kp H A [j,k,i,x,y]->MW A j k i m b L f->(∀ l,Q (.bool true) l->WS (Av (Aw .eq (Aa G) (Aa S)) σ l) N Q)->WS (X σ A) (fun σ' l=>WS (Av (Aw .eq (Aa G) (Aa S)) σ' l) N Q) Q):WS (Z29 (AF tbl (n+2)) s1 s2 s3 s4 S G X σ o) N Q:=by
 have Y:=w.hb;have tl:=w.tl;have nx:=h.nx;have r:=h.ny;simp only[aU,bf,or_false,not_or] at nx r;have B:=h.at_.kp kp fun a e C=>h.own a e (by simp at C;rcases C with rfl|rfl<;>simp);refine Ag (Bt (Sv (Bp (B5 (v:=hd) V (B8 B (v:=.tup [.int b0,.int m0,.ref x]) rfl (Ak (OB.of (v:=.ref x) rfl ⟨x,lx,_,rfl,kp.at h.hx (by simp;exact⟨nx.1,nx.2.1⟩),Zx7 h.lx,?_⟩)))))));have O:Kp o (o.set x (.list [])) [x]:=Kp.set (CS);refine Ag (Bt (Sv (B5 (v:=hd) V (B8 (B.kp O fun a e C=>h.own a e (by simp at C;rcases C with rfl;simp)) (v:=.ref y) rfl ⟨y,ly,_,rfl,O.at (kp.at h.hy (by simp;exact⟨r.1,r.2.1⟩)) (by simp;exact r.2.2.2),Zx7 h.ly,?_⟩))));have K:Kp o ((o.set x (.list [])).set y (.list [])) [x,y]:=(O.more (by simp)).trans (Kp.set (by simp));refine (?_:WS (Ai _ _ σ ((o.set x (.list [])).set y (.list []))) _ _);generalize (o.set x (.list [])).set y (.list [])=A at K ⊢;have kH:Kp H A [j,k,i,x,y]:=(kp.more (by simp)).trans (K.more (by simp));have z:=K.at ti (by simp;exact⟨ct nx.2.2.1,ct r.2.2.1⟩);have Z:=(Bm z);have D:j∉[x,y]:=by simp;exact⟨ct nx.1,ct r.1⟩
 have E:k∉[x,y]:=by simp;exact⟨ct nx.2.1,ct r.2.1⟩
 have F:∀ l,Q (.bool true) l->WS (Av (Aw .eq (Aa G) (Aa S)) σ l) N Q:=fun l q=>Ar (Zhh (v:=BB L ps odd) e7 (u:=BB L ps odd) W (Zx4 ho q));refine Ag (AK (Cf (v:=BB L ps odd) W (AP (An (Zx5 ho ?_)))))
 rcases hc with ⟨J,lv⟩|⟨J,t,M,hw,R,hm,lv⟩
 .exact Ac J (A8 (qe A kH { w with lv:=lv.kp K D E,tb:=z,sf:=fun a b c d e g=>w.sf a b c d e (eN g),tl:=cC tl,hb:=T0 Y } F))
 .refine Ac J ?_;refine AA (Ag (Fp (p:=L.run.av) (s:=sv L.now) (a:=wv L.want) (d:=.lst (L.told.map .int)) (c:=.int L.many) (f:=wv f) (v:=wv (some (two,ps))) U Rq (AP (Dy (v:=two.av) e2 (u:=.lst (ps.map Ae.av)) e3 ⟨rfl,z,?_⟩))));have I:Dx (Em L two ps)=Em L two ps:=by unfold Dx;refine Ac (show (Em L two ps).now=some t from M) ?_;rfl
  have P:(Em L two ps).Ok:=⟨w.ok.run,w.ok.now,fun x e=>by obtain rfl:=inj e;exact⟨h2,R.ok⟩⟩;refine Bt (B4 (Ay (v:=.ref i) U (Zxo (T:=Em L two ps) (I.symm▸P) (I.symm▸(Zxv (two:=two) M hm).ns) (fun x e=>by obtain rfl:=inj e;exact R.len) (Bz Z) ?_)))
  (rewrite [eC];refine Ac I ?_)
  exact F _ (qa _ _ _ (w.asked h2 R M hm ((lv.kp K D E).kp (Kp.set (CS)) (by simp;exact ct w.ij) (by simp;exact ct w.ik)) (Bz Z)) (kH.trans (Kp.set (by simp))))
theorem Zx8(d:L.now.isSome=true->L.want=none->Wj H L two ps (.tup [.int b0,.int m0,.ref x]) (.ref y) odd)(q:∀ B r c,MW c j k i m B r f->Kp H c [j,k,i,x,y]->Q (.bool true) c):W (AF tbl (n+8) 34 [.inst cL j,.ref i,two.av,.lst (ps.map Ae.av),hd,.int odd] H) Q:=by
 refine AB (f:=⟨6,false,Zqk⟩) rfl (BZ rfl ?_);unfold Zqk;have A:=w.hb
 have z:odd=0->L.now.isSome=true->L.want=none->Eb L.run two ps:=fun e g l=>by
  subst e;exact (d g l).1
 refine Ag (AD (B4 (BY (v:=.ref i) rfl (BY (v:=two.av) rfl (Dy (v:=.lst (ps.map Ae.av)) rfl (u:=.int odd) rfl (Jz w.ok h2 ho z w.tb ?_))))));unfold Zqj;refine Ag (AD (B4 (BY (v:=.inst cL j) rfl (Af (B5 (v:=hd) rfl (B8 h.at_ (v:=.tup [.int b0,.int m0,.ref x]) rfl (Af (B5 (v:=hd) rfl (B8 h.at_ (v:=.ref y) rfl (An ?_))))))))));refine Zx1 (n:=n) w.ok w.lv (by exact al (aQ _ _) (by assumption)) h2 ho d (fun X E=>?_) (fun t c E g l P s lv o=>?_)
 .exact J0 (n:=n+5) w h2 ho h rfl rfl rfl rfl rfl rfl (Kp.app ..) (by refine Ac (aM (Bm w.tb)) ?_;exact w.tb) (.inl ⟨E,w.lv.kp (Kp.app H X []) (by simp) (by simp)⟩) q fun a K p F=>A9 (F a (q b L a p K))
 .exact J0 (n:=n+5) w h2 ho h rfl rfl rfl rfl rfl (by refine Ac (Zx0 E) ?_;rfl) (o.kp (by simp) (by simp)) ((o.2 i w.ij w.ik).trans w.tb) (.inr ⟨E,t,g,l,P,s,lv⟩) q fun a K p F=>A9 (F a (q b L a p K))
end
theorem Zx9{l:List AV}{r:AV}(h:BA H l r)(a:l.length<=1000){Q:List AV->Prop}(q:Q l):OB (E9 H r) Q:=by
 refine⟨l,?_,q⟩;have e:=h.of
 have key:((listOf? H r).bind fun l=>if l.length<=1048576 then some l else none)=some l:=by
  exact Ac e (if_pos (al a (Al rfl)))
 cases h with
 | lst=>exact key
 | ref _=>exact key
theorem J1{P:Ao}(h:P.Ok){σ:AW}(s:σ 0=some P.av)(q:R (Bx P (.ref H.length)) (H++[.list (P.rows.map AQ.av)])):WS (Av (Az [Aj (Aa 0) (Am (.int 0)),Aj (Aa 0) (Am (.int 1)),D4 (Aj (Aa 0) (Am (.int 2)))]) σ H) N R:=by
 have r:=h.r16;refine Ar (AP (Af (B5 (v:=P.av) s (OB.of (v:=.int P.boxes) rfl (Af (B5 (v:=P.av) s (OB.of (v:=.int P.most) rfl ?_)))))));refine Af (EP (B5 (v:=P.av) s (OB.of (v:=.lst (P.rows.map AQ.av)) rfl (Zx9 .lst (by rw[aK];exact al r (Al rfl)) (An q)))))
theorem Zya{n:Nat}{P:Ao}(h:P.Ok)(q:Q (Bx P (.ref H.length)) (H++[.list (P.rows.map AQ.av)])):W (AF tbl (n+1) 47 [P.av] H) Q:=AB (f:=⟨1,false,Zsw⟩) rfl (BZ rfl (J1 h rfl q))
theorem Zyb{n:Nat}{P:Ao}(h:P.Ok)(q:Q (Bx P (.ref H.length)) (H++[.list (P.rows.map AQ.av)])):W (AF tbl (n+1) 28 [P.av] H) Q:=AB (f:=⟨1,false,Zpk⟩) rfl (BZ rfl (J1 h rfl q))
theorem Zyc{n:Nat}{L:B6}(o:L.run.Ok){j k b:Nat}(lv:LV H j k b L)(q:Q (Bx L.run (.ref H.length)) (H++[.list (L.run.rows.map AQ.av)])):W (AF tbl (n+2) 55 [.inst cL j] H) Q:=by
 refine AB (f:=⟨1,false,Ztx⟩) rfl (BZ rfl ?_);unfold Ztx;exact Ar (B4 (Af (Ea (v:=.inst cL j) rfl (EW lv (An (Zya o q))))))
theorem Rt{n:Nat}{L:B6}{j k b:Nat}(h:L.told.length<=1000)(lv:LV H j k b L)(q:Q (.ref H.length) (H++[.list (L.told.map .int)])):W (AF tbl (n+1) 53 [.inst cL j] H) Q:=by
 refine AB (f:=⟨1,false,Ztt⟩) rfl (BZ rfl ?_);unfold Ztt;exact Ar (EP (Ea (v:=.inst cL j) rfl (Zww lv (Zx9 (.ref lv.list) (by rw[aK];exact h) q))))
theorem Ru{n:Nat}{P:Ao}(h:P.Ok){xs:List Int}(c:BQ P xs){r:AV}(d:BA H (P.rows.map AQ.av) r)(q:∀ b,LV b H.length (H.length+1) 10 (newS P xs)->b.take H.length=H->b.length=H.length+2->Q .none b):W (AF tbl (n+5) 49 [.inst cL H.length,Bx P r,Co xs] (H++[.attrs []])) Q:=by
 refine AB (f:=⟨3,false,Sp⟩) rfl (BZ rfl ?_);unfold Sp;have a:∀ (X:AH) (l:List (aW×AV)),(H++AO.attrs l::X)[H.length]?=some (.attrs l):=fun X l=>by simp
 have st:∀ (X:AH) (l L:List (aW×AV)),(H++AO.attrs l::X).set H.length (.attrs L)=H++AO.attrs L::X:=fun X l L=>by simp
 have put:∀ (X:AH) (l:List (aW×AV)) (N:aW) (v:AV) (Q:AH->Prop),l.length<=100->Q (H++AO.attrs ((N,v)::l)::X)->OB (putA cL (H++AO.attrs l::X) N (.inst cL H.length) v) Q:=fun X l N v Q g q=>V2 (a X l) (by exact al (by assumption) (Al rfl)) (by rw[st];exact q);refine Ag (Bt (B4 (Ay rfl (Zv7 h (d.more _) ?_))));refine Ag (AK (B0 (AZ (B4 (Dy rfl rfl (Zv8 h c (Cn ?_)))))));refine A8 (A9 ?_);refine Ag (CJ (B4 (Ay rfl (Zwd h (d.more _) (Ax rfl (put _ _ _ _ _ (by simp) ?_))))));refine Ag (CJ (AP (CA (Ay rfl (Ax rfl (put _ _ _ _ _ (by simp) ?_))))));refine Ag (CJ (Du (An (Ax rfl ?_))));have e:∀ l:List (aW×AV),(H++[AO.attrs l]).length=H.length+1:=fun l=>by simp
 have E:∀ l:List (aW×AV),(H++[AO.attrs l]++[AO.list []])=H++AO.attrs l::[AO.list []]:=fun l=>by simp
 rw[e,E];refine put _ _ _ _ _ (by simp) (Ag (CJ (Ak (Ax rfl (put _ _ _ _ _ (by simp) ?_)))));refine CJ (Ak (Ax rfl (put _ _ _ _ _ (by simp) ?_)));refine q _ ⟨by exact Ul,by simp[newS],_,a _ _,by simp,?_⟩ (by simp) (by simp);refine⟨?_,?_,?_,?_,?_,?_⟩
 .intro x c;simp at c
  rcases c with rfl|rfl|rfl|rfl|rfl
  .exact (show C9.contains "many"=true by decide +kernel)
  .exact (show C9.contains "wanted"=true by decide +kernel)
  .exact (show C9.contains "told"=true by decide +kernel)
  .exact (show C9.contains "now"=true by decide +kernel)
  .exact (show C9.contains "running"=true by decide +kernel)
 .exact (Ey (by decide +kernel)).trans ((Ey (by decide +kernel)).trans ((Ey (by decide +kernel)).trans ((Ey (by decide +kernel)).trans JV)))
 .exact (Ey (by decide +kernel)).trans ((Ey (by decide +kernel)).trans ((Ey (by decide +kernel)).trans JV))
 .exact (Ey (by decide +kernel)).trans ((Ey (by decide +kernel)).trans JV)
 .exact (Ey (by decide +kernel)).trans JV
 .exact JV
theorem Zyd{p s a d c f:AV}:ED [] [aA "program",aA "state",aA "awaited",aA "said",aA "changed",aA "refused"] [p,s,a,d,c,f]=tb p s a d c f:=by kernel_rfl
theorem Rv{ks:List aW}{d:List DE}{σ:AW}(h:W (AL d σ (H++[.dictN []])) fun vs aa=>aa=H++[.dictN []]/\Q (.ref H.length) (H++[.dictN (ED [] ks vs)])):W (Hr ks d σ H) Q :=
 W.bind (h.mono fun vs aa h=>by
  refine AX h fun e q=>?_;subst e;refine⟨_,_,?_,q⟩;simp)
theorem Zye{n m:Nat}(i:m<=900){P:Ao}(c:P.Ok){xs:List Int}(x:BQ P xs)(q:∀ h,MW h (H.length+1) (H.length+2) (H.length+3) m 10 (newS P xs) none->Kp H h []->h.length=H.length+4->Q (.tup [.inst cL (H.length+1),.ref (H.length+3)]) h):W (AF tbl (n+6) 44 [P.av,Co xs] H) Q:=by
 refine AB (f:=⟨2,false,Zsc⟩) rfl (BZ rfl ?_);unfold Zsc;refine Ag (AD (B4 (Ay (v:=P.av) rfl (Zyb c ?_))));unfold Zsb;have g:(H++[AO.list (P.rows.map AQ.av)])[H.length]?=some (.list (P.rows.map AQ.av)):=by simp
 have p:(H++[AO.list (P.rows.map AQ.av)]).length=H.length+1:=by simp
 refine Ag (AD (Q5 (Dy (v:=Bx P (.ref H.length)) rfl (u:=Co xs) rfl (Ru c x (.ref g) fun h lv t b=>⟨rfl,?_⟩))));rw[p] at lv t b ⊢;unfold Zsa
 have o:h[H.length]?=some (.list (P.rows.map AQ.av)):=by
  have:(h.take (H.length+1))[H.length]?=h[H.length]?:=iO (cp _);refine BE this (Ac t ?_);exact g
 refine Ag (Bt (Sv (B5 (v:=Bx P (.ref H.length)) rfl (OB.of (v:=.ref H.length) rfl ⟨H.length,_,_,rfl,o,Zx7 (by rw[aK];exact al c.r16 (Al rfl)),?_⟩))));unfold Zr9;have S:(h.set H.length (.list [])).length=H.length+3:=by refine Ac bZ ?_;exact b
 refine (?_:WS (Ai _ _ _ (h.set H.length (.list []))) _ _);have K:Kp h (h.set H.length (.list [])) [H.length]:=Kp.set (CS);have l:=lv.kp K (by simp) (by simp;exact Uk)
 have k:Kp H (h.set H.length (.list [])) []:=⟨by exact T9 b S,fun a d _=>by
  exact Ac (bI (cZ d)) (BE (iO (j:=H.length+1) (eN d)) (Ac t (Ac (aM d) rfl)))⟩
 generalize h.set H.length (.list [])=H2 at S l k ⊢;refine Ag (AD (Rv (BY (v:=P.av) rfl (Af (AP (CA (Ay (v:=Co xs) rfl (CA (Af (BW (An (CA (AI ⟨rfl,?_⟩)))))))))))));refine Ac Zyd (Ar (AP (Dy (v:=.inst cL (H.length+1)) rfl (u:=.ref H2.length) rfl ?_)));refine Ac S ?_;have O:=Zw9 c x;have sn:=Zxs (N:=m) (L:=newS P xs) rfl;refine q _ ⟨l.kp (Kp.app H2 _ []) (by simp) (by simp),?_,O,sn.1,sn.2,fun w e=>by injection e,?_,by exact T6 i,by exact Ue,by exact TY⟩ (k.trans (Kp.app ..)) (by simp[S])
 .refine BE S ?_;simp[tL,newS];rfl
 .show 0+m<=1000;exact TK i
theorem Rw{b:As}{A k c:Nat}{d:List DE}{σ:AW}{H a:AH}(h:W (AL d σ H) fun vs aa=>Z (b k (.inst A aa.length::vs) (aa++[.attrs []])) c a):Z (Ft b A k d σ H) c a:=Z.after (h.mono fun vs aa z=>Z.bind z)
theorem Zyf{n:Nat}{o x v:AV}(z:Z (AF tbl n 3 [x] H) 1 H):Z (AF tbl (n+1) 49 [o,x,v] H) 1 H:=by
 refine Zt4 (Ew rfl ?_);unfold Sp;exact De (IV (Zjo (Ay (v:=x) rfl z)))
theorem Zyg{n:Nat}{P:Ao}(h:P.Ok){o v:AV}(a:Ms v=true)(hb:Fy P v=false):Z (AF tbl (n+5) 49 [o,P.av,v] H) 2 H:=by
 refine Zt4 (Ew rfl ?_);unfold Sp;refine IT (Bt (B4 (Ay (v:=Bx P (.lst (P.rows.map AQ.av))) rfl (Zv7 h .lst ?_))));unfold Zs4;refine De (IU (B0 (AZ (B4 (Dy (v:=P.av) rfl (u:=v) rfl (Zun a (Cn ?_)))))));exact Ac hb (AA (Sk (Ak rfl)))
theorem Z3a{n:Nat}{b m:Int}{r:AV}(hb:0<=b/\b<=3)(a:1<=m/\m<=4)(h:WS (Sn (AF tbl (n+2)) (pσ b m r) H) N R):WS (QM (AF tbl (n+2)) (BL [.tup [.int b,.int m,r]] 0) H) N R:=by
 refine Ac VX ?_;unfold Zlx;refine Ag (AK (CH (B0 (AZ (B4 (BY (v:=.int b) rfl (CA (AI (Mv hb (Cn (A8 ?_)))))))))));exact B0 (AZ (B4 (BY (v:=.int m) rfl (CA (AI (Mv a (Cn (A8 (A9 h)))))))))
theorem J2{n:Nat}{v:AV}(h:∀ Q:AV->AH->Prop,Q (.bool false) H->W (AF tbl n 2 [v] H) Q):Z (AF tbl (n+1) 3 [v] H) 1 H:=by
 refine Zt2 (Ew rfl ?_);unfold VD;exact De (IU (B0 (AZ (B4 (Ay (v:=v) rfl (h _ (Cn (AA (Sk (Ak rfl))))))))))
theorem Zyh{n:Nat}:Z (AF tbl (n+2) 3 [.none] H) 1 H:=J2 fun Q q=>AB (f:=⟨1,true,QM⟩) rfl (B1 rfl (EY (v:=.bool false) (H:=H) (by kernel_rfl) (CM rfl q)))
theorem Zyi{n:Nat}{b m:Int}{r:AV}(hb:0<=b/\b<=3)(c:1<=m/\m<=4)(h:∀ R:AV->AH->Prop,R (.bool false) H->WS (Sn (AF tbl (n+2)) (pσ b m r) H) (fun _ _=>False) R):Z (AF tbl (n+4) 3 [.tup [.int b,.int m,r]] H) 1 H:=J2 fun Q q=>AB (f:=⟨1,true,QM⟩) rfl (Fv rfl fun R a=>Z3a hb c (h R (a _ _ (CM rfl q))))
theorem J3{n:Nat}{b m:Int}{r:AV}(hb:0<=b/\b<=3)(a:1<=m/\m<=4)(h:BA H [] r):Z (AF tbl (n+4) 3 [.tup [.int b,.int m,r]] H) 1 H:=Zyi hb a fun R q=>by
 unfold Sn;refine Ag (AK (CH (B0 (AZ (BX (H0 (v:=r) rfl (DK h (Cn (A8 ?_)))))))));exact B0 (AZ (FH (Ak (BX (Ay (v:=r) rfl (DJ h (Al rfl) (OB.of (v:=false) rfl (A8 (Cn (AA (Ar (Ak q))))))))))))
theorem Zyj{X:Type}{p:X->Bool}{l:List X}{xs:List AV}(a:Cv (fun v x=>x=.bool (p v)) l xs):allTrue? xs=some (l.all p):=by
 induction a with
 | nil=>rfl
 | cons h r i =>
  refine Ac h ?_;show (allTrue? _).map _=_;refine Ac i ?_;rfl
theorem Zyk{X:Type}{p:X->Bool}{l:List X}{xs:List AV}(h:Cv (fun v x=>x=.bool (p v)) l xs){Q:AV->Prop}(q:Q (.bool (l.all p))):OB (BK H .all [.lst xs]) Q:=by
 refine⟨_,?_,q⟩;show gr AV.bool (allTrue? xs)=_;refine Ac (Zyj h) ?_;rfl
theorem Rx{L:AV}{l xs:List AV}(a:Cv (fun v x=>(v=L->x=.bool false)/\∃ c,x=.bool c) l xs):∃ c,allTrue? xs=some c/\(L∈l->c=false):=by
 induction a with
 | nil=>exact⟨true,rfl,fun h=>nomatch h⟩
 | cons h r i =>
  refine Ah i fun c e g=>?_;obtain⟨b,d,f⟩:=h;subst f;refine⟨d&&c,?_,fun H=>?_⟩
  .show (allTrue? _).map _=_;refine Ac e ?_;rfl
  .rcases aU.mp H with E|H
   .have:=b E.symm;injection this with this
    refine Ac this ?_;rfl
   ·(refine Ac (g H) ?_;rw[j5])
theorem Ry{n:Nat}{b m:Int}{r:AV}(hb:0<=b/\b<=3)(o:1<=m/\m<=4){s:List AQ}{l:AV}(j:s.length<=16)(p:∀ x∈s,x.Ok b m (s.length+1:Nat))(f:∀ (H:AH) (Q:AV->AH->Prop),Q (.bool false) H->W (AF tbl (n+2) 1 [l,.int b,.int m,.int (s.length+1:Nat)] H) Q)(a:BA H (s.map AQ.av++[l]) r):Z (AF tbl (n+4) 3 [.tup [.int b,.int m,r]] H) 1 H:=Zyi hb o fun R q=>by
 have L:(s.map AQ.av++[l]).length=s.length+1:=by simp
 have d:(s.map AQ.av++[l]).length<=1000:=by refine Ac L ?_;exact bP (by assumption) (Al rfl)
 unfold Sn;refine Ag (AK (CH (B0 (AZ (BX (H0 (v:=r) rfl (DK a (Cn (A8 ?_)))))))));refine B0 (AZ (FH (Ak (BX (Ay (v:=r) rfl (DJ a d (OB.of (v:=decide ((1:Int)<=((s.map AQ.av++[l]).length:Nat))) rfl ?_)))))));refine Ac L (Ac (decide_eq_true (TQ j L)) ?_);refine AA (Ak (OB.of (v:=decide (((s.length+1:Nat):Int)<=20)) rfl (Cn ?_)));refine Ac (decide_eq_true (TR j L)) (A8 (A9 ?_));unfold Zlv;refine Ag (AK (B0 (AZ (BX (Af (Zjd (P:=fun v x=>(v=l->x=.bool false)/\∃ c,x=.bool c) (Ax (v:=r) rfl ⟨_,.inr a,al d (Al rfl),fun v t X=>?_,fun u i=>?_⟩)))))))
 .refine B4 (BY (v:=v) rfl (BY (v:=.int b) rfl (BY (v:=.int m) rfl (Af (BX (Ay (v:=r) rfl (DJ (a.more X) d (An ?_))))))));refine Ac L ?_
  by_cases e:v=l
  .subst e;exact f _ _ ⟨rfl,rfl,fun _=>rfl,_,rfl⟩
  .have g:v∈s.map AQ.av:=by
    rcases bl.mp t with h|h
    .exact h
    .exact absurd (aJ.mp h) e
   refine Ah (a7.mp g) fun x i E=>?_;subst E;exact Zv2 (p x i) ⟨rfl,rfl,fun h=>absurd h e,_,rfl⟩
 .refine Ah (Rx i) fun c e k=>?_;obtain rfl:=k (by simp);refine An ⟨.bool false,?_,Cn (AA (Ar (Ak q)))⟩;show (allTrue? u).map AV.bool=_;refine Ac e ?_;rfl
theorem Dg{lo H i:Int}(h:i<lo\/H<i):C5 lo H (.int i)=false:=by
 show (decide _&&decide _)=false;rw[Bool.and_eq_false_iff,decide_eq_false_iff_not,decide_eq_false_iff_not];exact Z1b h
theorem J4{n:Nat}{a c:Int}{d:DS}{σ:AW}(q:R (.bool (C5 0 c (.int a))) H):WS (Ai (Av (HG (AF tbl (n+1)) a c)) d σ H) N R :=
 Ag (Ar (B4 (CA (CA (AI (Zum rfl q))))))
noncomputable def Sw:List AV:=[.tup [.str "go",.int 99],.tup [.str "stop",.int 0],.none,.tup [.str "tell",.int 3],.tup [.str "put",.int 0,.int 5]]
theorem Zym{n:Nat}{b m k:Int}(hb:b<=3)(c:m<=4)(a:k<=17){v:AV}(h:v∈Sw)(q:Q (.bool false) H):W (AF tbl (n+2) 1 [v,.int b,.int m,.int k] H) Q:=by
 refine AB (f:=⟨4,true,HD⟩) rfl (B1 rfl ?_);have f:=CM (H:=H) (v:=.bool false) rfl q;unfold Sw at h;simp only[aU,bf,or_false] at h
 rcases h with rfl|rfl|rfl|rfl|rfl
 .refine (?_:WS (HD (AF tbl (n+1)) (rσ (.go 99) b m k) H) _ _);exact Ac Mw (J4 (by refine Ac (Dg (.inr (Z1h a))) ?_;exact f))
 .exact EY (v:=.bool false) (H:=H) (by kernel_rfl) f
 .exact EY (v:=.bool false) (H:=H) (by kernel_rfl) f
 .refine (?_:WS (HD (AF tbl (n+1)) (rσ (.tell 3) b m k) H) _ _);exact Ac Zvz (J4 (by refine Ac (Dg (.inr (Z1i hb))) ?_;exact f))
 .refine (?_:WS (HD (AF tbl (n+1)) (rσ (.put 0 5) b m k) H) _ _);refine Ac Jp (Ag (AK (B0 (AZ (B4 (CA (CA (AI (HV rfl rfl (Cn ?_))))))))))
  cases C5 0 (b-1) (.int 0) with
  | false=>exact AA (Ar (Ak f))
  | true =>
   refine A8 (A9 ?_);exact Ac Jq (J4 (by refine Ac (Dg (.inr (by exact cF (by assumption) (Al rfl)))) ?_;exact f))
theorem AQ.Ok.more8{b m k K:Int}(h:k<=K){r:AQ}(H:r.Ok b m k):r.Ok b m K:=by
 cases r with
 | stop=>trivial
 | go j=>exact⟨H.1,di H.2 h⟩
 | more j=>exact H
 | tell j=>exact H
 | put j v=>exact H
 | copy j v=>exact H
 | ask j v=>exact⟨H.1,H.2.1,di H.2.2 h⟩
theorem Rz{n:Nat}{P:Ao}(h:P.Ok){v:AV}(b:v∈Sw){r:AV}(a:BA H (P.rows.map AQ.av++[v]) r):Z (AF tbl (n+4) 3 [Bx P r] H) 1 H:=by
 have R:=h.r16;exact Ry ⟨h.b0,h.b3⟩ ⟨h.m1,h.m4⟩ R (fun x c=>(h.ok x c).more8 (Z12)) (fun H Q q=>Zym h.b3 h.m4 (Z1z R) b q) a
noncomputable def Bh.fitB(one:Ao):Bh->Bool
 | .is _=>true
 | .byBox b vs=>decide (b<one.boxes)&&decide ((vs.length:Int)=one.most+1)
def Ae.fitB(one:Ao)(p:Ae):Bool:=decide (p.row<one.rows.length)&&p.rules.all (Bh.fitB one)
section
variable {old one two:Ao}(h0:old.Ok)(h1:one.Ok)(h2:two.Ok)
theorem Bh.Ok.fit{u:Bh}(h:u.Ok old.boxes old.most two.most)(f:u.fitB one=true):u.Ok one.boxes one.most two.most:=by
 cases u with
 | is v=>exact h
 | byBox b V =>
  exact AX (aL.mp f) fun F a=>⟨⟨h.1.1,of_decide_eq_true F⟩,of_decide_eq_true a,h.2.2⟩
theorem Ae.Ok.fit{p:Ae}(h:p.Ok old two)(f:p.fitB one=true):p.Ok one two:=by
 exact AX (aL.mp f) fun F a=>⟨h.r0,of_decide_eq_true F,h.o0,h.o1,h.rl,fun r H=>(h.ok r H).fit (aI.mp a r H)⟩
include h0 h1
theorem Zyn{n:Nat}{r:AV}{u:Bh}(h:u.Ok old.boxes old.most two.most)(f:u.fitB one=false)(q:Q (.bool false) H):W (AF tbl (n+3) 8 [one.av,Bx two r,u.av] H) Q:=by
 refine AB (f:=⟨3,true,Ij⟩) rfl (B1 rfl ?_);have F:=CM (H:=H) (v:=.bool false) rfl q;have m:=h0.m4
 cases u with
 | is v=>injection f
 | byBox b V =>
  have c:0<=b:=h.1.1;have l:(V.length:Int)=old.most+1:=h.2.1;refine (?_:WS (Ij (AF tbl (n+2)) (lσ (.tup [.int one.boxes,.int one.most,.lst (one.rows.map AQ.av)]) (Bx two r) (.tup [.str "by",.int b,.tup (V.map ov)])) H) _ _);refine Ac Js (Ag (AK (B0 (AZ (B4 (CA (CA (AI (HV rfl rfl (Cn ?_))))))))))
  by_cases a:b<one.boxes
  .have d:¬ (V.length:Int)=one.most+1:=fun e=>by
    have:(decide (b<one.boxes)&&decide ((V.length:Int)=one.most+1))=false:=f;rw[decide_eq_true a,decide_eq_true e] at this;injection this
   refine Ac (Fz ⟨c,by exact Z2c a⟩) (A8 (A9 ?_));unfold VG
   (repeat' (first|refine AA ?_|refine A8 ?_|refine VY (Z10 m l) ?_|exact F|refine Ag ?_|refine AK ?_|refine Ar ?_|refine A9 ?_|refine Ba (by trivial) ?_|refine Br ?_|refine Ak ?_|refine BX ?_|refine Af ?_|refine An ?_|refine AU ?_|refine Bn ?_|refine Eh ?_|refine Qt (fun _=>?_) (fun _=>?_)|refine OB.of (by rfl) ?_|fail))
   all_goals first|(exfalso;exact absurd (by assumption) (by assumption))|skip
  .refine Ac (Dg (.inr (Z1j a))) ?_;exact AA (Ar (Ak F))
theorem Zyo{n:Nat}{r:AV}{u:Bh}(h:u.Ok old.boxes old.most two.most)(q:Q (.bool (u.fitB one)) H):W (AF tbl (n+3) 8 [one.av,Bx two r,u.av] H) Q:=by
 cases f:u.fitB one with
 | true=>exact Zwb h1 (h.fit f) (f▸q)
 | false=>exact Zyn h0 h1 h f (f▸q)
include h2
theorem Zyp{n:Nat}{p:Ae}(h:p.Ok old two)(f:p.fitB one=false){r:AV}(i:BA H (two.rows.map AQ.av) r)(q:Q (.bool false) H):W (AF tbl (n+4) 9 [one.av,Bx two r,p.av] H) Q:=by
 refine AB (f:=⟨3,true,JU⟩) rfl (B1 rfl ?_);have F:=CM (H:=H) (v:=.bool false) rfl q;have b:=h2.b3;have g:=h.rl;have o:=h.o1;refine (?_:WS (JU (AF tbl (n+3)) (lσ one.av (Bx two r) (.tup [.int p.row,.int p.other,.tup (p.rules.map Bh.av)])) H) _ _);refine Ac Jr (Lb h1 h2 i rfl rfl rfl (Fz ⟨h.o0,dU o⟩) (fun _=>F) (fun e=>?_))
 have E:p.row<one.rows.length:=by
  refine gS.mp fun d=>?_;rw[Dg (.inr (Z11 d))] at e;injection e
 have a:p.rules.all (Bh.fitB one)=false:=by
  have:(decide (p.row<one.rows.length)&&p.rules.all (Bh.fitB one))=false:=f;rw[decide_eq_true E] at this;exact this
 unfold QO;refine Ar (D7 (Ci (BX (Af (B5 (v:=.tup [.int p.row,.int p.other,.tup (p.rules.map Bh.av)]) rfl (OB.of (v:=.tup (p.rules.map Bh.av)) rfl (An (VY (HK b g) (B5 (v:=Bx two r) rfl (OB.of (v:=.int two.boxes) rfl (BG (Cn ?_))))))))))));refine Ac (decide_eq_true g) (AA (BX (Af (KS (f:=Bh.av) (P:=fun u x=>x=.bool (u.fitB one)) (B5 (v:=.tup [.int p.row,.int p.other,.tup (p.rules.map Bh.av)]) rfl (OB.of (v:=.tup (p.rules.map Bh.av)) rfl ⟨p.rules,rfl,by exact HK b g,?_,?_⟩))))))
 .intro u j k;exact B4 (BY (v:=one.av) rfl (Dy (v:=Bx two r) rfl (u:=u.av) rfl (Zyo h0 h1 (h.ok u j) ⟨rfl,rfl,rfl⟩)))
 .intro y c;exact An (Zyk c (a▸F))
end
theorem Wl{n:Nat}{one:Ao}{r:Bh}(c:∀ b vs,r=.byBox b vs->vs.length<=1000){σ:AW}(s:σ 0=some one.av)(q:r.fitB one=true->N (AM σ 5 r.av) H)(Q:r.fitB one=false->R (.bool false) H):WS (Zrf (AF tbl n) (AM σ 5 r.av) H) N R:=by
 unfold Zrf
 cases r with
 | is v=>exact AK (G4 (AU (B5 (v:=(Bh.is v).av) rfl (OB.of (v:=.str "is") rfl (Ak (OB.of (v:=false) (by kernel_rfl) (A8 (A8 (A9 (q rfl))))))))))
 | byBox b vs =>
  refine AK (G4 (AU (B5 (v:=(Bh.byBox b vs).av) rfl (OB.of (v:=.str "by") rfl (Ak (OB.of (v:=true) (by kernel_rfl) (AA ?_)))))));refine CH (AU (B5 (v:=(Bh.byBox b vs).av) rfl (OB.of (v:=.int b) rfl (B5 (v:=one.av) s (OB.of (v:=.int one.boxes) rfl (OB.of (v:=decide (one.boxes<=b)) rfl ?_))))));refine BV (fun h=>AA (Ar (Ak (Q ?_)))) (fun h=>?_)
  .show (decide (b<one.boxes)&&_)=false;refine Ac (decide_eq_false (Z1s h)) ?_;rfl
  refine AU (BX (Af (B5 (v:=(Bh.byBox b vs).av) rfl (OB.of (v:=.tup (vs.map ov)) rfl (An (VY (al (c b vs rfl) (Al rfl)) (Br (B5 (v:=one.av) s (OB.of (v:=.int one.most) rfl (Ak (Bn (Eh ?_))))))))))));refine Qt (fun a=>Ar (Ak (Q ?_))) (fun a=>A9 (q ?_))
  .show (decide (b<one.boxes)&&decide _)=false
   (refine Ac (decide_eq_false a) ?_;rw[j5])
  .show (decide (b<one.boxes)&&decide _)=true;refine Ac (decide_eq_true a) (Ac (decide_eq_true (by exact gS.mp (by assumption))) ?_);rfl
theorem R0{n:Nat}{one:Ao}(w:one.Ok){ps:List Ae}(z:∀ p∈ps,∀ r∈p.rules,∀ b vs,r=.byBox b vs->vs.length<=1000)(q:Q (.bool (ps.all (Ae.fitB one))) H):W (AF tbl (n+1) 39 [one.av,.lst (ps.map Ae.av)] H) Q:=by
 refine AB (f:=⟨2,true,Zrh⟩) rfl (EQ fun B R s S y=>?_);have m:=w.r16;unfold Zrh;have F:∀ c,ps.all (Ae.fitB one)=c->R (.bool c) H:=fun c e=>y _ _ (CM rfl (e▸q));refine Ag (CX (Ax (v:=.lst (ps.map Ae.av)) S (OB.of rfl ?_)));refine Zh5 (fun t g j=>g 0=some one.av/\j=H/\(∀ p∈t,p∈ps)/\t.all (Ae.fitB one)=ps.all (Ae.fitB one)) (fun p t g j h=>?_) (fun g j h=>?_) ⟨s,rfl,fun _ h=>h,rfl⟩
 .refine F3 h fun s E u a=>?_;subst E;refine⟨_,rfl,?_⟩;unfold Zrg;have k:=z p (u p (aN ..));have a:(Ae.fitB one p&&t.all (Ae.fitB one))=ps.all (Ae.fitB one):=a;refine Ag (AK (Cf (v:=.int p.row) rfl (BX (Af (B5 (v:=one.av) s (OB.of (v:=.lst (one.rows.map AQ.av)) rfl (An (V0 (al m (Al rfl)) (OB.of (v:=decide ((one.rows.length:Int)<=p.row)) rfl (BV (fun h=>Ar (Ak (F false ?_))) (fun h=>A9 ?_)))))))))))
  .refine BE a ?_;show ((decide (p.row<one.rows.length)&&_)&&_)=false;refine Ac (decide_eq_false (Z1t h)) ?_;rfl
  have a:(p.rules.all (Bh.fitB one)&&t.all (Ae.fitB one))=ps.all (Ae.fitB one):=by
   refine BE a ?_;show _=((decide (p.row<one.rows.length)&&_)&&_);refine Ac (decide_eq_true (by exact gS.mp (by assumption))) ?_;rfl
  refine CX (Ax (v:=.tup (p.rules.map Bh.av)) rfl (OB.of rfl ?_));refine Qv (fun o g d=>g 0=some one.av/\d=j/\(∀ r∈o,r∈p.rules)/\(o.all (Bh.fitB one)&&t.all (Ae.fitB one))=ps.all (Ae.fitB one)) (fun r o g d h=>?_) (fun g d h=>?_) ⟨s,rfl,fun _ h=>h,a⟩
  .refine F3 h fun s E i a=>?_;subst E;refine Wl (k r (i r (aN ..))) s (fun f=>⟨s,rfl,fun x l=>i x (aT _ l),?_⟩) (fun f=>F false ?_)
   .refine BE a (Ac eI (Ac f ?_));rfl
   .refine BE a (Ac eI (Ac f ?_));rfl
  .refine F3 h fun s E _ a=>?_;subst E;exact⟨s,rfl,fun x l=>u x (aT _ l),a⟩
 .refine F3 h fun _ E _ a=>?_;subst E;exact Ar (Ak (F true a.symm))
theorem Zyq{X:Type}{p:X->Bool}:∀ {l:List X},l.all p=false->∃ dn x tl,l=dn++x::tl/\(∀ y∈dn,p y=true)/\p x=false
 | [],h=>by injection h
 | a::r,h=>by
  cases H:p a with
  | false=>exact⟨[],a,r,rfl,fun _ h=>(nomatch h),H⟩
  | true =>
   rw[eI,H] at h;exact Do (Zyq (l:=r) h) fun dn x tl e c d=>⟨a::dn,x,tl,by refine Ac e ?_;rfl,fun y b=>by rcases aU.mp b with rfl|b;exact H;exact c y b,d⟩
theorem Zyr{o one two:Ao}(k:o.Ok)(b:one.Ok)(c:two.Ok){ps:List Ae}(h:Eb o two ps)(f:ps.all (Ae.fitB one)=false){r:AV}(g:BA H (two.rows.map AQ.av) r){j:Nat}(a:H[j]?=some (.list (ps.map Ae.av))):∃ X,∀ n,Z (AF tbl (n+5) 10 [one.av,Bx two r,.ref j] H) 3 (H++X):=by
 refine Do (Zyq f) fun D p t e m s=>?_;have l:=h.len;have d:=h.nd;have O:=h.ok;rw[e] at l d O a;rw[cw] at a d;rw[bH,ej] at l;have P:Eb one two D:=⟨by exact al (aQ _ _) (by assumption),(cK.mp d).1,fun x i=>(O x (bD _ i)).fit (m x i)⟩;refine⟨_,fun n=>Zwi (tl:=t.map Ae.av) b c P g (v:=p.av) (.inl fun n X Q q=>?_) (by rw[aK];exact Z1o l) a⟩;exact Zyp k b c (O p (jL _ (aN ..))) s (g.more X) q
theorem Kp.via{H d e:AH}{S T:List Nat}(a:Kp H d S)(b:Kp d e T)(h:∀ m∈T,m<H.length->m∈S):Kp H e S:=⟨al a.le b.le,fun m c n=>(b.eq m (aZ c a.le) fun t=>n (h m t c)).trans (a.eq m c n)⟩
theorem MW.lt{j k i m b:Nat}{L:B6}{f:Option (Ao×List Ae)}(w:MW H j k i m b L f):j<H.length/\k<H.length/\i<H.length:=by
 obtain⟨c,h,l,a,d,e⟩:=w.lv;exact⟨(Bm a),(Bm h),(Bm w.tb)⟩
def Hh(f:Option (Ao×List Ae)):Prop:=∀ w,f=some w->w.1.Ok/\∃ one:Ao,one.Ok/\Eb one w.1 w.2
theorem Zys{one two:Ao}(h:one.Ok){ps:List Ae}(a:Eb one two ps):∀ p∈ps,∀ r∈p.rules,∀ b vs,r=.byBox b vs->vs.length<=1000:=fun p H r c b vs e=>by
 subst e;exact L0 (LS h.m4) ((a.ok p H).ok _ c).2.1
theorem Le(H:AH)(a:AO):(H++[a]).length=H.length+1:=by simp
theorem Kp.fresh{H c b:AH}{j k i x y:Nat}(K:Kp H c [])(e:H.length<=x)(f:H.length<=y)(kp:Kp c b [j,k,i,x,y]):Kp H b [j,k,i]:=(K.more (T:=[j,k,i]) (by simp)).via kp fun a d h=>by
 simp only[aU,bf,or_false] at d ⊢;exact Un e f h d
theorem Kp.one{H d c:AH}{a:Nat}(k:Kp H d [])(h:H.length<=a)(kp:Kp d c [a]):Kp H c []:=k.via kp fun b e t=>by
 rw[aJ.mp e] at t;exact absurd t (lu h)
theorem HI{X:Type}{f:X->AV}{l:List X}{n:Nat}(h:l.length<=n):(l.map f).length<=n:=by rw[aK];exact h
theorem M4{l:List AV}{v:AV}(h:l.length<=16):(l++[v]).length<=1000:=by refine Ac bH ?_;exact al (ba h 1) (Al rfl)
theorem Z3b(H:AH)(a b:AO):∃ h,H++[a]++[b]=h/\h[H.length]?=some a/\h[H.length+1]?=some b/\Kp H h []:=⟨_,rfl,by simp,by simp,(Kp.app ..).trans (Kp.app ..)⟩
theorem R1{H:AH}{j k i n:Nat}{two:Ao}{l L:List AV}(h:j<n/\k<n/\i<n)(g:H[n]?=some (.list l))(G:H[n+1]?=some (.list L))(b:l.length<=1000)(c:L.length<=1000):Hd H j k i n (n+1) two.boxes two.most (.lst [Bx two (.ref n),.ref (n+1)]) l L:=⟨.lst,fun a e=>by injection e,g,G,b,c,by simp;exact Lu h,by simp;exact S6 h⟩
theorem Zyt{n:Nat}{j k i m b:Nat}{L:B6}{O two:Ao}{ps:List Ae}(w:MW H j k i (m+1) b L (some (two,ps)))(C:O.Ok)(u:two.Ok)(t:Eb O two ps)(q:∀ B y r,MW r j k i m B y none->Kp H r [j,k,i]->Q (.bool true) r):W (AF tbl (n+9) 35 [.inst cL j,.ref i] H) Q:=by
 refine AB (f:=⟨2,false,Zqp⟩) rfl (BZ rfl ?_);unfold Zqp;have h:=t.len;have P:=(Bm w.tb);refine Ag (GZ (C0 We rfl w.tb (OB.of rfl ?_)));unfold Zqo;refine Ag (Fp (p:=L.run.av) (s:=sv L.now) (a:=wv L.want) (d:=.lst (L.told.map .int)) (c:=.int L.many) (f:=wv (some (two,ps))) (v:=.none) rfl Wg (Ak ⟨rfl,w.tb,?_⟩));have K:Kp H (H.set i (tL L .none)) [i]:=Kp.set (CS);have x:MW (H.set i (tL L .none)) j k i (m+1) b L none:={ w with lv:=w.lv.kp K (by simp;exact ct w.ij) (by simp;exact ct w.ik),tb:=Bz P };refine (?_:WS (Zqn (AF tbl (n+8)) _ (H.set i (tL L .none))) _ _);have M:(H.set i (tL L .none)).length=H.length:=bZ ..;generalize H.set i (tL L .none)=H1 at K x M ⊢
 have go:∀ (o:Nat) (l:AW),o<=2->l 0=some (.inst cL j)->l 1=some (.ref i)->l 2=some two.av->l 3=some (.lst (ps.map Ae.av))->l 4=some (.int o)->(∀ e:AH,e[H1.length]?=some (.list (two.rows.map AQ.av))->e[H1.length+1]?=some (.list (ps.map Ae.av))->Wj e L two ps (Bx two (.ref H1.length)) (.ref (H1.length+1)) o)->WS (Zqm (AF tbl (n+8)) l H1) (fun _ A=>Q .none A) (fun v A=>Q v A):=by
  intro o l R U V S J X z;unfold Zqm;refine Ar (B4 (BY U (BY V (BY S (BY J (Af (BW (Af (B4 (Ay S (Zyb u (Af (EP (Ax J (Zx9 .lst (by rw[aK];exact al h (Al rfl)) (An (Ay X ?_)))))))))))))))));rw[Le];refine F4 (Z3b H1 (.list (two.rows.map AQ.av)) (.list (ps.map Ae.av))) fun e E g G I=>Ac E ?_;clear E;exact Zx8 (x.kp I (by simp) (by simp) (by simp)) u R (R1 x.lt g G (HI (al u.r16 (Al rfl))) (HI (al h (Al rfl)))) (fun _ _=>z e g G) fun B y r Y kp=>q B y r Y ((K.more (T:=[j,k,i]) (by simp)).via (I.fresh (bB _) (cJ _) kp) fun a N _=>N)
 unfold Zqn;refine Ag (AD (EL (BX (Af (G3 (AZ (B4 (Af (C0 HW rfl x.tb (Ay (v:=.lst (ps.map Ae.av)) rfl (R0 w.ok.run (Zys C t) (Cn (An (KR ?_))))))))))))))
 cases D:ps.all (Ae.fitB L.run) with
 | true=>exact OB.of (v:=.int 0) (by kernel_rfl) (go 0 _ (Al rfl) rfl rfl rfl rfl rfl fun e g G=>⟨⟨h,t.nd,fun p F=>(t.ok p F).fit (aI.mp D p F)⟩,_,_,rfl,.ref g,rfl,G⟩)
 | false=>exact OB.of (v:=.int 2) (by kernel_rfl) (go 2 _ (Al rfl) rfl rfl rfl rfl rfl fun e g G=>⟨_,rfl,.ref g,Zyr C w.ok.run u t D (.ref g) G⟩)
theorem Dh{i:Nat}{l:List AV}(h:H[i]?=some (.list l)):I1 H (.ref i)=true:=by
 unfold I1;simp only[h]
theorem Hi{y:Nat}{l l':List AV}{f:List AV->Option (List AV)}(h:H[y]?=some (.list l))(e:f l=some l'){Q:AH->Prop}(q:Q (H.set y (.list l'))):OB (BO H (.ref y) f) Q:=by
 refine⟨_,?_,q⟩;unfold BO;simp only[h,e];rfl
section
variable {H:AH}{j k i x y:Nat}{b0 m0:Int}{hd:AV}{lx ly:List AV}(h:Hd H j k i x y b0 m0 hd lx ly)
include h
theorem Hd.setx{l:List AV}(b:l.length<=1000):Hd (H.set x (.list l)) j k i x y b0 m0 hd l ly:=by
 have K:Kp H (H.set x (.list l)) [x]:=Kp.set (CS);have n:=h.ny;simp only[aU,bf,or_false,not_or] at n;exact⟨h.at_.kp K fun a e s=>h.own a e (by obtain rfl:=aJ.mp s;simp),h.own,Bz (Bm h.hx),K.at h.hy (by simp;exact n.2.2.2),b,h.ly,h.nx,h.ny⟩
theorem Hd.sety{l:List AV}(b:l.length<=1000):Hd (H.set y (.list l)) j k i x y b0 m0 hd lx l:=by
 have K:Kp H (H.set y (.list l)) [y]:=Kp.set (CS);have nx:=h.nx;simp only[aU,bf,or_false,not_or] at nx;exact⟨h.at_.kp K fun a e s=>h.own a e (by obtain rfl:=aJ.mp s;simp),h.own,K.at h.hx (by simp;exact nx.2.2.2),Bz (Bm h.hy),h.lx,b,h.nx,h.ny⟩
theorem Hd.mwx{m b:Nat}{L:B6}{f:Option (Ao×List Ae)}(w:MW H j k i m b L f)(o:AO):MW (H.set x o) j k i m b L f:=by
 have nx:=h.nx;simp only[aU,bf,or_false,not_or] at nx;exact w.kp (Kp.set (CS)) (by simp;exact ct nx.1) (by simp;exact ct nx.2.1) (by simp;exact ct nx.2.2.1)
theorem Hd.mwy{m b:Nat}{L:B6}{f:Option (Ao×List Ae)}(w:MW H j k i m b L f)(o:AO):MW (H.set y o) j k i m b L f:=by
 have n:=h.ny;simp only[aU,bf,or_false,not_or] at n;exact w.kp (Kp.set (CS)) (by simp;exact ct n.1) (by simp;exact ct n.2.1) (by simp;exact ct n.2.2.1)
end
theorem M5{n:Nat}{j k i m b x y:Nat}{L:B6}{f:Option (Ao×List Ae)}(w:MW H j k i (m+1) b L f){two:Ao}(c:two.Ok){ps:List Ae}(p:Eb L.run two ps){d:AV}(h:Hd H j k i x y two.boxes two.most d (two.rows.map AQ.av) (ps.map Ae.av))(q:∀ B l a,MW a j k i m B l f->Kp H a [j,k,i,x,y]->Q (.bool true) a):W (AF tbl (n+8) 34 [.inst cL j,.ref i,two.av,.lst (ps.map Ae.av),d,.int 0] H) Q:=Zx8 (odd:=0) w c (Al rfl) h (fun _ _=>⟨p,.ref x,y,rfl,.ref h.hx,rfl,h.hy⟩) q
theorem R2{a b:Int}{r r':List gV}(h:a≠b):ce (.tuple (.int a::r)) (.tuple (.int b::r'))=false:=by
 have e:ce (.int a) (.int b)=false:=by rw[Zhn];exact decide_eq_false h
 show (ce (.int a) (.int b)&&PyData.eqvAll r r')=false;refine Ac e ?_;rfl
theorem R3{v:AV}(h:Cw 12 v=true):∃ d,data [] 12 v=some d/\bx d=true:=by
 refine Bu (Sj (H:=[]) 12 v h) fun d a b c=>⟨d,a,?_⟩;unfold bx;refine Ac b ?_;simp;exact al (by assumption) (Al rfl)
theorem M6{p:Ae}(h:Cw 12 p.av=true):∃ r,data [] 12 p.av=some (.tuple (.int p.row::r))/\bx (.tuple (.int p.row::r))=true:=by
 refine Ah (R3 h) fun d e s=>?_;have E:(([AV.int p.row,.int p.other,.tup (p.rules.map Bh.av)]:List AV).mapM (data [] 11)).map e5=some d:=e;refine Ah (aY.mp E) fun D H a=>B2 (Zbt H) fun y Y g b G=>?_;obtain rfl:PyData.int p.row=y:=inj g;subst G a;exact⟨Y,e,s⟩
theorem R4{x p:Ae}(a:Cw 12 x.av=true)(H:Cw 12 p.av=true)(h:x.row≠p.row):D3 [] x.av p.av=some false:=by
 refine Ah (M6 a) fun r e s=>Ah (M6 H) fun R E S=>?_;unfold D3;refine Ac e (Ac E ?_);show (if (bx _&&bx _)=true then some _ else none)=_;refine Ac s (Ac S (Ac (R2 h) ?_));rfl
theorem R5{p:Ae}(H:Cw 12 p.av=true){tl dn:List Ae}:(∀ x∈dn,x.row≠p.row/\Cw 12 x.av=true)->I3 p.av ((dn++p::tl).map Ae.av)=some ((dn++tl).map Ae.av):=by
 induction dn with
 | nil =>
  intro _;show (D3 [] p.av p.av).bind _=_;exact Ac (Zi0 H rfl) rfl
 | cons x dn i =>
  intro h;show (D3 [] x.av p.av).bind _=_;exact Ac (R4 (h x (aN ..)).2 H (h x (aN ..)).1) (congrArg (gr (x.av::·)) (i fun y a=>h y (aT _ a)))
noncomputable def mz(two:Ao)(r:Int):Ae:=⟨r,(two.rows.length:Int)-1,aS two.boxes.toNat (.is (some 0))⟩
noncomputable def F2:AV:=.tup [.str "is",.int 0]
theorem Zyv{v:AV}{k:Nat}:(aS k [v]).flatten=aS k v:=by
 induction k with
 | zero=>rfl
 | succ k i=>refine Ac ef (Ac fH (Ac i ?_));rfl
theorem Wm{one two:Ao}(H:two.Ok){R:Int}(h:0<=R/\R<one.rows.length):(mz two R).Ok one two:=by
 have c:=H.r1;have b:=H.b0;refine⟨h.1,h.2,?_,?_,?_,fun r a=>?_⟩
 .show 0<=(two.rows.length:Int)-1;exact Iq c
 .show (two.rows.length:Int)-1<two.rows.length;exact Uc
 .show ((aS two.boxes.toNat (Bh.is (some 0))).length:Int)=_;exact Ac fX (LJ b)
 .refine Ac (iP a) ?_;intro i e;obtain rfl:=inj e;exact⟨dE _,aO (Al rfl) H.m1⟩
theorem Zyw{one two:Ao}(c:one.Ok){ps:List Ae}(n:(ps.map Ae.row).Nodup)(o:∀ p∈ps,p.Ok one two):ps.length<=16:=by
 have r:=c.r16
 have:=Hg one.rows.length (ps.map fun p=>p.row.toNat) (ln.mpr ((ln.mp n).imp_of_mem fun {a b} d f h e=>by
  exact h (zti (o a d).r0 (o b f).r0 e))) fun x g=>by
   refine Ah (a7.mp g) fun p H E=>?_;subst E;exact JS (o p H).r0 (o p H).r1
 rw[aK] at this;exact Uu r this
noncomputable def C7(r:Int)(p:Ae):Bool:=!decide (p.row=r)
theorem Zyx{one two:Ao}(c:one.Ok)(d:two.Ok){ps:List Ae}(h:Eb one two ps){r:Int}(i:0<=r/\r<one.rows.length):Eb one two (ps.filter (C7 r)++[mz two r]):=by
 have o:∀ p∈ps.filter (C7 r)++[mz two r],p.Ok one two:=fun p H=>by
  rcases bl.mp H with H|H
  .exact h.ok p (fy.mp H).1
  .refine Ac (aJ.mp H) ?_;exact Wm d i
 have n:((ps.filter (C7 r)++[mz two r]).map Ae.row).Nodup:=by
  refine Ac cw (cK.mpr ⟨kK (List.filter_sublist.map _) h.nd,by simp,fun a f b g e=>?_⟩);refine Ah (a7.mp f) fun p H E=>?_;subst E;obtain rfl:b=r:=aJ.mp g;have:(!decide (p.row=b))=true:=(fy.mp H).2;rw[e] at this;simp at this
 exact⟨Zyw c n o,n,o⟩
theorem Zyy{n:Nat}{j k i m b x y:Nat}{L:B6}{f:Option (Ao×List Ae)}(w:MW H j k i (m+1) b L f){two:Ao}(A:two.Ok){ps:List Ae}(V:Eb L.run two ps){o:AV}(h:Hd H j k i x y two.boxes two.most o (two.rows.map AQ.av) (ps.map Ae.av)){t:St}(Y:L.now=some t)(q:∀ M J a,MW a j k i m M J f->Kp H a [j,k,i,x,y]->Q (.bool true) a):W (AF tbl (n+9) 36 [.inst cL j,.ref i,two.av,o] H) Q:=by
 refine AB (f:=⟨4,false,Zqv⟩) rfl (BZ rfl ?_);unfold Zqv;have s:=V.len;have b0:=A.b0;have b3:=A.b3;have X:=A.r16;have Z:∀ p∈ps,Cw 12 p.av=true:=fun p R=>Qw _ (Al rfl) (Ae.pln_of (V.ok p R) w.ok.run A);have hyl:=(Bm h.hy);refine Ag (AD (Bp (C0 FT rfl w.tb (Ak (OB.of (v:=.int t.1) (by rw[Y];rfl) ?_)))));unfold Zqu;refine Ag (CX (BX (Af (B5 (v:=o) rfl (B8 h.at_ (v:=.ref y) rfl (An (El (.ref h.hy) h.ly (OB.of rfl ?_))))))));refine Qv (fun r u a=>(u 0=some (.inst cL j)/\u 1=some (.ref i)/\u 2=some two.av/\u 3=some o/\u 4=some (.int t.1))/\∃ d:List Ae,ps=d++r/\a=H.set y (.list ((d.filter (C7 t.1)++r).map Ae.av))) (fun p r u a N=>?_) (fun u a N=>?_) ⟨⟨rfl,rfl,rfl,rfl,rfl⟩,[],rfl,(FU h.hy).symm⟩
 .obtain⟨⟨G,I,B,S,D⟩,d,e,rfl⟩:=N;have R:p∈ps:=by rw[e];simp
  have O:(d.filter (C7 t.1)++p::r).length<=1000:=by
   refine Ac bH (al (ba (fW (C7 t.1) d) _) ?_);exact BE bH (BE (congrArg eX e) (al s (Al rfl)))
  have c:=h.sety (l:=(d.filter (C7 t.1)++p::r).map Ae.av) (by rw[aK];exact O);unfold Zqr;refine AK (AU (B5 (v:=p.av) rfl (OB.of (v:=.int p.row) rfl (Ax (v:=.int t.1) D (BG (BV (fun F=>?_) (fun F=>A9 ?_)))))))
  .refine Bt (DG (B5 (v:=o) S (B8 c.at_ (v:=.ref y) rfl ⟨Dh c.hy,Ay (v:=p.av) rfl (Hi (l':=(d.filter (C7 t.1)++r).map Ae.av) c.hy ?_ ?_)⟩)))
   .show (if _<=1000000 then I3 p.av _ else none)=_;rw[if_pos (al c.ly (Al rfl)),R5 (Z p R) fun z hz=>?_];refine AX (fy.mp hz) fun T U=>⟨fun e2=>?_,Z z (by rw[e];exact bD _ T)⟩;have:(!decide (z.row=t.1))=true:=U;rw[e2,F] at this;simp at this
   .rw[eC];refine⟨⟨G,I,B,S,D⟩,d++[p],by rw[e,cu];rfl,?_⟩;have:C7 t.1 p=false:=by show (!decide _)=false;rw[decide_eq_true F];rfl
    rw[kL,i8 (by rw[this];decide),lZ,bS]
  .refine⟨⟨G,I,B,S,D⟩,d++[p],by rw[e,cu];rfl,?_⟩;have:C7 t.1 p=true:=by show (!decide _)=true;rw[decide_eq_false F];rfl
   rw[kL,i9 this,lZ,cu];rfl
 .obtain⟨⟨G,I,B,S,D⟩,d,e,rfl⟩:=N;rw[bS] at e;subst e;rw[bS];have O:(ps.filter (C7 t.1)).length<=16:=al (fW ..) s;have c:=h.sety (l:=(ps.filter (C7 t.1)).map Ae.av) (by rw[aK];exact al O (Al rfl));unfold Zqt;refine Ag (Bt (DG (B5 (v:=o) S (B8 c.at_ (v:=.ref y) rfl ⟨Dh c.hy,Af (AP (BY (v:=.int t.1) D (Af (Br (BX (Af (B5 (v:=two.av) B (OB.of (v:=.lst (two.rows.map AQ.av)) rfl (An (V0 (al X (Al rfl)) (Ak (EN (Af ?_)))))))))))))⟩))));refine BX (Af (Br (BW (Af (AP (CA (AI (An (B5 (v:=two.av) B (OB.of (v:=.int two.boxes) rfl (IX ⟨by simp;exact aO (by assumption) (Al rfl),by exact LK b0 b3,by exact aO (by assumption) (Al rfl)⟩ (An ?_))))))))))));rw[Zyv];refine Zih (l:=aS two.boxes.toNat F2) (by simp;exact aO (by assumption) (Al rfl)) (An (An (Hi (l':=(ps.filter (C7 t.1)++[mz two t.1]).map Ae.av) c.hy ?_ ?_)))
  .show (if _<=1048576 then some _ else none)=_;rw[if_pos (al c.ly (Al rfl)),cw];show some _=some (_++[AV.tup [.int t.1,.int ((two.rows.length:Int)-1),.tup ((aS two.boxes.toNat (Bh.is (some 0))).map Bh.av)]]);rw[hU];rfl
  rw[eC];have P:=Zyx w.ok.run A V (w.ok.now t Y).1;have C:((ps.filter (C7 t.1)++[mz two t.1]).map Ae.av).length<=1000:=by rw[aK];exact al P.len (Al rfl)
  have g:=h.sety C;have E:=h.mwy w (.list ((ps.filter (C7 t.1)++[mz two t.1]).map Ae.av));have K:Kp H (H.set y (.list ((ps.filter (C7 t.1)++[mz two t.1]).map Ae.av))) [j,k,i,x,y]:=Kp.set (by simp);generalize H.set y (.list ((ps.filter (C7 t.1)++[mz two t.1]).map Ae.av))=H2 at g E K ⊢;unfold Zqs;exact Ar (B4 (BY G (BY I (BY B (Af (BX (Af (B5 (v:=o) S (B8 g.at_ (v:=.ref y) rfl (An (El (.ref g.hy) C (H0 (v:=o) S (M5 E A P g fun M J a w' kp=>q M J a w' (K.trans kp))))))))))))))
theorem Zyz{v:AV}{l:List AV}(h:Cw 12 (.lst (v::l))=true):D3 H (.lst (v::l)) (.lst [])=some false:=by
 obtain⟨b,e,d⟩:=Zxm (H:=H) (Q:=fun b=>b=true) h rfl;subst d;have e:(D3 H (.lst (v::l)) (.lst [])).map (!·)=some true:=e
 cases a:D3 H (.lst (v::l)) (.lst []) with
 | none=>rw[a] at e;injection e
 | some c =>
  rw[a] at e;have e:=inj e
  cases c with
  | true=>injection e
  | false=>rfl
theorem Zy0{x:Nat}{l:List AV}(h:H[x]?=some (.list l))(p:Cw 12 (.lst l)=true){Q:Bool->Prop}(q:Q l.isEmpty):OB (Bl H .eq (.ref x) (.lst [])) Q:=by
 refine⟨_,?_,q⟩
 have e:D3 H (.ref x) (.lst [])=D3 H (.lst l) (.lst []):=by
  unfold D3;exact Ac (Zi3 h) rfl
 show D3 H (.ref x) (.lst [])=_;refine Ac e ?_
 cases l with
 | nil=>exact Zi0 (by rfl) rfl
 | cons v l=>exact Zyz p
theorem Zy1{l:List AV}{v:AV}(h:l.length<=900):HL (l++[v])=some (v,l):=by
 unfold HL;refine Ac (if_pos (by rw[bH];exact al (ba h 1) (Al rfl))) (Ac (List.getLast?_concat) (Ac List.dropLast_concat ?_));rfl
def R6(two:Ao)(ps:List Ae)(l L:List AV):Prop:=(l=[]/\L=ps.map Ae.av)\/(∃ v,l=two.rows.map AQ.av++[v]/\Cw 11 v=true/\L=ps.map Ae.av)\/∃ v,l=two.rows.map AQ.av/\L=ps.map Ae.av++[v]
theorem Zy2{n:Nat}{j k i m b x y:Nat}{L:B6}{f:Option (Ao×List Ae)}(w:MW H j k i (m+1) b L f){two:Ao}(D:two.Ok){ps:List Ae}(J:Eb L.run two ps){d:AV}{o I:List AV}(h:Hd H j k i x y two.boxes two.most d o I)(G:R6 two ps o I)(q:∀ C A p,MW p j k i m C A f->Kp H p [j,k,i,x,y]->Q (.bool true) p):W (AF tbl (n+9) 37 [.inst cL j,.ref i,two.av,.lst (ps.map Ae.av),d] H) Q:=by
 refine AB (f:=⟨5,false,Zqy⟩) rfl (BZ rfl ?_);unfold Zqy;have M:=D.r1;have T:=D.r16;have t:=J.len;have R:(two.rows.map AQ.av).length<=16:=by rw[aK];exact T
 have P:(ps.map Ae.av).length<=16:=by rw[aK];exact t
 have U:Cw 12 (.lst o)=true:=by
  have z:∀ v∈two.rows.map AQ.av,Cw 11 v=true:=fun v c=>by
   refine Ah (a7.mp c) fun r _ E=>?_;subst E;exact r.pln_of (Al rfl)
  refine Ml h.lx fun v c=>?_
  rcases G with ⟨rfl,_⟩|⟨u,rfl,O,_⟩|⟨u,rfl,_⟩
  .nomatch c
  .rcases bl.mp c with c|c
   .exact z v c
   .refine Ac (aJ.mp c) ?_;exact O
  .exact z v c
 have F:∀ (g:AW) (s:AH),g 0=some (.inst cL j)->g 1=some (.ref i)->g 2=some two.av->g 3=some (.lst (ps.map Ae.av))->g 4=some d->MW s j k i (m+1) b L f->Hd s j k i x y two.boxes two.most d (two.rows.map AQ.av) (ps.map Ae.av)->Kp H s [j,k,i,x,y]->WS (Zqx (AF tbl (n+8)) g s) (fun _ B=>Q .none B) (fun v B=>Q v B):=by
  intro g s V X Y Z s4 w1 N S;unfold Zqx;exact Ar (B4 (BY V (BY X (BY Y (BY Z (H0 s4 (M5 w1 D J N fun C A p w' kp=>q C A p w' (S.trans kp))))))))
 refine Ag (AK (AU (Bp (B5 (v:=d) rfl (B8 h.at_ (v:=.tup [.int two.boxes,.int two.most,.ref x]) rfl (Ak (OB.of (v:=.ref x) rfl (BW (An (Zy0 h.hx U ?_))))))))));have K:o=[]\/o.isEmpty=false:=by cases o<;>simp
 rcases G with ⟨rfl,rfl⟩|⟨v,rfl,_,rfl⟩|⟨v,rfl,rfl⟩
 .refine AA (Bt (DG (Bp (B5 (v:=d) rfl (B8 h.at_ (v:=.tup [.int two.boxes,.int two.most,.ref x]) rfl (Ak (OB.of (v:=.ref x) rfl ⟨Dh h.hx,Af (B5 (v:=two.av) rfl (OB.of (v:=.lst (two.rows.map AQ.av)) rfl (An (Hi (l':=two.rows.map AQ.av) h.hx ?_ ?_))))⟩)))))))
  .show (if _<=1000000 then some _ else none)=_;refine Ac (if_pos (by show 0+(two.rows.map AQ.av).length<=_;exact TJ R)) ?_;rfl
  .exact F _ _ rfl rfl rfl rfl rfl (h.mwx w _) (h.setx (al R (Al rfl))) (Kp.set (by simp))
 .have e:(two.rows.map AQ.av++[v]).isEmpty=false:=by simp
  refine Ac e (A8 (AK (AU (BX (Af (Bp (B5 (v:=d) rfl (B8 h.at_ (v:=.tup [.int two.boxes,.int two.most,.ref x]) rfl (Ak (OB.of (v:=.ref x) rfl (An (DJ (.ref h.hx) h.lx (BX (Af (B5 (v:=two.av) rfl (OB.of (v:=.lst (two.rows.map AQ.av)) rfl (An (Zjh (al R (Al rfl)) (OB.of (v:=decide (((two.rows.map AQ.av++[v]).length:Int)>((two.rows.map AQ.av).length:Int))) rfl ?_)))))))))))))))))));refine Ac (decide_eq_true (by simp only[bH,ej,lW];exact TU)) (AA (Bt (Sv (Bp (B5 (v:=d) rfl (B8 h.at_ (v:=.tup [.int two.boxes,.int two.most,.ref x]) rfl (Ak (OB.of (v:=.ref x) rfl ⟨x,_,_,rfl,h.hx,Zy1 (al R (Al rfl)),?_⟩))))))));exact F _ _ rfl rfl rfl rfl rfl (h.mwx w _) (h.setx (al R (Al rfl))) (Kp.set (by simp))
 .have e:(two.rows.map AQ.av).isEmpty=false:=by
   cases z:two.rows with
   | nil=>rw[z] at M;exact absurd M (Al rfl)
   | cons a l=>rfl
  refine Ac e (A8 (AK (AU (BX (Af (Bp (B5 (v:=d) rfl (B8 h.at_ (v:=.tup [.int two.boxes,.int two.most,.ref x]) rfl (Ak (OB.of (v:=.ref x) rfl (An (DJ (.ref h.hx) h.lx (BX (Af (B5 (v:=two.av) rfl (OB.of (v:=.lst (two.rows.map AQ.av)) rfl (An (Zjh (al R (Al rfl)) (OB.of (v:=decide (((two.rows.map AQ.av).length:Int)>((two.rows.map AQ.av).length:Int))) rfl ?_)))))))))))))))))));refine Ac (decide_eq_false (by simp)) (A8 (Bt (Sv (B5 (v:=d) rfl (B8 h.at_ (v:=.ref y) rfl ⟨y,_,_,rfl,h.hy,Zy1 (al P (Al rfl)),?_⟩)))));exact F _ _ rfl rfl rfl rfl rfl (h.mwy w _) (h.sety (al P (Al rfl))) (Kp.set (by simp))
section
variable {σ:AW}{H:AH}{Φ:As}{a b d:DE}{ds:List DE}{v:AV}{vs l k:List AV}
theorem EZ(e:d σ H=.ok v H)(q:Q v H):W (d σ H) Q:=⟨v,H,e,q⟩
theorem C1:AL [] σ H=.ok [] H:=rfl
theorem CY(e:d σ H=.ok v H)(r:AL ds σ H=.ok V H):AL (d::ds) σ H=.ok (v::V) H:=by
 show ((d σ H).bind fun v A=>(AL ds σ A).bind fun V a=>.ok (v::V) a)=_;refine Ac e ?_;show ((AL ds σ H).bind fun V a=>.ok (v::V) a)=_;refine Ac r ?_;rfl
theorem Lf(h:AL ds σ H=.ok vs H):B3 ds σ H=.ok (.lst vs) H:=by
 show ((AL ds σ H).bind _)=_;refine Ac h ?_;rfl
theorem G6(h:AL ds σ H=.ok vs H):Az ds σ H=.ok (.tup vs) H:=by
 show ((AL ds σ H).bind _)=_;refine Ac h ?_;rfl
theorem v1{f:AV->Option AV}(h:a σ H=.ok v H){n:BI}(e:BK H n [v]=f v){u:AV}(g:f v=some u):Cz Φ (Am (.bi n)) [a] σ H=.ok u H:=by
 show ((AL [a] σ H).bind fun V A=>DZ A (BK A n V))=_;refine Ac (CY h C1) ?_;show DZ H (BK H n [v])=_;refine Ac e (Ac g ?_);rfl
theorem Wn{X:Type}{f:X->AV}{r:List X}(h:a σ H=.ok (.lst (r.map f)) H)(l:r.length<=1000000):Cz Φ (Am (.bi .len)) [a] σ H=.ok (.int r.length) H :=
 v1 (f:=Gm H) h rfl (by
  show (if (r.map f).length<=1048576 then some (AV.int (r.map f).length) else none)=_
  (rewrite [aK];exact Ac (if_pos (al l (Al rfl))) rfl))
theorem M7(h:a σ H=.ok (.tup l) H)(b:l.length<=1000000):Cz Φ (Am (.bi .list)) [a] σ H=.ok (.lst l) H :=
 v1 (f:=Ec H) h rfl (if_pos (al b (Al rfl)))
theorem v2{op:Gh}{x y u:AV}(h:a σ H=.ok x H)(hb:b σ H=.ok y H)(e:BN H op x y=some u):Ap op a b σ H=.ok u H:=by
 show ((a σ H).bind fun x c=>(b σ c).bind fun y A=>DZ A (BN A op x y))=_;refine Ac h ?_;show ((b σ H).bind fun y A=>DZ A (BN A op x y))=_;refine Ac hb ?_;show DZ H (BN H op x y)=_;refine Ac e ?_;rfl
theorem Lg(h:a σ H=.ok (.tup l) H)(hb:b σ H=.ok (.tup k) H)(c:l.length+k.length<=1000000):Ap .add a b σ H=.ok (.tup (l++k)) H:=v2 h hb (if_pos (al c (Al rfl)))
theorem M8(h:a σ H=.ok (.lst l) H)(hb:b σ H=.ok (.lst k) H)(c:l.length+k.length<=1000000):Ap .add a b σ H=.ok (.lst (l++k)) H:=v2 h hb (if_pos (al c (Al rfl)))
theorem Wo(b:a σ H=.ok (.tup l) H)(c:l.length<=1000000):HQ a (some (Am (.int 1))) none σ H=.ok (.tup (cut l (some 1) none)) H:=by
 obtain⟨u,h,e,q⟩:=EO (Q:=fun v h=>v=.tup (cut l (some 1) none)/\h=H) (EZ b (Dv (Ak ⟨1,rfl,Ei (Zi5 rfl c ⟨rfl,rfl⟩)⟩)));exact Ac e (Ac q.1 (Ac q.2 rfl))
end
def Hj(one two:Ao)(v:AV):Prop:=∀ (n:Nat) (r:AV) (H:AH) (Q:AV->AH->Prop),BA H (two.rows.map AQ.av) r->Q (.bool false) H->W (AF tbl (n+4) 9 [one.av,Bx two r,v] H) Q
def E3(one two:Ao)(ps:List Ae)(v:AV):Prop:=Hj one two v\/∃ q:Ae,v=q.av/\q.Ok one two/\∃ p∈ps,p.row=q.row
theorem E3.l{one two:Ao}{ps:List Ae}{v:AV}(h:E3 one two ps v){r:AV}(a:BA H (two.rows.map AQ.av) r):VZ (two:=two) one (Bx two r) ps H v:=h.imp (fun h n X Q q=>h n r _ Q (a.more X) q) id
theorem G7{one two:Ao}{v:AV}(e:∀ c a b H,EX (JU c (lσ a b v) H)=some (.bool false,H)):Hj one two v:=fun n r H Q _ q=>AB (f:=⟨3,true,JU⟩) rfl (B1 rfl (EY (v:=.bool false) (H:=H) (e _ one.av (Bx two r) H) (CM rfl q)))
section
variable {one two:Ao}(h1:one.Ok)(h2:two.Ok)
theorem M9{x y:AV}{l:List AV}(h:∀ (n:Nat) (r:AV) (H:AH) (N:AW->AH->Prop) (R:AV->AH->Prop),BA H (two.rows.map AQ.av) r->R (.bool false) H->WS (VH (AF tbl (n+3)) (lσ one.av (Bx two r) (.tup [x,y,.tup l])) H) N R):Hj one two (.tup [x,y,.tup l]):=fun n r H Q a q=>by
 refine AB (f:=⟨3,true,JU⟩) rfl (B1 rfl ?_);refine (?_:WS (JU (AF tbl (n+3)) (lσ one.av (Bx two r) (.tup [x,y,.tup l])) H) _ _);exact Ac Jr (h n r H _ _ a (CM rfl q))
include h1 h2
theorem Lh{x y:AV}{l:List AV}(d:DW x=true)(f:DW y=true)(b:C5 0 ((one.rows.length:Int)-1) x=false\/C5 0 ((two.rows.length:Int)-1) y=false):Hj one two (.tup [x,y,.tup l]):=M9 fun n r H N R c q=>by
 refine Lb h1 h2 c d f rfl rfl (fun _=>q) (fun h=>?_);refine AX (aL.mp h) fun E a=>?_
 rcases b with e|e
 .rw[e] at E;injection E
 .rw[e] at a;injection a
theorem Wp{l:List AV}(h:∀ (n:Nat) (r:AV) (H:AH) (N:AW->AH->Prop) (R:AV->AH->Prop),R (.bool false) H->WS (QO (AF tbl (n+3)) (lσ one.av (Bx two r) (.tup [.int 0,.int 0,.tup l])) H) N R):Hj one two (.tup [.int 0,.int 0,.tup l]):=M9 fun n r H N R a q=>by
 have b:=h1.r1;have t:=h2.r1;exact Lb h1 h2 a rfl rfl (Fz ⟨dE _,by exact Iq b⟩) (Fz ⟨dE _,by exact Iq t⟩) (fun e=>nomatch e) (fun _=>h n r H N R q)
theorem R7{l:List AV}(h:l.length<=1000)(a:(l.length:Int)≠two.boxes):Hj one two (.tup [.int 0,.int 0,.tup l]):=Wp h1 h2 fun n r H N R q=>by
 unfold QO;refine Ar (D7 (Ci (BX (Af (B5 (v:=.tup [.int 0,.int 0,.tup l]) rfl (OB.of (v:=.tup l) rfl (An (Vz (al h (Al rfl)) (B5 (v:=Bx two r) rfl (OB.of (v:=.int two.boxes) rfl (BG (Cn ?_))))))))))));exact Ac (decide_eq_false a) (A8 q)
theorem Wq{k:Nat}(a:(k:Int)+1=two.boxes){bad:AV}(hb:∀ (n:Nat) (r:AV) (H:AH) (Q:AV->AH->Prop),Q (.bool false) H->W (AF tbl (n+3) 8 [one.av,Bx two r,bad] H) Q):Hj one two (.tup [.int 0,.int 0,.tup (aS k F2++[bad])]):=Wp h1 h2 fun n r H N R q=>by
 have b:=h2.b3;have h:(aS k F2++[bad]).length=k+1:=by simp
 have E:((aS k true++[false]).map fun c:Bool=>if c=true then F2 else bad)=aS k F2++[bad]:=by
  refine Ac cw (Ac hU ?_);rfl
 unfold QO;refine Ar (D7 (Ci (BX (Af (B5 (v:=.tup [.int 0,.int 0,.tup (aS k F2++[bad])]) rfl (OB.of (v:=.tup (aS k F2++[bad])) rfl (An (Vz (Tc a b h) (B5 (v:=Bx two r) rfl (OB.of (v:=.int two.boxes) rfl (BG (Cn ?_))))))))))));refine Ac h (Ac (decide_eq_true (by assumption)) ?_);refine AA (BX (Af (KS (f:=fun c:Bool=>if c=true then F2 else bad) (P:=fun c x=>x=.bool c) (B5 (v:=.tup [.int 0,.int 0,.tup (aS k F2++[bad])]) rfl (OB.of (v:=.tup (aS k F2++[bad])) rfl ⟨aS k true++[false],by refine Ac E ?_;rfl,by simp;exact L3 a b h,?_,?_⟩)))))
 .intro c _ d
  cases c with
  | false=>exact B4 (BY (v:=one.av) rfl (Dy (v:=Bx two r) rfl (u:=bad) rfl (hb n r d _ ⟨rfl,rfl,rfl⟩)))
  | true =>
   refine B4 (BY (v:=one.av) rfl (Dy (v:=Bx two r) rfl (u:=(Bh.is (some 0)).av) rfl (Zwb h1 (two:=two) ?_ ⟨rfl,rfl,rfl⟩)));intro i e;obtain rfl:=inj e;exact⟨dE _,aO (Al rfl) h2.m1⟩
 .intro y g;refine An (Zyk (p:=fun c:Bool=>c) g ?_);have e:((aS k true++[false]).all fun c:Bool=>c)=false:=by simp
  exact Ac e q
omit h1 h2 in
theorem Zy4{n:Nat}{i:Int}(h:two.most<i){r:AV}(q:Q (.bool false) H):W (AF tbl (n+3) 8 [one.av,Bx two r,.tup [.str "is",.int i]] H) Q:=by
 refine AB (f:=⟨3,true,Ij⟩) rfl (B1 rfl ?_);refine (?_:WS (Ij (AF tbl (n+2)) (lσ one.av (Bx two r) (.tup [.str "is",.int i])) H) _ _);refine Ac Mx (Ag (Ar (B4 (CA (AI (AB (f:=⟨2,true,VF⟩) rfl (B1 rfl ?_)))))));unfold VF
 (repeat' (first|refine AA ?_|refine A8 ?_|refine HV rfl (Dg (.inr h)) ?_|refine Ar ?_|fail))
 exact⟨Vw H,_,KQ _ (.bool false) rfl,CM rfl q⟩
omit h2 in
theorem Zy5{n:Nat}{r:AV}(q:Q (.bool false) H):W (AF tbl (n+3) 8 [one.av,Bx two r,.tup [.str "by",.int 0,.tup []]] H) Q:=by
 refine AB (f:=⟨3,true,Ij⟩) rfl (B1 rfl ?_);have m:=h1.m1;have f:=CM (H:=H) (v:=.bool false) rfl q;refine (?_:WS (Ij (AF tbl (n+2)) (lσ (.tup [.int one.boxes,.int one.most,.lst (one.rows.map AQ.av)]) (Bx two r) (.tup [.str "by",.int 0,.tup []])) H) _ _);refine Ac Js (Ag (AK (B0 (AZ (B4 (CA (CA (AI (HV rfl rfl (Cn ?_))))))))))
 cases C5 0 (one.boxes-1) (.int 0) with
 | false=>exact AA (Ar (Ak f))
 | true =>
  refine A8 (A9 ?_);unfold VG
  (repeat' (first|refine AA ?_|refine A8 ?_|exact f|refine Ag ?_|refine AK ?_|refine Ar ?_|refine A9 ?_|with_reducible refine AI ?_|refine Ba (by trivial) ?_|refine Br ?_|refine Ak ?_|refine BX ?_|refine Af ?_|refine An ?_|refine AU ?_|refine AZ ?_|refine B0 ?_|refine CH ?_|refine Bn ?_|refine Eh ?_|refine Qt (fun _=>?_) (fun _=>?_)|refine Cn ?_|refine OB.of (by rfl) ?_|fail))
  rename_i h
  exfalso;simp at h;exact Ug m h
end
theorem Wr{n:Nat}{c:Int}{L:List AV}{σ:AW}(S:σ 3=some (.int c))(s:σ 5=some (.lst L))(a:1<=L.length)(h:L.length<=100)(d:∀ v∈L,R v H):WS (Zp8 (AF tbl n) σ H) N R:=by
 unfold Zp8;have m:=fm c (b:=(L.length:Int)) (U4 a h);exact Ar (Ba s (Bk S (BX (Ay s (Zjh (al h (Al rfl)) (Bq (Ua a h) (Zxk m.1 m.2 (al h (Al rfl)) d)))))))
theorem Zy6{one two:Ao}(h:two.Ok){ps:List Ae}{p:Ae}(a:p∈ps)(H:p.Ok one two):E3 one two ps (.tup ([.int p.row]++[.int 0,.tup (aS two.boxes.toNat F2)])):=by
 have b:=h.b0;have t:=h.r1;refine .inr ⟨⟨p.row,0,aS two.boxes.toNat (.is (some 0))⟩,?_,⟨H.r0,H.r1,dE _,?_,?_,?_⟩,p,a,rfl⟩
 .show AV.tup [.int p.row,.int 0,_]=AV.tup [.int p.row,.int 0,_];refine Ac hU ?_;rfl
 .show (0:Int)<(two.rows.length:Int);exact Us t
 .refine Ac fX ?_;exact LJ b
 .intro r c;refine Ac (iP c) ?_;intro i e;obtain rfl:=inj e;exact⟨dE _,aO (Al rfl) h.m1⟩
theorem Ws{n:Nat}{one two:Ao}(m:one.Ok)(e:two.Ok){ps:List Ae}(d:Eb one two ps){c:Int}{L:List AV}{σ:AW}(s:σ 2=some (.lst (ps.map Ae.av)))(S:σ 3=some (.int c))(q:σ 4=some (.tup (aS two.boxes.toNat F2)))(i:σ 5=some (.lst L))(j:1<=L.length)(l:L.length<=12)(f:∀ v∈L,E3 one two ps v)(g:∀ v,E3 one two ps v->R v H):WS (Zp9 (AF tbl n) σ H) N R:=by
 unfold Zp9
 cases ps with
 | nil=>exact Ag (AK (Cf s (BW (An ⟨false,by kernel_rfl,A8 (A9 (Wr S i j (al l (Al rfl)) fun v h=>g v (f v h)))⟩))))
 | cons p ps =>
  have P:=Qw (k:=12) _ (Al rfl) (Zxl d.len d.ok m e);refine Ag (AK (Cf s (BW (An (Zxm P (AA ?_))))));have o:=d.ok p aN;refine AD (Bk i (BW (Af (B5 s (OB.of (v:=p.av) rfl (Af (Br ?_)))))));refine EO (B5 s (OB.of (v:=p.av) rfl (Ei (Dv (Ak ⟨1,rfl,Zi5 rfl (show 3<=1000000 by decide) ?_⟩)))));refine AP (CA (Ay q ?_));refine GW (a:=[.int p.row]) (b:=[.int 0,.tup (aS two.boxes.toNat F2)]) (bb rfl) (An (Zjp (al (ba l 2) (Al rfl)) ?_));refine Wr (σ:=AM σ 5 _) S rfl (by simp) (by simp;exact al (by assumption) (Al rfl)) fun v h=>g v ?_;simp only[bl,aU,bf,or_false] at h
  rcases h with h|rfl|rfl
  .exact f v h
  .exact .inr ⟨p,rfl,o,p,aN,rfl⟩
  .exact Zy6 e aN o
theorem Z3c{n:Nat}{one two:Ao}(f:one.Ok)(b:two.Ok){ps:List Ae}(p:Eb one two ps){c:Int}{A B:List AV}{σ:AW}(l:σ 1=some two.av)(s:σ 2=some (.lst (ps.map Ae.av)))(S:σ 3=some (.int c))(i:σ 4=some (.tup (aS two.boxes.toNat F2)))(j:σ 5=some (.lst (A++B)))(h:A.length=10)(d:B.length=2)(oA:∀ v∈A,E3 one two ps v)(oB:0<two.boxes->∀ v∈B,E3 one two ps v)(g:∀ v,E3 one two ps v->R v H):WS (Zqa (AF tbl n) σ H) N R:=by
 have k:=b.b0;unfold Zqa;refine Ag (AK (AU (B5 l (OB.of (v:=.int two.boxes) rfl (Ak (BG ?_))))))
 by_cases e:two.boxes=0
 .refine Ac (decide_eq_true e) ?_;refine AA (AD (EO (Ax j (Ei (Dv (Ak ⟨10,rfl,Zi6 rfl (by simp;exact Tp h d) ?_⟩))))))
  have E:cut (A++B) none (some 10)=A:=by
   show ((A++B).take 10).drop 0=_;exact BE h (Ac List.take_left (Ac fM rfl))
  exact Ac E (Ws (σ:=AM σ 5 _) f b p s S i rfl (Tq h) (U5 h) oA g)
 .refine Ac (decide_eq_false e) ?_;refine A8 (A9 (Ws f b p s S i j (by simp;exact Tn h d) (by simp;exact To h d) ?_ g));intro v a
  rcases bl.mp a with a|a
  .exact oA v a
  .exact oB (Ip k e) v a
theorem Zy7(l:List AV):cut l (some 1) none=l.drop 1:=by
 show (l.take l.length).drop 1=_;exact Ac (cI (bB _)) rfl
theorem Zy8{n:Nat}{one two:Ao}(a:one.Ok)(h:two.Ok){ps:List Ae}(p:Eb one two ps){c:Int}(q:∀ v,E3 one two ps v->Q v H):W (AF tbl (n+1) 33 [one.av,two.av,.lst (ps.map Ae.av),.int c] H) Q:=by
 refine AB (f:=⟨4,false,Zqe⟩) rfl (BZ rfl ?_);unfold Zqe;have b:=h.b0;have B:=h.b3;have R:=a.r16;have t:=h.r16;have Z:(aS two.boxes.toNat F2).length=two.boxes.toNat:=by simp
 refine Ag (AD (BX (Af (Br (BW (Af (AP (CA (AI (An (B5 (v:=two.av) rfl (OB.of (v:=.int two.boxes) rfl (IX ⟨by simp;exact aO (by assumption) (Al rfl),by exact LK b B,by exact aO (by assumption) (Al rfl)⟩ (An ?_))))))))))))));refine Ac Zyv (Zih (l:=aS two.boxes.toNat F2) (Th b B Z) ?_);have e:cut (aS two.boxes.toNat F2) (some 1) none=aS (two.boxes.toNat-1) F2:=by (rewrite [Zy7];exact Ac List.drop_replicate rfl)
 have E:(cut (aS two.boxes.toNat F2) (some 1) none).length<=3:=by refine Ac e (Ac fX ?_);exact SB b B
 have z:(aS two.boxes.toNat F2).length<=3:=by refine Ac Z ?_;exact Lw b B
 unfold Zqd;refine Ag (AD (EZ (Lf (CY rfl (CY rfl (CY rfl (CY (G6 (CY (Wn (f:=AQ.av) rfl (al R (Al rfl))) (CY rfl (CY rfl C1)))) (CY (G6 (CY rfl (CY (Wn (f:=AQ.av) rfl (al t (Al rfl))) (CY rfl C1)))) (CY rfl C1))))))) ?_));unfold Zqc;refine Ag (AD (EZ (M8 rfl (Lf (CY (G6 (CY rfl (CY rfl (CY (M7 rfl (al z (Al rfl))) C1)))) (CY (G6 (CY rfl (CY rfl (CY (Lg rfl rfl (al (ba z 1) (Al rfl))) C1)))) (CY rfl (CY rfl C1))))) (bb rfl)) ?_));unfold Zqb;refine Ag (AD (EZ (M8 rfl (Lf (CY (G6 (CY rfl (CY rfl (CY (Lg (Wo rfl (al z (Al rfl))) rfl (al (ba E 1) (Al rfl))) C1)))) (CY (G6 (CY rfl (CY rfl (CY (Lg (Wo rfl (al z (Al rfl))) rfl (al (ba E 1) (Al rfl))) C1)))) C1))) (bb rfl)) ?_));refine Z3c a h p rfl rfl rfl rfl rfl rfl rfl ?_ ?_ q
 .refine fun v g=>(bl.mp g).elim ?_ ?_
  .exact Cj (P:=E3 one two ps) (.inl (G7 fun _ _ _ _=>by kernel_rfl)) (Cj (.inl (G7 fun _ _ _ _=>by kernel_rfl)) (Cj (.inl (G7 fun _ _ _ _=>by kernel_rfl)) (Cj (.inl (Lh a h rfl rfl (.inl (Dg (.inr (l0 _ (Al rfl))))))) (Cj (.inl (Lh a h rfl rfl (.inr (Dg (.inr (l0 _ (Al rfl))))))) (Cj (.inl (Lh a h rfl rfl (.inl (Dg (.inl (Al rfl)))))) Fw))))) v
  .exact Cj (P:=E3 one two ps) (.inl (G7 fun _ _ _ _=>by kernel_rfl)) (Cj (.inl (R7 a h (al (by refine Ac bH ?_;exact ba z 1) (Al rfl)) (by refine Ac bH (Ac Z ?_);show ((two.boxes.toNat+1:Nat):Int)≠_;exact SO b B Z z))) (Cj (.inl (Lh a h rfl rfl (.inl rfl))) (Cj (.inl (G7 fun _ _ _ _=>by kernel_rfl)) Fw))) v
 .intro d;exact Ac e (Cj (P:=E3 one two ps) (.inl (Wq a h (Ls b B Z z d) fun n r H Q q=>Zy4 (Ud) q)) (Cj (.inl (Wq a h (Ls b B Z z d) fun n r H Q q=>Zy5 a q)) Fw))
theorem Zy9{L:B6}{ps:List Ae}{odd:Nat}(H:odd<=2):(DN L ps odd=true/\BB L ps odd=.tup [])\/(DN L ps odd=false/\((BB L ps odd=DY 5\/BB L ps odd=DY 6)\/(odd≠0/\(BB L ps odd=DY 1\/BB L ps odd=DY 3))\/odd=0/\∃ t m,L.now=some t/\BB L ps odd=uw m)):=by
 unfold DN BB
 cases L.now with
 | none=>exact .inr ⟨rfl,.inl (.inr rfl)⟩
 | some t =>
  cases L.want with
  | some w=>exact .inr ⟨rfl,.inl (.inl rfl)⟩
  | none =>
   rcases Ld H with rfl|rfl|rfl
   rotate_left
   .exact .inr ⟨rfl,.inr (.inl ⟨by decide,.inl rfl⟩)⟩
   .exact .inr ⟨rfl,.inr (.inl ⟨by decide,.inr rfl⟩)⟩
   .cases h:(Bc L.run ps 2001 [] (some t)).bad with
    | true=>exact .inr ⟨by show (decide ((0:Nat)=0)&&!(Bc L.run ps 2001 [] (some t)).bad)=false;refine Ac h ?_;rfl,.inr (.inr ⟨rfl,t,_,rfl,if_pos h⟩)⟩
    | false=>exact .inl ⟨by show (decide ((0:Nat)=0)&&!(Bc L.run ps 2001 [] (some t)).bad)=true;refine Ac h ?_;rfl,by show (if (Bc L.run ps 2001 [] (some t)).bad=true then uw (Bc L.run ps 2001 [] (some t)) else AV.tup [])=_;refine Ac h ?_;rfl⟩
section
variable {Φ:As}{σ:AW}{H:AH}{v:AV}
def rpD(a:As):DS:=Ai (Av (DU (Aw .eq (Aa 9) (Aa 8)) (dF a 37 [Aa 0,Aa 1,Aa 4,Aa 5,Aa 7]))) (QQ a)
theorem Z3d:QR Φ (AM (AM σ 8 (.tup [])) 9 v) H=QQ Φ (AM (AM σ 8 (.tup [])) 9 v) H:=by kernel_rfl
theorem Z3e:QR Φ (AM (AM σ 8 (DY 5)) 9 v) H=QQ Φ (AM (AM σ 8 (DY 5)) 9 v) H:=by kernel_rfl
theorem Z3f:QR Φ (AM (AM σ 8 (DY 6)) 9 v) H=QQ Φ (AM (AM σ 8 (DY 6)) 9 v) H:=by kernel_rfl
theorem Z3g:QR Φ (AM (AM σ 8 (DY 1)) 9 v) H=rpD Φ (AM (AM σ 8 (DY 1)) 9 v) H:=by kernel_rfl
theorem Z3h:QR Φ (AM (AM σ 8 (DY 3)) 9 v) H=rpD Φ (AM (AM σ 8 (DY 3)) 9 v) H:=by kernel_rfl
end
def Z3i(H:AH)(j k i m x y:Nat)(f:Option (Ao×List Ae))(two:Ao)(ps:List Ae)(Q:AV->AH->Prop):Prop:=∀ b L F h,MW h j k i m b L F->(F=f\/F=some (two,ps))->Kp H h [j,k,i,x,y]->Q (.bool true) h
section
variable {n:Nat}{H:AH}{j k i m b x y:Nat}{L:B6}{f:Option (Ao×List Ae)}(w:MW H j k i (m+1) b L f){two:Ao}(h2:two.Ok){ps:List Ae}{odd:Nat}(ho:odd<=2){hd:AV}{lx ly:List AV}(h:Hd H j k i x y two.boxes two.most hd lx ly){σ:AW}{Q:AV->AH->Prop}(q:Z3i H j k i m x y f two ps Q)
include w h2 ho h q
theorem Zza{g:AH}(S:σ 1=some (.ref i))(m:σ 4=some two.av)(o:σ 5=some (.lst (ps.map Ae.av)))(C:σ 6=some (.int odd))(y:σ 7=some hd)(z:σ 8=some (BB L ps odd))(A:σ 9=some (BB L ps odd))(kp:Kp H g [j,k])(T:g[i]?=some (tL L (wv f)))(x:Wk g j k b L two ps odd):WS (QQ (AF tbl (n+9)) σ g) (fun _ aa=>Q .none aa) (fun v aa=>Q v aa) :=
 J0 (n:=n+7) w h2 ho h S m o y z A kp T x (fun B t r D=>q B t f r D (.inl rfl)) fun l K W F =>
  AK (KP (v:=.int odd) C (BG (BV (fun e=>Fp (p:=L.run.av) (s:=sv L.now) (a:=wv L.want) (d:=.lst (L.told.map .int)) (c:=.int L.many) (f:=wv f) (v:=wv (some (two,ps))) S Wg (AP (Dy (v:=two.av) m (u:=.lst (ps.map Ae.av)) o ⟨rfl,W.tb,F _ (q b L (some (two,ps)) _
   { W with lv:=W.lv.kp (Kp.set (CS)) (fun e=>w.ij (aJ.mp e).symm) (fun e=>w.ik (aJ.mp e).symm),tb:=Bz (Bm W.tb) } (.inr rfl) (K.trans (Kp.set (by simp))))⟩))) (fun e=>A9 (F l (q b L f l W (.inl rfl) K))))))
theorem Zzb{c:Int}(P:Eb L.run two ps)(U:Wj H L two ps (.tup [.int two.boxes,.int two.most,.ref x]) (.ref y) odd)(h0:odd=0->lx=two.rows.map AQ.av/\ly=ps.map Ae.av)(h1:odd≠0->R6 two ps lx ly)(A:σ 0=some (.inst cL j))(S:σ 1=some (.ref i))(sc:σ 3=some (.int c))(d:σ 4=some two.av)(l:σ 5=some (.lst (ps.map Ae.av)))(r:σ 6=some (.int odd))(s:σ 7=some hd):WS (QS (AF tbl (n+9)) σ H) (fun _ aa=>Q .none aa) (fun v aa=>Q v aa):=by
 have hb:=w.hb;unfold QS;refine Ag (AD (B4 (BY S (BY d (Dy l r (Jz w.ok h2 ho (fun _ _ _=>P) w.tb ?_))))));unfold Zq5;refine Ag (AD (B4 (BY A (Af (B5 (v:=hd) s (B8 h.at_ (v:=.tup [.int two.boxes,.int two.most,.ref x]) rfl (Af (B5 (v:=hd) s (B8 h.at_ (v:=.ref y) rfl (An ?_))))))))));refine Zx1 (n:=n+2) w.ok w.lv (by exact al (aQ _ _) (by assumption)) h2 ho (fun _ _=>U) (fun X E=>?_) (fun t z E T hw P hm lv o=>?_)
 .have kp:Kp H (H++X) [j,k]:=Kp.app ..;have K:Kp H (H++X) []:=Kp.app ..;have W:MW (H++X) j k i (m+1) b L f:=w.kp K (by simp) (by simp) (by simp);have Z:Hd (H++X) j k i x y two.boxes two.most hd lx ly:=⟨h.at_.kp K fun _ _ hs=>(nomatch hs),h.own,K.at h.hx (by simp),K.at h.hy (by simp),h.lx,h.ly,h.nx,h.ny⟩;have km:Kp H (H++X) [j,k,i,x,y]:=Kp.app ..;have F:∀ a:AW,a 1=some (.ref i)->a 4=some two.av->a 5=some (.lst (ps.map Ae.av))->a 6=some (.int odd)->a 7=some hd->a 8=some (BB L ps odd)->a 9=some (BB L ps odd)->WS (QQ (AF tbl (n+9)) a (H++X)) (fun _ aa=>Q .none aa) (fun v aa=>Q v aa):=fun a C D G a4 I J M=>Zza w h2 ho h q C D G a4 I J M kp W.tb (.inl ⟨E,W.lv⟩)
  rcases Zy9 (L:=L) (ps:=ps) ho with ⟨p,_⟩|⟨_,(e|e)|⟨hne,e⟩|⟨e0,t,mm,T,e⟩⟩
  .rw[E] at p;injection p
  .rw[e] at F ⊢;exact Ac Z3e (F _ S d l r s rfl rfl)
  .rw[e] at F ⊢;exact Ac Z3f (F _ S d l r s rfl rfl)
  .have rep:∀ a:AW,a 0=some (.inst cL j)->a 1=some (.ref i)->a 4=some two.av->a 5=some (.lst (ps.map Ae.av))->a 7=some hd->a 8=some (BB L ps odd)->a 9=some (BB L ps odd)->WS (rpD (AF tbl (n+9)) a (H++X)) (fun _ aa=>Q .none aa) (fun v aa=>Q v aa):=fun a a0 C D G I J M=>Ag (Ar (D7 (Zhh (v:=BB L ps odd) M (u:=BB L ps odd) J (Zx4 ho (Cn (AA (B4 (BY a0 (BY C (BY D (Dy G I (Zy2 W h2 P Z (h1 hne) fun N B z V g=>q N B f z V (.inl rfl) (km.trans g)))))))))))))
   rcases e with e|e
   .rw[e] at rep ⊢;exact Ac Z3g (rep _ A S d l s rfl rfl)
   .rw[e] at rep ⊢;exact Ac Z3h (rep _ A S d l s rfl rfl)
  .refine AX (h0 e0) fun O R=>?_;subst O;subst R;have sl:∀ H:AH,G0 H (uw mm) none (some 1)=some (.tup [.str "unsafe"]):=fun H=>by cases mm<;>kernel_rfl
   have ni:∀ H:AH,Bl H .isIn (uw mm) (.tup [.tup [.str "program"],.tup [.str "places"]])=some false:=fun H=>by cases mm<;>kernel_rfl
   have Y:=Zx4 (L:=L) (ps:=ps) ho (H:=H++X) (Q:=fun c=>c=true) rfl;rw[e] at F Y ⊢;unfold QR;refine Ag (AK (G4 (AU (EO (Ax (v:=uw mm) rfl (Ei (Dv (Ak ⟨1,rfl,OB.of (sl _) (AP (AI (OB.of (v:=true) (by kernel_rfl) (AA ?_))))⟩))))))));refine AU (Br (GD sc (Fu (Al rfl) (Ak (Bq (Al rfl) (Ak (BG (BV (fun _=>?_) (fun _=>A9 ?_)))))))))
   .refine Ah Y fun c' e1 e2=>?_;subst e2;exact Ar (D7 (Zhh (v:=uw mm) rfl (u:=uw mm) rfl (OB.of e1 (Cn (AA (B4 (BY A (BY S (Dy d s (Zyy W h2 P Z T fun N B z V g=>q N B f z V (.inl rfl) (km.trans g)))))))))))
   .unfold Zq3;refine Ag (AK (Cf (v:=uw mm) rfl (AP (Af (AP (AI (Af (AP (AI (An (OB.of (ni _) (A8 (A9 ?_)))))))))))));exact F _ S d l r s rfl rfl
 .have e:=Zx0 E;refine Ac e (Ac Z3d ?_);exact Zza w h2 ho h q S d l r s (by refine Ac e ?_;rfl) (by refine Ac e ?_;rfl) (o.kp (by simp) (by simp)) ((o.2 i w.ij w.ik).trans w.tb) (.inr ⟨E,t,T,hw,P,hm,lv⟩)
end
theorem J5{op:Gh}{a b:DE}{σ:AW}(h:W (a σ H) fun x aa=>W (b σ aa) fun y A=>OB (BN A op x y) fun v=>∃ l,v=.lst l/\Q (.ref A.length) (A++[.list l])):W (EG op a b σ H) Q :=
 W.bind (h.mono fun x aa h=>W.bind (h.mono fun y A h=>by
  obtain⟨v,e,l,rfl,q⟩:=h;exact⟨_,_,by refine Ac e ?_;rfl,q⟩))
theorem R8{l k:List AV}{r:AV}(h:BA H l r)(a:l.length+k.length<=1000){Q:AV->Prop}(q:Q (.lst (l++k))):OB (BN H .add r (.lst k)) Q:=by
 refine⟨_,?_,q⟩;have e:=h.of
 have key:Iw H r (.lst k)=some (.lst (l++k)):=by
  unfold Iw;refine Ac e ?_;show (if _ then _ else _)=_;exact Ac (if_pos (al a (Al rfl))) rfl
 cases h with
 | lst=>exact key
 | ref _=>exact key
theorem Eb.take{one two:Ao}{ps:List Ae}(h:Eb one two ps)(k:Nat):Eb one two (ps.take k):=⟨al (jW ..) h.len,kK ((List.take_sublist ..).map _) h.nd,fun p H=>h.ok p (List.mem_of_mem_take H)⟩
section
variable {Φ:As}{σ:AW}{H:AH}{v:AV}
def opD(a:As):DS:=Ai (Cb (Aa 7) (dI 1) (EG .add (Aj (Aa 7) (dI 1)) (B3 [dF a 33 [BC (Aa 1) (dS "program"),Aa 4,Aa 5,Ap .fdiv (Aa 3) (dI 192)]]))) (QS a)
theorem Z3j:Zq8 Φ (AM (AM σ 6 (.int 0)) 7 v) H=QS Φ (AM (AM σ 6 (.int 0)) 7 v) H:=by kernel_rfl
theorem Wt:Zq7 Φ (AM (AM σ 6 (.int 1)) 7 v) H=QS Φ (AM (AM σ 6 (.int 1)) 7 v) H:=by kernel_rfl
theorem Z3k:Zq8 Φ (AM (AM σ 6 (.int 2)) 7 v) H=opD Φ (AM (AM σ 6 (.int 2)) 7 v) H:=by kernel_rfl
end
theorem Zzc:∀ v∈Sw,Cw 11 v=true:=by
 intro v h;unfold Sw at h;simp only[aU,bf,or_false] at h
 rcases h with rfl|rfl|rfl|rfl|rfl<;>kernel_rfl
theorem Z3l(H:AH)(a b c:AO):∃ h,H++[a]++[b]++[c]=h/\h[H.length]?=some a/\h[H.length+1]?=some b/\h[H.length+2]?=some c/\h.length=H.length+3/\Kp H h []:=⟨_,rfl,by simp,by simp,by simp,by simp,((Kp.app ..).trans (Kp.app ..)).trans (Kp.app ..)⟩
theorem J6{H:AH}{j k i n y:Nat}{two:Ao}{l L:List AV}(h:j<n/\k<n/\i<n)(b:y=n+1\/y=n+3)(g:H[n]?=some (.list l))(G:H[y]?=some (.list L))(c:H[n+2]?=some (.list [Bx two (.ref n),.ref y]))(d:l.length<=1000)(f:L.length<=1000):Hd H j k i n y two.boxes two.most (.ref (n+2)) l L:=⟨.ref c,fun a e=>by injection e with e;subst e;simp;exact S2 h b,g,G,d,f,by simp;exact S5 h b,by simp;exact S4 h b⟩
theorem Zzd{v:AV}(h:v∈[AV.int 0,.int 0,.int 0,.int 0,.int 0,.int 0,.int 1,.int 2]):v=.int 0\/v=.int 1\/v=.int 2:=by
 simp only[aU,bf,or_false,or_self] at h
 rcases h with h|h|h|h|h|h|h|h<;>refine Ac h ?_<;>simp
theorem Zze{n:Nat}{j k i m b:Nat}{L:B6}{f:Option (Ao×List Ae)}(w:MW H j k i (m+1) b L f)(rf:Hh f){M:List Ao}(hP:∀ P∈M,P.Ok)(h3:M.length=3){c:Int}(q:∀ b' L' N E,MW E j k i m b' L' N->Hh N->Kp H E [j,k,i]->Q (.bool true) E):W (AF tbl (n+10) 38 [.inst cL j,.ref i,.lst (M.map Ao.av),.int c] H) Q:=by
 refine AB (f:=⟨4,false,Zrd⟩) rfl (BZ rfl ?_);unfold Zrd;have m3:=fm c (b:=3) (Al rfl);refine Ag (AD (Ba (v:=.lst (M.map Ao.av)) rfl (GD (v:=.int c) rfl (Bq (Al rfl) (Zxk m3.1 (by (rewrite [aK];refine Ac h3 ?_);exact m3.2) (by (rewrite [aK];refine Ac h3 ?_);decide) fun v hv=>?_)))));refine Ah (a7.mp hv) fun two K eZ2=>?_;subst eZ2;have g:=hP two K;unfold Zrc;refine Ag (AD (B4 (Af (GD (v:=.int c) rfl (Fu (Al rfl) (Af (C0 HW rfl w.tb (Ay (v:=two.av) rfl (Zuj w.ok.run g fun d y=>?_)))))))))
 have R:∀ (p:List Ae) (a:AW),Eb L.run two p->a 0=some (.inst cL j)->a 1=some (.ref i)->a 3=some (.int c)->a 4=some two.av->a 5=some (.lst (p.map Ae.av))->WS (Zra (AF tbl (n+9)) a H) (fun _ A=>Q .none A) (fun v A=>Q v A):=by
  intro p a C D z s S x;have t:=C.len;have t16:=g.r16;have rl:(two.rows.map AQ.av).length<=16:=HI t16;have Y:(p.map Ae.av).length<=16:=HI t;have m8:=fm (c.fdiv 24) (b:=8) (Al rfl);unfold Zra;refine Ag (AD (Bp (EZ (v:=.lst [.int 0,.int 0,.int 0,.int 0,.int 0,.int 0,.int 1,.int 2]) rfl (Br (GD s (Fu (Al rfl) (Ak (Bq (Al rfl) (Zxk m8.1 m8.2 (Al rfl) fun v hv=>?_)))))))));unfold Zq9;refine Ag (AD (Du (Af (B4 (Ay (v:=two.av) S (Zyb g (Af (EP (Ax (v:=.lst (p.map Ae.av)) x (Zx9 .lst (al Y (Al rfl)) (An ?_)))))))))));rw[Le,Le];refine Z2h (Z3l H (.list (two.rows.map AQ.av)) (.list (p.map Ae.av)) (.list [Bx two (.ref H.length),.ref (H.length+1)])) fun r e3 G g2 I g4 U=>Ac e3 ?_;clear e3;have Z:MW r j k i (m+1) b L f:=w.kp U (by simp) (by simp) (by simp);have h:Hd r j k i H.length (H.length+1) two.boxes two.most (.ref (H.length+2)) (two.rows.map AQ.av) (p.map Ae.av):=J6 w.lt (.inl rfl) G g2 I (al rl (Al rfl)) (al Y (Al rfl))
  have F:∀ (a:AW) (B:AH) (y' o:Nat) (V X:List AV),o<=2->a 0=some (.inst cL j)->a 1=some (.ref i)->a 3=some (.int c)->a 4=some two.av->a 5=some (.lst (p.map Ae.av))->a 6=some (.int o)->a 7=some (.ref (H.length+2))->MW B j k i (m+1) b L f->Hd B j k i H.length y' two.boxes two.most (.ref (H.length+2)) V X->Kp H B []->H.length<=y'->Wj B L two p (Bx two (.ref H.length)) (.ref y') o->(o=0->V=two.rows.map AQ.av/\X=p.map Ae.av)->(o≠0->R6 two p V X)->WS (QS (AF tbl (n+9)) a B) (fun _ A=>Q .none A) (fun v A=>Q v A):=by
   intro a B y' o V X ho D z s S x so s4 w4 hd4 k4 hy hnd h0 h1;refine Zzb w4 g ho hd4 (fun b' L' N E w' hf kp=>q b' L' N E w' ?_ (k4.fresh (bB _) hy kp)) C hnd h0 h1 D z s S x so s4
   rcases hf with rfl|rfl
   .exact rf
   .intro u e;obtain rfl:=inj e;exact⟨g,L.run,w.ok.run,C⟩
  have hx:∀ l:List AV,Kp H (r.set H.length (.list l)) []:=fun l=>U.one (bB _) (Kp.set (CS))
  rcases Zzd hv with rfl|rfl|rfl
  .refine Ac Z3j ?_;exact F _ r _ 0 _ _ (Al rfl) D z s S x rfl rfl Z h U (cJ _) ⟨C,_,_,rfl,.ref G,rfl,g2⟩ (fun _=>⟨rfl,rfl⟩) (fun e=>absurd rfl e)
  .unfold Zq8;refine Ag (AK (G4 (KP (v:=.int 1) rfl (OB.of (v:=true) (by kernel_rfl) (AA ?_)))));refine AU (Br (GD s (Fu (Al rfl) (Ak (Bq (Al rfl) (Ak (BG (BV (fun _=>?_) (fun _=>?_)))))))))
   .refine Bt (Sv (Bp (B5 (v:=.ref (H.length+2)) rfl (B8 (.ref I) (v:=Bx two (.ref H.length)) rfl (Ak (OB.of (v:=.ref H.length) rfl ⟨_,_,_,rfl,G,Zx7 h.lx,?_⟩))))));refine Ac Wt ?_;have J:=h.setx (l:=[]) (Al rfl);exact F _ _ _ 1 _ _ (Al rfl) D z s S x rfl rfl (h.mwx Z _) J (hx _) (cJ _) (fun n=>J3 ⟨g.b0,g.b3⟩ ⟨g.m1,g.m4⟩ (.ref J.hx)) (fun e=>nomatch e) (fun _=>.inl ⟨rfl,rfl⟩)
   .have m5:=fm (c.fdiv 384) (b:=5) (Al rfl);refine AK (KP (v:=.int 1) rfl (OB.of (v:=true) (by kernel_rfl) (AA ?_)));refine Bt (DG (Bp (B5 (v:=.ref (H.length+2)) rfl (B8 (.ref I) (v:=Bx two (.ref H.length)) rfl (Ak (OB.of (v:=.ref H.length) rfl ⟨Dh G,?_⟩))))));refine Af (Bp (EZ (v:=.lst Sw) rfl (Br (GD s (Fu (Al rfl) (Ak (Bq (Al rfl) (Zxk m5.1 m5.2 (Al rfl) fun u O=>An (Hi (l':=two.rows.map AQ.av++[u]) G ?_ ?_)))))))))
    .show (if _<=1048576 then some _ else none)=_;exact Ac (if_pos (al h.lx (Al rfl))) rfl
    refine Ac Wt ?_;have J:=h.setx (l:=two.rows.map AQ.av++[u]) (M4 rl);exact F _ _ _ 1 _ _ (Al rfl) D z s S x rfl rfl (h.mwx Z _) J (hx _) (cJ _) (fun n=>Rz g O (.ref J.hx)) (fun e=>nomatch e) (fun _=>.inr (.inl ⟨u,rfl,Zzc u O,rfl⟩))
  .refine Ac Z3k ?_;refine Ag (Mh (J5 (B5 (v:=.ref (H.length+2)) rfl (B8 (.ref I) (v:=.ref (H.length+1)) rfl (BW (Af (B4 (Af (C0 HW z Z.tb (BY (v:=two.av) S (BY (v:=.lst (p.map Ae.av)) x (Af (GD s (Fu (Al rfl) (An (Zy8 w.ok.run g C fun u O=>An (R8 (.ref g2) (al (ba Y 1) (Al rfl)) ⟨_,rfl,Ax (v:=.ref (H.length+2)) rfl (Ak (Hi (l':=[Bx two (.ref H.length),.ref r.length]) ((Kp.app r _ []).at I (by simp)) (by kernel_rfl) ?_))⟩)))))))))))))))));refine Ac g4 ?_;have k5:Kp r (r++[AO.list (p.map Ae.av++[u])]) []:=Kp.app ..;have g5:(r++[AO.list (p.map Ae.av++[u])])[H.length+3]?=some (.list (p.map Ae.av++[u])):=by refine BE g4 ?_;simp
   have l5:(r++[AO.list (p.map Ae.av++[u])]).length=H.length+4:=by (rewrite [Le];exact Ac g4 rfl)
   generalize r++[AO.list (p.map Ae.av++[u])]=H5 at k5 g5 l5 ⊢;have T:Kp H5 (H5.set (H.length+2) (.list [Bx two (.ref H.length),.ref (H.length+3)])) [H.length+2]:=Kp.set (CS);have a6:(H5.set (H.length+2) (.list [Bx two (.ref H.length),.ref (H.length+3)]))[H.length+2]?=some (.list [Bx two (.ref H.length),.ref (H.length+3)]):=Bz (by refine Ac l5 ?_;exact kb (Al rfl) _);generalize H5.set (H.length+2) (.list [Bx two (.ref H.length),.ref (H.length+3)])=H6 at T a6 ⊢;have x6:=T.at (k5.at G (by simp)) (by simp);have y6:=T.at g5 (by simp);have hd6:Hd H6 j k i H.length (H.length+3) two.boxes two.most (.ref (H.length+2)) (two.rows.map AQ.av) (p.map Ae.av++[u]):=J6 w.lt (.inr rfl) x6 y6 a6 (al rl (Al rfl)) (M4 Y);have kZ:=(U.trans k5).one (aQ _ _) T;exact F _ _ _ 2 _ _ (Al rfl) D z s S x rfl rfl (w.kp kZ (by simp) (by simp) (by simp)) hd6 kZ (aQ _ _) ⟨_,rfl,.ref x6,_,fun n=>Zwi w.ok.run g C (.ref x6) (v:=u) (O.l (.ref x6)) (tl:=[]) (al t (Al rfl)) y6⟩ (fun e=>nomatch e) (fun _=>.inr (.inr ⟨u,rfl,rfl⟩))
 unfold Zrb;refine Ag (AK (AU (Br (GD (v:=.int c) rfl (Fu (Al rfl) (Ak (Bq (Al rfl) (Ak (BG (BV (fun _=>?_) (fun _=>A9 (R d _ y rfl rfl rfl rfl rfl))))))))))));refine AD (EO (Ax (v:=.lst (d.map Ae.av)) rfl (Ei (Dv (Ak ⟨1,rfl,Zi6 rfl (by rw[aK];exact al y.len (Al rfl)) ?_⟩)))))
 have e:cut (d.map Ae.av) none (some 1)=(d.take 1).map Ae.av:=by
  show ((d.map Ae.av).take 1).drop 0=_;exact Ac fM (Ac iN rfl)
 exact Ac e (R (d.take 1) _ (y.take 1) rfl rfl rfl rfl rfl)
theorem MA{a:Int}(h:0<=a/\a<5):a=0\/a=1\/a=2\/a=3\/a=4:=by exact S8 h
theorem Zzf{n:Nat}{P:Ao}(a:P.Ok){xs:List Int}(x:BQ P xs){c:Int}(q:Q (.bool true) H):W (AF tbl (n+7) 45 [P.av,Co xs,.int c] H) Q:=by
 refine AB (f:=⟨3,true,Zsg⟩) rfl (Fv rfl fun R j=>?_);unfold Zsg;have B:=a.b3;have l:(xs.length:Int)=P.boxes:=x.1;have i:R (.bool true) (H++[.attrs []]):=j _ _ (GY rfl q);have m:=fm c (b:=5) (Al rfl)
 have F:∀ (d:AW) (p u:AV) (k:Nat),(k=2/\c.fmod 5<=2\/k=1/\2<c.fmod 5)->d 2=some (.int c)->d 3=some (.tup [p,u])->(∀ (o:AV) (H:AH),Z (AF tbl (n+6) 49 [o,p,u] H) k H)->WS (Zse (AF tbl (n+6)) d H) (fun _ _=>False) R:=by
  intro d p u k g S s z;unfold Zse;have K:KC k:=by rcases g with ⟨rfl,_⟩|⟨rfl,_⟩<;>constructor
  refine Ag (IW (c:=k) (aa:=H++[.attrs []]) (Rw (Af (B5 s (OB.of (v:=p) rfl (Af (B5 s (OB.of (v:=u) rfl (An (z _ _))))))))) (Mz K) ?_);refine Ar (Ci (B4 (Ay (v:=.exc k) rfl (Zxb K (Bp (EZ (v:=.lst [DY 2,DY 1]) rfl (BX (Af (Ci (GD S (Bq (Al rfl) (Ak (OB.of (v:=decide (c.fmod 5>2)) rfl (An (KR ?_)))))))))))))))
  rcases g with ⟨rfl,h⟩|⟨rfl,h⟩
  .refine Ac (decide_eq_false (jb.mpr h)) ?_;exact OB.of (v:=DY 2) (by kernel_rfl) (OB.of (v:=true) (by kernel_rfl) i)
  .refine Ac (decide_eq_true (by assumption)) ?_;exact OB.of (v:=DY 1) (by kernel_rfl) (OB.of (v:=true) (by kernel_rfl) i)
 refine Ag (AD (EZ (Lf (CY (G6 (CY rfl (CY (M7 rfl (by rw[aK];exact HK B l)) C1))) (CY (G6 (CY rfl (CY (Lg rfl rfl (by rw[aK];show xs.length+1<=_;exact UF B l)) C1))) (CY rfl (CY rfl (CY rfl C1)))))) ?_));unfold Zsf;refine Ag (AD (Ba rfl (GD (v:=.int c) rfl (Bq (Al rfl) ?_))))
 rcases MA m with e|e|e|e|e<;>refine Ac e ?_
 .exact OB.of rfl (F _ _ _ 2 (.inl ⟨rfl,by refine Ac e ?_;decide⟩) rfl rfl fun o H=>Zyg (n:=n+1) a rfl rfl)
 .refine OB.of rfl (F _ _ _ 2 (.inl ⟨rfl,by refine Ac e ?_;decide⟩) rfl rfl fun o H=>Zyg (n:=n+1) a ?_ ?_)
  .show (decide ((xs.map AV.int++[AV.int 0]).length<=1000)&&(xs.map AV.int++[AV.int 0]).all DW)=true;refine Ac (decide_eq_true (by simp;exact UG B l)) ?_;simp[DW]
  .show (decide (((xs.map AV.int++[AV.int 0]).length:Int)=P.boxes)&&_)=false;refine Ac (decide_eq_false (by simp;exact TL l)) ?_;rfl
 .exact OB.of rfl (F _ _ _ 2 (.inl ⟨rfl,by refine Ac e ?_;decide⟩) rfl rfl fun o H=>Zyg (n:=n+1) a rfl rfl)
 .exact OB.of rfl (F _ _ _ 1 (.inr ⟨rfl,by refine Ac e ?_;decide⟩) rfl rfl fun o H=>Zyf (n:=n+5) (Zyh (n:=n+3)))
 .exact OB.of rfl (F _ _ _ 1 (.inr ⟨rfl,by refine Ac e ?_;decide⟩) rfl rfl fun o H=>Zyf (n:=n+5) (J3 (n:=n+1) ⟨by decide,by decide⟩ ⟨by decide,by decide⟩ .lst))
def Fa(H:AH)(L:B6)(h:AH)(l:List AV):Nat->Prop
 | 0=>∃ s,l[0]?=some (.ref s)/\H.length<s/\h[s]?=some (.list (L.told.map .int))
 | 1=>∃ r,l[1]?=some (Bx L.run (.ref r))/\H.length<r/\h[r]?=some (.list (L.run.rows.map AQ.av))
 | 2=>l[2]?=some (sv L.now)
 | 3=>l[3]?=some (.bool L.want.isSome)
 | _=>l[4]?=some (.int L.many)
theorem Wu{k:Nat}(h:k<5):k=0\/k=1\/k=2\/k=3\/k=4:=(by decide:∀ k,k<5->k=0\/k=1\/k=2\/k=3\/k=4) k h
theorem Z3m{l:List AV}{a b c d e:AV}(h:l.length=5)(f:l[0]?=some a)(g:l[1]?=some b)(j:l[2]?=some c)(k:l[3]?=some d)(m:l[4]?=some e):l=[a,b,c,d,e]:=by
 refine List.ext_getElem? fun i=>?_
 by_cases H:i<5
 .rcases Wu H with rfl|rfl|rfl|rfl|rfl
  .exact f
  .exact g
  .exact j
  .exact k
  .exact m
 .exact Ac (dO (lG (h▸H))) (Ac (dO (lG H)) rfl)
theorem Fa.keep{H f g:AH}{L:B6}{l:List AV}{w W:Nat}{v:AV}(i:W<5)(h:Fa H L f l W)(d:w≠W)(kp:Kp f g [H.length]):Fa H L g (l.set w v) W:=by
 have e:(l.set w v)[W]?=l[W]?:=bI d
 rcases Wu i with rfl|rfl|rfl|rfl|rfl
 .refine Bu h fun s b a c=>?_;exact⟨s,e.trans b,a,kp.at c (by simp;exact cZ a)⟩
 .refine Bu h fun s b a c=>?_;exact⟨s,e.trans b,a,kp.at c (by simp;exact cZ a)⟩
 .exact e.trans h
 .exact e.trans h
 .exact e.trans h
noncomputable def En(turn st:Int)(t:Nat):Nat:=((turn+t*st).fmod 5).toNat
theorem R9{turn st:Int}{t:Nat}:En turn st t<5:=by
 have:=fm (turn+t*st) (b:=5) (Al rfl);unfold En;exact Im this
theorem Zzg{turn st:Int}(H:st=1\/st=4){w:Nat}(h:w<5):∃ t,t<5/\En turn st t=w:=by
 unfold En
 rcases H with rfl|rfl
 .refine⟨(((w:Int)-turn).fmod 5).toNat,?_,?_⟩
  .have:=fm ((w:Int)-turn) (b:=5) (Al rfl);exact Im this
  .have:=fm ((w:Int)-turn) (b:=5) (Al rfl);rw[Zid _ (Al rfl)] at *;exact Ac (Zid _ (Al rfl)) (Uq h this)
 .refine⟨((turn-(w:Int)).fmod 5).toNat,?_,?_⟩
  .have:=fm (turn-(w:Int)) (b:=5) (Al rfl);exact Im this
  .have:=fm (turn-(w:Int)) (b:=5) (Al rfl);rw[Zid _ (Al rfl)] at *;exact Ac (Zid _ (Al rfl)) (Ur h this)
section
variable {Φ:As}{σ:AW}{H:AH}
theorem Z3n:So Φ (AM σ 4 (.int 0)) H=Cb (Aa 2) (Am (.int 0)) (BD Φ 8 "said" 53 (Aa 0) []) (AM σ 4 (.int 0)) H:=by kernel_rfl
theorem Z3o:So Φ (AM σ 4 (.int 1)) H=Cb (Aa 2) (Am (.int 1)) (BD Φ 8 "program" 55 (Aa 0) []) (AM σ 4 (.int 1)) H:=by kernel_rfl
theorem Z3p:So Φ (AM σ 4 (.int 2)) H=Cb (Aa 2) (Am (.int 2)) (BD Φ 8 "state" 54 (Aa 0) []) (AM σ 4 (.int 2)) H:=by kernel_rfl
theorem Z3q:So Φ (AM σ 4 (.int 3)) H=Cb (Aa 2) (Am (.int 3)) (BD Φ 8 "waits" 56 (Aa 0) []) (AM σ 4 (.int 3)) H:=by kernel_rfl
theorem Z3r:So Φ (AM σ 4 (.int 4)) H=Cb (Aa 2) (Am (.int 4)) (BD Φ 8 "changed" 57 (Aa 0) []) (AM σ 4 (.int 4)) H:=by kernel_rfl
end
theorem Fb{l:List AV}(h:l.length=5){w:Nat}(H:w<5){v:AV}:Fg (.int w) v l=some (l.set w v):=by
 unfold Fg;simp only[];refine Ac (if_pos ⟨by exact UH h,by exact T3 h H,by exact TN h H⟩) (Ac (if_pos (by exact bd _)) ?_);rfl
structure Ia(H:AH)(L:B6)(j:Nat)(turn st:Int)(t:Nat)(σ:AW)(H':AH):Prop where
 s0:σ 0=some (.inst cL j)
 s1:σ 1=some (.int turn)
 s2:σ 2=some (.ref H.length)
 kp:Kp H H' []
 at_:∃ l,l.length=5/\H'[H.length]?=some (.list l)/\∀ t',t'<t->Fa H L H' l (En turn st t')
theorem Ia.next{H d b:AH}{L:B6}{j:Nat}{turn st:Int}{t w:Nat}{σ σ':AW}(a:Ia H L j turn st t σ d)(s:σ' 0=σ 0)(S:σ' 1=σ 1)(u:σ' 2=σ 2)(r:En turn st t=w)(W:w<5)(kp:Kp d b []){l:List AV}(g:l.length=5)(n:d[H.length]?=some (.list l))(i:∀ T,T<t->Fa H L d l (En turn st T)){v:AV}(q:∀ f,Kp b f [H.length]->Fa H L f (l.set w v) w):Ia H L j turn st (t+1) σ' (b.set H.length (.list (l.set w v))):=by
 have k:Kp b (b.set H.length (.list (l.set w v))) [H.length]:=Kp.set (CS);refine⟨s.trans a.s0,S.trans a.s1,u.trans a.s2,(a.kp.trans kp).via k fun m o c=>?_,l.set w v,by refine Ac bZ ?_;exact g,Bz ((Bm (kp.at n (by simp)))),fun T p=>?_⟩
 .rw[aJ.mp o] at c;exact absurd c (dj _)
 .by_cases e:w=En turn st T
  .refine BE e ?_;exact q _ k
  .have:T<t:=by
    rcases Nat.lt_succ_iff_lt_or_eq.mp p with h|rfl
    .exact h
    .exact absurd r.symm e
   exact (i T this).keep R9 e ((kp.more (by simp)).trans k)
theorem Zzh{n:Nat}{H g:AH}{j k b:Nat}{L:B6}(lv:LV H j k b L)(O:L.run.Ok)(tl:L.told.length<=1000){turn st:Int}{t:Nat}(r:t<5)(q:st=1\/st=4)(E:∀ H:AH,Cy H (.lst [.int 1,.int 4]) (.int ((turn.fdiv 5).fmod 2))=some (.int st)){σ:AW}(a:Ia H L j turn st t σ g):WS (Zrw (AF tbl (n+2)) (AM σ 3 (.int t)) g) (Ia H L j turn st (t+1)) R:=by
 unfold Zrw;refine Ag (AD (Br (Bk (v:=.int turn) a.s1 (Bk (v:=.int t) rfl (Bp (EZ (v:=.lst [.int 1,.int 4]) rfl (Br (GD (v:=.int turn) a.s1 (Fu (Al rfl) (Ak (Bq (Al rfl) (OB.of (E _) (EM (.inl (by rcases q with rfl|rfl<;>decide)) (Bn (Ak (Bq (Al rfl) ?_))))))))))))))));have c:LV g j k b L:=lv.kp a.kp (by simp) (by simp);refine Bu a.at_ fun l d f i=>?_;have M:=fm (turn+t*st) (b:=5) (Al rfl);have s:∀ (w:Nat) {v:AV},w<5->(l.set w v)[w]?=some v:=fun w v h=>bR (d.symm▸h);have m:=(Bm f)
 rcases MA M with e|e|e|e|e<;>refine Ac e ?_
 .have A:∀ o:AO,Kp g (g++[o]) []:=fun o=>Kp.app ..;refine Ac Z3n (Mh (KT a.s0 (Lc c (by decide +kernel) (An (Rt tl c (Ax a.s2 (Ak (Hi ((A _).at f (by simp)) (Fb d (w:=0) (Al rfl)) ?_))))))));exact a.next (σ':=AM (AM σ 3 (.int t)) 4 (.int 0)) (w:=0) rfl rfl rfl (by unfold En;refine Ac e ?_;rfl) (Al rfl) (A (.list (L.told.map .int))) d f i fun p K=>⟨g.length,s 0 (Al rfl),m,K.at (by simp) (by simp;exact cZ (by assumption))⟩
 .have A:∀ o:AO,Kp g (g++[o]) []:=fun o=>Kp.app ..;refine Ac Z3o (Mh (KT a.s0 (Lc c (by decide +kernel) (An (Zyc O c (Ax a.s2 (Ak (Hi ((A _).at f (by simp)) (Fb d (w:=1) (Al rfl)) ?_))))))));exact a.next (σ':=AM (AM σ 3 (.int t)) 4 (.int 1)) (w:=1) rfl rfl rfl (by unfold En;refine Ac e ?_;rfl) (Al rfl) (A (.list (L.run.rows.map AQ.av))) d f i fun p K=>⟨g.length,s 1 (Al rfl),m,K.at (by simp) (by simp;exact cZ (by assumption))⟩
 .refine Ac Z3p ?_;refine Mh (KT a.s0 (Lc c (by decide +kernel) (An (Zw6 c (Ax a.s2 (Ak (Hi f (Fb d (w:=2) (Al rfl)) ?_)))))));exact a.next (σ':=AM (AM σ 3 (.int t)) 4 (.int 2)) (w:=2) rfl rfl rfl (by unfold En;refine Ac e ?_;rfl) (Al rfl) (Kp.refl ..) d f i fun p K=>s 2 (Al rfl)
 .refine Ac Z3q ?_;refine Mh (KT a.s0 (Lc c (by decide +kernel) (An (Zw7 c (Ax a.s2 (Ak (Hi f (Fb d (w:=3) (Al rfl)) ?_)))))));exact a.next (σ':=AM (AM σ 3 (.int t)) 4 (.int 3)) (w:=3) rfl rfl rfl (by unfold En;refine Ac e ?_;rfl) (Al rfl) (Kp.refl ..) d f i fun p K=>s 3 (Al rfl)
 .refine Ac Z3r ?_;refine Mh (KT a.s0 (Lc c (by decide +kernel) (An (Zw8 c (Ax a.s2 (Ak (Hi f (Fb d (w:=4) (Al rfl)) ?_)))))));exact a.next (σ':=AM (AM σ 3 (.int t)) 4 (.int 4)) (w:=4) rfl rfl rfl (by unfold En;refine Ac e ?_;rfl) (Al rfl) (Kp.refl ..) d f i fun p K=>s 4 (Al rfl)
theorem Zzi{L:B6}(o:L.run.Ok)(e:L.told.map AV.int=L.run.rows.map AQ.av):False:=by
 have R:=o.r1
 cases h:L.run.rows with
 | nil=>rw[h] at R;exact absurd R (Al rfl)
 | cons r s =>
  rw[h] at e
  cases H:L.told with
  | nil=>rw[H] at e;injection e
  | cons x t =>
   rw[H] at e;injection e with e _
   cases r<;>injection e
theorem Zzj{n:Nat}{j k b:Nat}{L:B6}(lv:LV H j k b L)(o:L.run.Ok)(tl:L.told.length<=1000){turn:Int}(q:∀ a s r,s≠r->H.length<=s->H.length<=r->a[s]?=some (.list (L.told.map .int))->a[r]?=some (.list (L.run.rows.map AQ.av))->a[H.length]?=some (.list [.ref s,Bx L.run (.ref r),sv L.now,.bool L.want.isSome,.int L.many])->Kp H a []->Q (.ref H.length) a):W (AF tbl (n+3) 42 [.inst cL j,.int turn] H) Q:=by
 refine AB (f:=⟨2,false,Zry⟩) rfl (BZ rfl ?_);unfold Zry;have M:=fm (turn.fdiv 5) (b:=2) (Al rfl)
 have g:∃ st:Int,(st=1\/st=4)/\∀ H:AH,Cy H (.lst [.int 1,.int 4]) (.int ((turn.fdiv 5).fmod 2))=some (.int st):=by
  rcases (by exact Up M:(turn.fdiv 5).fmod 2=0\/(turn.fdiv 5).fmod 2=1) with e|e<;>refine Ac e ?_
  .exact⟨1,.inl rfl,fun _=>rfl⟩
  .exact⟨4,.inr rfl,fun _=>rfl⟩
 refine Ah g fun st c y=>Ag (AD (J5 (EZ (v:=.lst [.none]) rfl (Ak (OB.of (v:=.lst [.none,.none,.none,.none,.none]) (by kernel_rfl) ⟨_,rfl,?_⟩)))));unfold Zrx;refine Ag (CX (BX (AI (Mk (Al rfl) (Al rfl) (Sg (Al rfl) (Al rfl) ?_)))));refine Sf (Ia H L j turn st) (fun t F a d h=>Zzh lv o tl (UI d) c y h) (fun F a h=>?_) ⟨rfl,rfl,rfl,Kp.app ..,[.none,.none,.none,.none,.none],rfl,by simp,fun T d=>absurd d (cO _)⟩;refine Bu h.at_ fun l z C B=>?_
 have all:∀ w,w<5->Fa H L a l w:=fun w D=>by
  exact Ah (Zzg (turn:=turn) c D) fun t d e=>e▸B t d
 refine Bu (all 0 (Al rfl)) fun s A G g=>Bu (all 1 (Al rfl)) fun r m I i=>?_;have p:=all 2 (Al rfl);have u:=all 3 (Al rfl);have x:=all 4 (Al rfl);have E:l=[.ref s,Bx L.run (.ref r),sv L.now,.bool L.want.isSome,.int L.many]:=Z3m z A m p u x;subst E;refine IR h.s2 (q a s r (fun e=>?_) (by exact cC (by assumption)) (by exact cC (by assumption)) g i C h.kp);subst e;rw[g] at i;injection inj i with e
 exact Zzi o e
theorem RA{r:Nat}{l:List AV}(h:H[r]?=some (.list l)):F6 H (.ref r)=some .list:=by
 unfold F6;simp only[h]
def GG(d:Nat)(H:AH)(v:AV):Prop:=∀ (n:Nat) (X:AH) (Q:AV->AH->Prop),Q (.bool true) (H++X)->W (AF tbl (n+d) 41 [v] (H++X)) Q
theorem GG.up{d:Nat}{v:AV}(h:GG d H v):GG (d+1) H v:=fun n X Q q=>by
 have:=h (n+1) X Q q;exact Ac (show n+(d+1)=n+1+d by exact Uh) this
theorem Zzk{v:AV}(h:∀ H,DB H v [.tuple,.list]=some false)(a:∀ H,BK H .isinstance [v,.bi .bool]=some (.bool false)):GG 1 H v:=fun n X Q q=>by
 refine AB (f:=⟨1,true,VL⟩) rfl (FK (fun B R s b=>?_));unfold VL;refine Ag (AK (AZ (Zi4 s ⟨_,h _,Cn (A8 (A9 ?_))⟩)));unfold Zrs;exact Ar (G3 (AZ (BX (H0 s ⟨_,a _,Cn (b _ _ (CM rfl q))⟩))))
theorem Zzl{d:Nat}{l:List AV}{v:AV}(p:v=.tup l\/BA H l v)(m:l.length<=1000)(h:∀ u∈l,GG d H u):GG (d+1) H v:=fun n X Q q=>by
 refine AB (f:=⟨1,true,VL⟩) rfl (FK (fun B R s e=>?_));unfold VL;have a:v=.tup l\/BA (H++X) l v:=p.imp id (·.more X)
 have j:DB (H++X) v [.tuple,.list]=some true:=by
  rcases a with rfl|a
  .rfl
  cases a with
  | lst=>rfl
  | @ref i h =>
   show mT ((F6 (H++X) (.ref i)).bind fun k=>Iy k .tuple) (fun b=>gr (b || ·) (mT ((F6 (H++X) (.ref i)).bind fun k=>Iy k .list) fun c=>some (c || false)))=_;exact Ac (RA h) rfl
 refine Ag (AK (AZ (Zi4 s ⟨_,j,Cn (AA ?_)⟩)));refine Ar (BX (Af (Zjd (P:=fun _ x=>x=.bool true) (Ax s ⟨l,a,al m (Al rfl),fun u o Y=>?_,fun y g=>?_⟩))))
 .refine B4 (Ay (v:=u) rfl ?_);rw[cu];exact h u o n _ _ ⟨rfl,rfl,rfl⟩
 .exact An (Zjk (g.all (T:=fun v=>v=AV.bool true) fun _ _ h=>h) (e _ _ (CM rfl q)))
theorem Hk{d:Nat}{l:List AV}(a:l.length<=1000)(h:∀ u∈l,∀ H,GG d H u):GG (d+1) H (.tup l):=Zzl (.inl rfl) a fun u b=>h u b H
theorem Eo{i:Int}:GG 1 H (.int i):=Zzk (fun _=>rfl) (fun _=>rfl)
theorem RB{x:aW}:GG 1 H (.str x):=Zzk (fun _=>rfl) (fun _=>rfl)
theorem Zzm:GG 1 H .none:=Zzk (fun _=>rfl) (fun _=>rfl)
theorem Zzn{xs:List Int}(h:xs.length<=1000):GG 2 H (Co xs):=Hk (by rw[aK];exact h) fun u a H=>by
 refine Ah (a7.mp a) fun i _ e=>?_;subst e;exact Eo
theorem Wv{P:Ao}(c:P.Ok){s:Option St}(h:∀ t,s=some t->CR P t):GG 3 H (sv s):=by
 cases s with
 | none=>exact Zzm.up.up
 | some t =>
  have l:(t.2.length:Int)=P.boxes:=(h t rfl).2.1;have b:=c.b3
  exact Hk (show 2<=1000 by decide) fun u a H=>by
   simp only[aU,bf,or_false] at a
   rcases a with rfl|rfl
   .exact Eo.up
   .exact Zzn (LQ l b)
theorem J7(r:AQ):GG 2 H r.av:=by
 have key:∀ l:List AV,(∀ u∈l,(∃ x,u=.str x)\/∃ i,u=.int i)->l.length<=3->GG 2 H (.tup l):=fun l h a=>Hk (al a (Al rfl)) fun u b H=>by
  rcases h u b with ⟨x,rfl⟩|⟨i,rfl⟩
  .exact RB
  .exact Eo
 have K:∀ x,(∃ y,AV.str x=.str y)\/∃ i,AV.str x=.int i:=fun x=>.inl ⟨x,rfl⟩;have k:∀ i,(∃ y,AV.int i=.str y)\/∃ j,AV.int i=.int j:=fun i=>.inr ⟨i,rfl⟩
 cases r with
 | stop=>exact key _ (Cj (K _) Fw) (Al rfl)
 | go j=>exact key _ (Cj (K _) (Cj (k _) Fw)) (bb rfl)
 | more j=>exact key _ (Cj (K _) (Cj (k _) Fw)) (bb rfl)
 | tell j=>exact key _ (Cj (K _) (Cj (k _) Fw)) (bb rfl)
 | put j v=>exact key _ (Cj (K _) (Cj (k _) (Cj (k _) Fw))) (bb rfl)
 | copy j v=>exact key _ (Cj (K _) (Cj (k _) (Cj (k _) Fw))) (bb rfl)
 | ask j v=>exact key _ (Cj (K _) (Cj (k _) (Cj (k _) Fw))) (bb rfl)
theorem Ao.pln_5{P:Ao}(h:P.Ok):Mine.Cw 5 P.av=true:=by
 have R:=h.r16;refine Ig (by simp) fun v H=>?_;simp only[aU,bf,or_false] at H
 rcases H with rfl|rfl|rfl
 .rfl
 .rfl
 .exact Ml (by rw[aK];exact al (by assumption) (Al rfl)) fun u a=>by
   refine Ah (a7.mp a) fun r _ e=>?_;subst e;exact r.pln_of (Al rfl)
theorem Zzo{xs:List Int}(h:xs.length<=1000){n:Nat}:Cw (n+2) (.lst (xs.map .int))=true:=Ml (by rw[aK];exact h) fun v H=>by
 refine Ah (a7.mp H) fun i _ e=>?_;subst e;rfl
theorem RC{P:Ao}(a:P.Ok){s:Option St}(h:∀ t,s=some t->CR P t):Cw 11 (sv s)=true:=by
 cases s with
 | none=>rfl
 | some t =>
  have l:(t.2.length:Int)=P.boxes:=(h t rfl).2.1;have b:=a.b3
  exact Ig (show 2<=1000 by decide) fun u H=>by
   simp only[aU,bf,or_false] at H
   rcases H with rfl|rfl
   .rfl
   .exact Ig (by rw[aK];exact LQ l b) fun v c=>by
     refine Ah (a7.mp c) fun i _ e=>?_;subst e;rfl
theorem Zzp{k n:Nat}{l:List AV}(h:H[k]?=some (.list l)):data H (n+1) (.ref k)=data H (n+1) (.lst l):=by
 show (match H[k]? with|some (.list l)=>(l.mapM (data H n)).map dY|_=>none)=_;refine Ac h ?_;rfl
theorem Zzq{n:Nat}{a A b B c:AV}(h:data H n a=data H n A)(hb:data H n b=data H n B):data H (n+1) (.lst [a,b,c])=data H (n+1) (.lst [A,B,c]):=by
 show ([a,b,c].mapM (data H n)).map dY=([A,B,c].mapM (data H n)).map dY;simp only[dN,h,hb]
theorem Zzr{n k:Nat}{P:Ao}(h:H[k]?=some (.list (P.rows.map AQ.av))):data H (n+2) (Bx P (.ref k))=data H (n+2) P.av:=by
 show ([AV.int P.boxes,.int P.most,.ref k].mapM (data H (n+1))).map e5=([AV.int P.boxes,.int P.most,.lst (P.rows.map AQ.av)].mapM (data H (n+1))).map e5;simp only[dN,Zzp h]
theorem Ww{l:List AV}{v:AV}(h:l.length<=1000):CV [v] l=some (l++[v]):=if_pos (al h (Al rfl))
theorem RD{is:List Nat}{a:DE}{σ:AW}(h:W (a σ H) fun v aa=>∃ vs A,listOf? aa v=some vs/\PQ is vs σ=some A/\N A aa):WS (Hs is a σ H) N R :=
 W.bind (h.mono fun v aa h=>by
  refine B2 h fun vs A e E q=>?_;exact⟨(.next,A),aa,by simp only[e,E],q⟩)
theorem Zzt{n:Nat}{j k i m b d:Nat}{L:B6}{f:Option (Ao×List Ae)}(w:MW H j k i (m+1) b L f){h:List AV}(B:H[d]?=some (.list h))(U:d≠i)(hl:h.length<=900){turn:Int}(q:∀ g s r p o,H.length<=s->H.length<=r->g[s]?=some (.list p)->g[r]?=some (.list o)->Cw 12 (.lst p)=true->Cw 12 (.lst o)=true->p≠[]->o≠[]->g[d]?=some (.list (h++[.tup [.ref s,.lst p]]++[.tup [.ref r,.lst o]]))->Kp H g [d]->Q (.bool true) g):W (AF tbl (n+5) 43 [.inst cL j,.ref i,.ref d,.int turn] H) Q:=by
 refine AB (f:=⟨4,false,Zr7⟩) rfl (BZ rfl ?_);unfold Zr7;have tl:=w.tl;have Y:=w.ok.run.r16;have l:=(Bm B);refine Ag (RD (B4 (Dy (v:=.inst cL j) rfl (u:=.int turn) rfl (Zzj (n:=n+1) w.lv w.ok.run (by exact al (aQ _ _) (by assumption)) fun g s r D p o C V A kp=>⟨_,_,(BA.ref A).of,rfl,?_⟩))));clear A;have T:=kp.at w.tb (by simp);have h0:=kp.at B (by simp);have lt:(L.told.map AV.int).length<=999:=by rw[aK];exact T7 tl
 have I:(L.run.rows.map AQ.av).length<=16:=by rw[aK];exact Y
 unfold Zr6;refine Ag (AK (CH (B0 (AZ (BX (H0 (v:=.ref s) rfl (DK (.ref C) (Cn (A8 ?_)))))))))
 have X:Cw 12 (.lst [.lst (L.told.map .int),L.run.av,sv L.now])=true:=Ml (show 3<=1000 by decide) fun v hv=>by
  simp only[aU,bf,or_false] at hv
  rcases hv with rfl|rfl|rfl
  .exact Zzo (by exact al (aQ _ _) (by assumption))
  .exact Qw _ (Al rfl) (Ao.pln_5 w.ok.run)
  .exact RC w.ok.run w.ok.now
 refine AU (BW (BY (v:=.ref s) rfl (Dy (v:=Bx L.run (.ref r)) rfl (u:=sv L.now) rfl (BW (Af (C0 Wc rfl T (Af (C0 HW rfl T (Af (C0 FT rfl T (An (Zi2 X (Zzq (Zzp C) (Zzr V)) (A8 (A9 ?_))))))))))))));unfold Zr5;refine Ag (AK (CH (B0 (AZ (BX (Af (B5 (v:=Bx L.run (.ref r)) rfl (OB.of (v:=.ref r) rfl (AI (DK (.ref V) (Cn (A8 ?_))))))))))));refine CH (B0 (AZ (BX (H0 (v:=.bool L.want.isSome) rfl (OB.of (v:=.bool true) rfl (Cn (A8 ?_)))))));refine Cf (v:=.bool L.want.isSome) rfl (Ci (C0 HX rfl T (Ak (My _ (OB.of (v:=false) (by cases L.want.isSome<;>kernel_rfl) (A8 (A9 ?_)))))));unfold Zr4;refine Ag (Bt (Mg (v:=.ref s) rfl ⟨Dh C,AI (Hi C (Ww (al lt (Al rfl))) ?_)⟩));have N:Kp g (g.set s (.list (L.told.map .int++[.int 9]))) [s]:=Kp.set (CS);have s1:(g.set s (.list (L.told.map .int++[.int 9])))[s]?=some (.list (L.told.map .int++[.int 9])):=Bz (Bm C);have S:=N.at V (by simp;exact ct D);have h1:=N.at h0 (by simp;exact LC l p);have E:Kp H (g.set s (.list (L.told.map .int++[.int 9]))) [d]:=(kp.more (by simp)).via N fun a A t=>by rw[aJ.mp A] at t;exact absurd t (f0.mpr p)
 generalize g.set s (.list (L.told.map .int++[.int 9]))=H1 at N s1 S h1 E ⊢;unfold Zr3;refine Ag (Bt (DG (B5 (v:=Bx L.run (.ref r)) rfl (OB.of (v:=.ref r) rfl ⟨Dh S,Af (AP (AI (An (Hi S (Ww (al I (Al rfl))) ?_))) )⟩))));have O:Kp H1 (H1.set r (.list (L.run.rows.map AQ.av++[.tup [.str "stop"]]))) [r]:=Kp.set (CS);have r2:(H1.set r (.list (L.run.rows.map AQ.av++[.tup [.str "stop"]])))[r]?=some (.list (L.run.rows.map AQ.av++[.tup [.str "stop"]])):=Bz (Bm S);have s2:=O.at s1 (by simp;exact D);have J:=O.at h1 (by simp;exact LC l o);have F:Kp H (H1.set r (.list (L.run.rows.map AQ.av++[.tup [.str "stop"]]))) [d]:=E.via O fun a A t=>by rw[aJ.mp A] at t;exact absurd t (f0.mpr o)
 generalize H1.set r (.list (L.run.rows.map AQ.av++[.tup [.str "stop"]]))=H2 at O r2 s2 J F ⊢;have z:(L.told.map AV.int++[AV.int 9]).length<=1000:=by refine Ac bH ?_;exact ba lt 1
 have y:(L.run.rows.map AQ.av++[AV.tup [.str "stop"]]).length<=1000:=by refine Ac bH ?_;exact al (ba I 1) (Al rfl)
 unfold Zr2;refine Ag (Bt (Mg (v:=.ref d) rfl ⟨Dh J,Af (AP (BY (v:=.ref s) rfl (Af (BX (Ay (v:=.ref s) rfl (El (.ref s2) z (An (An (Hi J (Ww (al hl (Al rfl))) ?_)))))))))⟩));have P:Kp H2 (H2.set d (.list (h++[.tup [.ref s,.lst (L.told.map .int++[.int 9])]]))) [d]:=Kp.set (CS);have M:(H2.set d (.list (h++[.tup [.ref s,.lst (L.told.map .int++[.int 9])]])))[d]?=some (.list (h++[.tup [.ref s,.lst (L.told.map .int++[.int 9])]])):=Bz (Bm J);have s3:=P.at s2 (by simp;exact Hn l p);have Z:=P.at r2 (by simp;exact Hn l o);have G:=F.trans P;generalize H2.set d (.list (h++[.tup [.ref s,.lst (L.told.map .int++[.int 9])]]))=H3 at P M s3 Z G ⊢;unfold Zr1;refine Ag (Bt (Mg (v:=.ref d) rfl ⟨Dh M,Af (AP (Af (B5 (v:=Bx L.run (.ref r)) rfl (OB.of (v:=.ref r) rfl (Af (BX (Af (B5 (v:=Bx L.run (.ref r)) rfl (OB.of (v:=.ref r) rfl (An (El (.ref Z) y (An (An (Hi M (Ww (by refine Ac bH ?_;exact al (ba hl 1) (Al rfl))) ?_))))))))))))))⟩));have R:Kp H3 (H3.set d (.list (h++[.tup [.ref s,.lst (L.told.map .int++[.int 9])]]++[.tup [.ref r,.lst (L.run.rows.map AQ.av++[.tup [.str "stop"]])]]))) [d]:=Kp.set (CS);have h4:(H3.set d (.list (h++[.tup [.ref s,.lst (L.told.map .int++[.int 9])]]++[.tup [.ref r,.lst (L.run.rows.map AQ.av++[.tup [.str "stop"]])]])))[d]?=some (.list (h++[.tup [.ref s,.lst (L.told.map .int++[.int 9])]]++[.tup [.ref r,.lst (L.run.rows.map AQ.av++[.tup [.str "stop"]])]])):=Bz (Bm M);have s4:=R.at s3 (by simp;exact Hn l p);have r4:=R.at Z (by simp;exact Hn l o);have K:=G.trans R;generalize H3.set d (.list (h++[.tup [.ref s,.lst (L.told.map .int++[.int 9])]]++[.tup [.ref r,.lst (L.run.rows.map AQ.av++[.tup [.str "stop"]])]]))=H4 at R h4 s4 r4 K ⊢;have t4:=K.at w.tb (by simp;exact ct U);unfold Zr0
 have pp:GG 4 H4 (.lst [.ref s,.ref r,sv L.now,.int L.many]):=Zzl (.inr .lst) (show 4<=1000 by decide) fun u c=>by
  simp only[aU,bf,or_false] at c
  rcases c with rfl|rfl|rfl|rfl
  .refine (Zzl (.inr (.ref s4)) z fun u c=>?_).up
   rcases bl.mp c with c|c
   .refine Ah (a7.mp c) fun x _ e=>?_;subst e;exact Eo
   .refine Ac (aJ.mp c) ?_;exact Eo
  .refine Zzl (.inr (.ref r4)) y fun u c=>?_
   rcases bl.mp c with c|c
   .refine Ah (a7.mp c) fun x _ e=>?_;subst e;exact J7 x
   .refine Ac (aJ.mp c) ?_;exact J7 .stop
  .exact Wv w.ok.run w.ok.now
  .exact Eo.up.up
 have pf:∀ Q:AV->AH->Prop,Q (.bool true) H4->W (AF tbl (n+4) 41 [.lst [.ref s,.ref r,sv L.now,.int L.many]] H4) Q:=fun Q q=>by
  have:=pp n [] Q;rw[bS] at this;exact this q
 refine Ar (D7 (B4 (Af (BW (BY (v:=.ref s) rfl (Af (B5 (v:=Bx L.run (.ref r)) rfl (OB.of (v:=.ref r) rfl ?_))))))));refine BY (v:=sv L.now) rfl (BY (v:=.int L.many) rfl (An (An ?_)));refine pf _ (Cn (AA (FI (v:=.int L.many) rfl (C0 Wd rfl t4 (BG ?_)))));refine Ac (decide_eq_true rfl) (q _ s r _ _ p o s4 r4 (Ml z fun u c=>?_) (Ml y fun u c=>?_) (by simp) (by simp) h4 K)
 .rcases bl.mp c with c|c
  .refine Ah (a7.mp c) fun x _ e=>?_;subst e;rfl
  .refine Ac (aJ.mp c) ?_;rfl
 .rcases bl.mp c with c|c
  .refine Ah (a7.mp c) fun x _ e=>?_;subst e;exact x.pln_of (Al rfl)
  .refine Ac (aJ.mp c) ?_;exact AQ.pln_of .stop (Al rfl)
theorem MW.less{j k i m M b:Nat}{L:B6}{f:Option (Ao×List Ae)}(w:MW H j k i m b L f)(h:M<=m):MW H j k i M b L f:=by
 have t:=w.tl;have l:=w.hb;exact { w with sf:=fun a b c d e g=>w.sf a b c d e (al g h),tl:=by exact Tw h t,hb:=by exact Lz h l }
theorem Zzu{elt it:DE}{k:Nat}{σ:AW}(h:W (it σ H) fun x aa=>∃ p P b,x=.ref p/\aa[p]?=some (.list [P,b])/\W (elt (AM σ k P) (aa++[.list []])) fun v1 c=>c[p]?=some (.list [P,b])/\c[aa.length]?=some (.list [])/\W (elt (AM σ k b) (c.set aa.length (.list [v1]))) fun v2 a=>a[p]?=some (.list [P,b])/\a[aa.length]?=some (.list [v1])/\Q (.ref aa.length) (a.set aa.length (.list [v1,v2]))):W (F7 elt Ch k it σ H) Q :=
 W.bind (h.mono fun x aa h=>by
  obtain⟨p,P,b,rfl,o,v1,c,E,g,d,v2,a,t,j,e,q⟩:=h;have N:aa.length≠p:=cZ (Bm o);have lo:∀ {H:AH} {l:List AV},H[p]?=some (.list l)->listOf? H (.ref p)=some l:=fun h=>(BA.ref h).of
  have st:∀ {H:AH} {l:List AV} {v:AV},l.length<=10->H[aa.length]?=some (.list l)->BO H (.ref aa.length) (Ff v)=some (H.set aa.length (.list (l++[v]))):=fun {H l v} u h=>by
   unfold BO;simp only[h];unfold Ff;refine Ac (if_pos (al u (Al rfl))) ?_;rfl
  have i:(c.set aa.length (.list [v1]))[p]?=some (.list [P,b]):=by refine Ac (bI N) ?_;exact g
  have n:(a.set aa.length (.list [v1,v2]))[p]?=some (.list [P,b]):=by refine Ac (bI N) ?_;exact j
  have s:∀ f,E5 elt Ch k σ aa.length (fun H=>listOf? H (.ref p)) (f+1) 2 (a.set aa.length (.list [v1,v2]))=.ok () (a.set aa.length (.list [v1,v2])):=fun f=>(GM (lo n) rfl).trans (if_pos rfl)
  have r:∀ f,E5 elt Ch k σ aa.length (fun H=>listOf? H (.ref p)) (f+2) 1 (c.set aa.length (.list [v1]))=.ok () (a.set aa.length (.list [v1,v2])):=fun f=>by
   refine (Zay (lo i) rfl).trans ?_;show (elt (AM σ k b) _).bindB _=_;refine Ac t ?_;show (match BO a (.ref aa.length) (Ff v2) with|some _=>_|none=>_)=_;exact Ac (st (l:=[v1]) (bb rfl) e) (s f)
  have C:E5 elt Ch k σ aa.length (fun H=>listOf? H (.ref p)) 20000 0 (aa++[.list []])=.ok () (a.set aa.length (.list [v1,v2])):=by
   refine (Zay (m:=19999) (Zi7 o _) rfl).trans ?_;show (elt (AM σ k P) _).bindB _=_;refine Ac E ?_;show (match BO c (.ref aa.length) (Ff v1) with|some _=>_|none=>_)=_;exact Ac (st (Al rfl) d) (r 19997)
  refine⟨_,_,?_,q⟩;show (E5 elt Ch k σ aa.length (fun H=>listOf? H (.ref p)) 20000 0 (aa++[.list []])).bindB (fun _ A=>Rs.ok (AV.ref aa.length) A)=_;refine Ac C ?_;rfl)
theorem J8{j k i m b:Nat}{L:B6}{f:Option (Ao×List Ae)}(w:MW H j k i (m+8) b L f)(r:Hh f){p:List Ao}(E:∀ P∈p,P.Ok)(D:p.length=3){c:Int}{σ:AW}(J:σ 1=some (.lst (p.map Ao.av)))(S:σ 5=some (.int c))(y:σ 6=some (.inst cL j))(s:σ 7=some (.ref i))
  (q:∀ σ' h B l F,σ' 8=some (.bool true)->σ' 1=σ 1->σ' 3=σ 3->σ' 4=σ 4->σ' 5=σ 5->MW h j k i (m+1) B l F->Hh F->Kp H h [j,k,i]->WS (Zsm (AF tbl 11) σ' h) N R):WS (Zsn (AF tbl 11) σ H) N R:=by
 unfold Zsn;refine Ag (AK (AU (GD S (Bq (Al rfl) (Ak (BG (BV (fun _=>?_) (fun _=>?_))))))))
 .exact AD (B4 (BY y (BY s (BY J (Af (GD S (Fu (Al rfl) (An (Zze (n:=1) w r E D fun B l F h W x kp=>q _ h B l F rfl rfl rfl rfl rfl (W.less (TX)) x kp)))))))))
 have M:=fm (c.fdiv 3) (b:=6) (Al rfl);obtain⟨t,o⟩:∃ t:Nat,1+(c.fdiv 3).fmod 6=t:=⟨(1+(c.fdiv 3).fmod 6).toNat,by exact SI M⟩;have I:t<=6:=by exact T8 M o
 refine Ag (AD (B4 (BY y (BY s (Af (EL (Br (GD S (Fu (Al rfl) (Ak (Bq (Al rfl) (Bn (An ?_)))))))))))));refine Ac o (Zxz (n:=6) (c:=t) (m:=m+1) (by exact al (by assumption) (Al rfl)) (w.less (SM M o)) fun B l h W kp=>?_);unfold Zsk;refine AK (G4 (AZ (Ax (v:=.bool true) rfl (Cn (AA ?_)))));refine AU (C0 We s W.tb (Ak (My _ ?_)))
 cases f with
 | none=>exact A8 (A9 (q _ h B l none rfl rfl rfl rfl rfl (W.less (U3)) r kp))
 | some u =>
  obtain⟨two,Q⟩:=u;obtain⟨C,O,A,G⟩:=r _ rfl;refine AA (AD (B4 (Dy y s (Zyt (n:=2) W A C G fun g d a z K=>?_))));exact q _ a g d none rfl rfl rfl rfl rfl z (fun u e=>by injection e) (kp.trans K)
def Dj(H:AH)(p:AV):Prop:=∃ s l,p=.tup [.ref s,.lst l]/\H[s]?=some (.list l)/\Cw 12 (.lst l)=true/\l≠[]/\10<=s
theorem Dj.kp{H b:AH}{p:AV}(h:Dj H p){S:List Nat}(kp:Kp H b S)(i:∀ a∈S,a<10):Dj b p:=by
 exact CZ h fun s l e d f g c=>⟨s,l,e,kp.at d fun j=>by have:=i s j;exact U8 c this,f,g,c⟩
theorem Dj.set{p:AV}(h:Dj H p){m:Nat}{L:List AV}(b:H[m]?=some (.list L))(a:L=[]\/Cw 12 (.lst L)=false)(o:AO):Dj (H.set m o) p:=by
 refine CZ h fun s l e c d f g=>⟨s,l,e,?_,d,f,g⟩;rw[bI]
 .exact c
 .intro E;subst E;rw[c] at b;injection inj b with b
  subst b
  rcases a with a|a
  .exact f a
  .rw[d] at a;injection a
theorem J9{n:Nat}{j k i m b:Nat}{L:B6}{f:Option (Ao×List Ae)}(w:MW H j k i (m+1) b L f)(t:9≠i){l:List AV}(e:H[9]?=some (.list l))(u:l.length<=900)(o:∀ p∈l,Dj H p){c:Int}{σ:AW}(C:σ 4=some (.ref 9))(D:σ 5=some (.int c))(S:σ 11=some (.tup [.inst cL j,.ref i]))(q:∀ a l',a[9]?=some (.list l')->l'.length=l.length+2->(∀ p∈l',Dj a p)->Kp H a [9]->Q (.bool true) a):W (Cz (AF tbl (n+5)) (Am (.fn 43)) [Aj (Aa 11) (Am (.int 0)),Aj (Aa 11) (Am (.int 1)),Aa 4,Ap .fdiv (Aa 5) (Am (.int 160))] σ H) Q:=by
 have d:=(Bm e);refine B4 (Af (B5 S (OB.of (v:=.inst cL j) rfl ?_)));refine Af (B5 S (OB.of (v:=.ref i) rfl ?_));refine BY C (Af (GD D (Fu (Al rfl) ?_)));refine An (Zzt w e t u fun a s r A z G g y x B P ns N E kp=>q a _ E (by simp) (fun p h=>?_) kp)
 rcases bl.mp h with h|h
 .rcases bl.mp h with h|h
  .exact (o p h).kp kp (by simp)
  .exact⟨s,A,aJ.mp h,y,B,ns,by exact LP d G⟩
 .exact⟨r,z,aJ.mp h,x,P,N,by exact LP d g⟩
structure Sx(Ps:List Ao)(m:Nat)(σ:AW)(H:AH):Prop where
 s1:σ 1=some (.lst (Ps.map Ao.av))
 s3:σ 3=some (.ref 4)
 s4:σ 4=some (.ref 9)
 w1:∃ b L f,MW H 1 2 3 (7*m+1) b L f/\Hh f
 w2:∃ b L f,MW H 6 7 8 (7*m+1) b L f/\Hh f
 pp:H[4]?=some (.list [.tup [.inst cL 1,.ref 3],.tup [.inst cL 6,.ref 8]])
 hd:∃ l,H[9]?=some (.list l)/\l.length+4*m<=64/\∀ p∈l,Dj H p
theorem MB{P:List Ao}{m:Nat}{σ:AW}(h:Sx P m σ H){l:List AV}(N:H[9]?=some (.list l))(u:l.length+4*(m+1)<=64)(hh:∀ p∈l,Dj H p){c:Int}(X:σ 5=some (.int c))(s8:σ 8=some (.bool true)):WS (Zsm (AF tbl 11) σ H) (Sx P m) R:=by
 unfold Zsm;obtain⟨b1,L1,f1,Y,E⟩:=h.w1;obtain⟨b2,L2,f2,Z,F⟩:=h.w2;have f:=(Bm N);have k:Kp H (H++[.list []]) []:=Kp.app ..;have J:(H++[AO.list []])[H.length]?=some (.list []):=by simp
 have A:(H++[AO.list []]).length=H.length+1:=by simp
 refine Ag (AD (Zzu (Ax h.s3 ⟨4,_,_,rfl,h.pp,?_⟩)));generalize H++[AO.list []]=HA at k J A ⊢;have nm:∀ x,x<10->x≠H.length:=fun x hx=>by exact Tv f A hx
 refine J9 (n:=6) (σ:=AM σ 11 (.tup [.inst cL 1,.ref 3])) (Y.kp k (by simp) (by simp) (by simp)) (Al rfl) (k.at N (by simp)) (U9 u) (fun p j=>(hh p j).kp k (fun _ h=>nomatch h)) h.s4 X rfl fun b l2 e2 L r w=>?_;have M:b[H.length]?=some (.list []):=w.at J (by simp;exact cZ (by assumption));have T:=w.at (k.at h.pp (by simp)) (by simp);refine⟨T,M,?_⟩;have K:Kp b (b.set H.length (.list [.bool true])) [H.length]:=Kp.set (CS);have Q:(b.set H.length (.list [.bool true]))[H.length]?=some (.list [.bool true]):=Bz (Bm M);have G:=K.at e2 (by simp;exact bV (by assumption));have g:∀ p∈l2,Dj (b.set H.length (.list [.bool true])) p:=fun p j=>(r p j).set M (.inl rfl) _;have U:=K.at T (by simp;exact LB f A);have z:Kp H (b.set H.length (.list [.bool true])) [9]:=((k.more (by simp)).trans w).via K fun a q t=>by rw[aJ.mp q] at t;exact absurd t (dj _)
 generalize b.set H.length (.list [.bool true])=H3 at K Q G g U z ⊢;refine J9 (n:=6) (σ:=AM σ 11 (.tup [.inst cL 6,.ref 8])) (Z.kp z (by simp) (by simp) (by simp)) (Al rfl) G (Td u L) g h.s4 X rfl fun d O e4 C s y=>?_;have D:d[H.length]?=some (.list [.bool true]):=y.at Q (by simp;exact cZ (by assumption));have V:=y.at U (by simp);refine⟨V,D,?_⟩;have o:Kp d (d.set H.length (.list [.bool true,.bool true])) [H.length]:=Kp.set (CS);have S:(d.set H.length (.list [.bool true,.bool true]))[H.length]?=some (.list [.bool true,.bool true]):=Bz (Bm D);have I:=o.at e4 (by simp;exact bV (by assumption));have i:∀ p∈O,Dj (d.set H.length (.list [.bool true,.bool true])) p:=fun p j=>(s p j).set D (.inr rfl) _;have W:=o.at V (by simp;exact LB f A);have B:Kp H (d.set H.length (.list [.bool true,.bool true])) [9]:=(z.trans y).via o fun a q t=>by rw[aJ.mp q] at t;exact absurd t (dj _)
 generalize d.set H.length (.list [.bool true,.bool true])=H5 at o S I i W B ⊢;unfold Zsl;refine AK (CH (B0 (AZ (Ax (v:=.bool true) s8 (Cn (A8 ?_))))))
 have en:Bl H5 .ne (.ref H.length) (.lst [.bool true,.bool true])=some false:=by
  have e:D3 H5 (.ref H.length) (.lst [.bool true,.bool true])=D3 H5 (.lst [.bool true,.bool true]) (.lst [.bool true,.bool true]):=by
   unfold D3;exact Ac (Zi3 S) rfl
  show (D3 H5 (.ref H.length) (.lst [.bool true,.bool true])).map (!·)=_;refine Ac e ?_
  kernel_rfl
 refine Cf (v:=.ref H.length) rfl (EZ (v:=.lst [.bool true,.bool true]) rfl (OB.of en (A8 (A9 ?_))));exact⟨h.s1,h.s3,h.s4,⟨b1,L1,f1,Y.kp B (by simp) (by simp) (by simp),E⟩,⟨b2,L2,f2,Z.kp B (by simp) (by simp) (by simp),F⟩,W,O,I,by exact SN u L C,i⟩
theorem Wx{s:List Ao}(o:∀ P∈s,P.Ok)(n:s.length=3){m:Nat}{σ:AW}(h:Sx s (m+1) σ H){c:Int}:WS (Zso (AF tbl 11) (AM σ 5 (.int c)) H) (Sx s m) R:=by
 unfold Zso;obtain⟨z,x,C,W,b⟩:=h.w1;obtain⟨A,y,D,t,d⟩:=h.w2;refine Bu h.hd fun l e q f=>Ag (GZ (Ba (v:=.ref 4) h.s3 (BX (Af (Ci (Br (GD (v:=.int c) rfl (Fu (Al rfl) (Ak (Bq (Al rfl) (Ak (BG (An (KR ?_))))))))))))))
 cases decide ((c.fdiv 40).fmod 4=1) with
 | false =>
  refine B8 (.ref h.pp) (v:=.tup [.inst cL 1,.ref 3]) rfl (OB.of rfl ?_);exact J8 (m:=7*m) (σ:=AM (AM (AM σ 5 (.int c)) 6 (.inst cL 1)) 7 (.ref 3)) W b o n (c:=c) h.s1 rfl rfl rfl fun k u B L F S E g i j w r kp=>MB ⟨E.trans h.s1,g.trans h.s3,i.trans h.s4,⟨B,L,F,w,r⟩,⟨A,y,D,(t.kp kp (by simp) (by simp) (by simp)).less (LE),d⟩,kp.at h.pp (by simp),l,kp.at e (by simp),by exact L9 q,fun p a=>(f p a).kp kp (by simp)⟩ (kp.at e (by simp)) (by assumption) (fun p a=>(f p a).kp kp (by simp)) (c:=c) (j.trans rfl) S
 | true =>
  refine B8 (.ref h.pp) (v:=.tup [.inst cL 6,.ref 8]) rfl (OB.of rfl ?_);exact J8 (m:=7*m) (σ:=AM (AM (AM σ 5 (.int c)) 6 (.inst cL 6)) 7 (.ref 8)) t d o n (c:=c) h.s1 rfl rfl rfl fun k u B L F S E g i j w r kp=>MB ⟨E.trans h.s1,g.trans h.s3,i.trans h.s4,⟨z,x,C,(W.kp kp (by simp) (by simp) (by simp)).less (LE),b⟩,⟨B,L,F,w,r⟩,kp.at h.pp (by simp),l,kp.at e (by simp),by exact L9 q,fun p a=>(f p a).kp kp (by simp)⟩ (kp.at e (by simp)) (by assumption) (fun p a=>(f p a).kp kp (by simp)) (c:=c) (j.trans rfl) S
theorem Wy{ns:List Int}(n:ns.length<=63){p:List Ao}(u:∀ P∈p,P.Ok)(q:p.length=3){σ:AW}(S:σ 0=some (.lst (ns.map .int)))(h:Sx p 16 σ H)(T:∀ H,R (.bool true) H):WS (VN (AF tbl 11) σ H) N R:=by
 unfold VN
 have o:cut (ns.map AV.int) (some 5) (some 21)=((ns.take 21).drop 5).map AV.int:=by
  show ((ns.map AV.int).take 21).drop 5=_;exact Ac ko (Ac iN rfl)
 refine Ag (CX (EO (Ax (v:=.lst (ns.map .int)) S (Dv (Ak ⟨5,rfl,Dv (Ak ⟨21,rfl,Zi6 rfl (by rw[aK];exact al n (Al rfl)) (OB.of (congrArg some o) ?_)⟩)⟩)))));refine Qv (fun r σ d=>r.length<=16/\∃ m,r.length<=m/\Sx p m σ d) (fun c r σ d b=>?_) (fun σ d b=>?_) ⟨by refine Ac i1 (Ac i2 ?_);exact j6 (l1 _ _),16,by refine Ac i1 (Ac i2 ?_);exact j6 (l1 _ _),h⟩
 .obtain⟨a,m,g,I⟩:=b;rw[ej] at g a;obtain⟨M,rfl⟩:∃ M,m=M+1:=⟨m-1,by exact SH a g⟩;refine Cg (Wx u q I (c:=c) (R:=R)) fun x f e k=>⟨x,f,e,?_⟩;obtain⟨fl,A⟩:=x
  cases fl with
  | ret v=>exact k
  | next=>exact⟨by exact cC (by assumption),M,by exact Ir g,k⟩
 .obtain⟨_,m,_,I⟩:=b;refine Bu I.hd fun l t w b=>?_;unfold Zsp;refine Ar (Ci (Zjf (Ax I.s4 ⟨9,l,rfl,t,by exact UA w,fun v y X=>?_,BW (An (OB.of (v:=true) (by kernel_rfl) (T _)))⟩)));refine CZ (b v y) fun s L E j z _ _=>?_;subst E;have i:(d++X)[s]?=some (.list L):=by refine Ac (aM (Bm j)) ?_;exact j
  exact AU (B5 (v:=.tup [.ref s,.lst L]) rfl (OB.of (v:=.ref s) rfl (B5 (v:=.tup [.ref s,.lst L]) rfl (OB.of (v:=.lst L) rfl (Zi2 z (Zi3 i) ⟨rfl,rfl⟩)))))
theorem Wz{l:List Ao}(h:l.length=3):∃ a b c,l=[a,b,c]:=by
 cases l with
 | nil=>exact absurd (show 0=3 from h) (Al rfl)
 | cons a l =>
  cases l with
  | nil=>exact absurd (show 1=3 from h) (Al rfl)
  | cons b l =>
   cases l with
   | nil=>exact absurd (show 2=3 from h) (Al rfl)
   | cons c l =>
    cases l with
    | nil=>exact⟨a,b,c,rfl⟩
    | cons d l=>exact absurd h (cZ (aZ (Al rfl) (fv 4 l.length)))
theorem run09(ns:List Int)(d:ns.length<=63):∃ B,AF tbl 12 46 [.lst (ns.map .int)] []=.ok (.bool true) B:=by
 suffices h:W (AF tbl 12 46 [.lst (ns.map .int)] []) fun v _=>v=.bool true by
  refine Cg h fun v H e q=>?_;subst q;exact⟨H,e⟩
 refine AB (f:=⟨1,true,Jk⟩) rfl (FK (fun C R S hR=>?_));have hT:∀ H,R (.bool true) H:=fun H=>hR _ _ ⟨rfl,_,rfl,rfl⟩;unfold Jk;refine Ag (AD (KS (f:=fun k:Nat=>AV.int k) (P:=fun _ x=>∃ P:Ao,P.Ok/\x=P.av) (BX (AI (Mk (Al rfl) (Al rfl) ⟨eT 3,?_,by simp,?_,?_⟩)))))
 .show (if -1048576<=(3:Int)/\(3:Int)<=1048576 then some (BP 3) else none)=_;refine Ac (if_pos ⟨by decide,by decide⟩) ?_;rfl
 .intro k hk B;have t:=gZ.mp hk;exact B4 (Af (B4 (Dy (v:=.lst (ns.map .int)) S rfl (FN d (by exact bd _) (T5 t) fun c=>An (Zuc fun P I=>⟨rfl,Mj _ (Al rfl) (Vy (Ao.pln_5 I)),P,I,rfl⟩)))))
 intro ys J;refine Ah (J.pick (f:=Ao.av) (R:=fun P:Ao=>P.Ok) fun a b p=>p) fun Ps E s=>?_;subst E;refine (Wz ((aK ..).symm.trans (J.length.trans rfl))).elim fun g h=>h.elim fun i h=>h.elim fun o Y=>?_;subst Y;have r:=s g (by simp);have F:=s i (by simp);unfold Zsu;refine Ag (AD (B4 (Af (B4 (H0 (v:=.lst (ns.map .int)) S (FN d (Al rfl) (Al rfl) fun V=>Af (B5 (v:=.lst [g.av,i.av,o.av]) rfl (OB.of (v:=g.av) rfl (An (Zue r fun X M=>?_))))))))));unfold Zst;refine Ag (AK (B0 (AZ (B4 (Af (B5 (v:=.lst [g.av,i.av,o.av]) rfl (OB.of (v:=g.av) rfl (BY (v:=Co X) rfl (Af (B4 (H0 (v:=.lst (ns.map .int)) S (FN d (Al rfl) (Al rfl) fun V=>An (Zzf (n:=4) r M (Cn (A8 (A9 ?_))))))))))))))));unfold Zss;refine Ag (AD (Du (Af (B4 (Af (B5 (v:=.lst [g.av,i.av,o.av]) rfl (OB.of (v:=g.av) rfl (Ay (v:=Co X) rfl (Zye (n:=5) (m:=113) (Al rfl) r M fun j A _ L=>An ?_)))))))));have L:j.length=4:=L;refine Ac L ?_;have A:MW j 1 2 3 113 10 (newS g X) none:=A;have N:Kp j (j++[AO.list [.tup [.inst cL 1,.ref 3]]]) []:=Kp.app ..;have G:(j++[AO.list [.tup [.inst cL 1,.ref 3]]])[4]?=some (.list [.tup [.inst cL 1,.ref 3]]):=by refine BE L ?_;simp
 have Q:(j++[AO.list [.tup [.inst cL 1,.ref 3]]]).length=5:=by simp[L]
 refine (?_:WS (Zsr (AF tbl 11) _ (j++[AO.list [.tup [.inst cL 1,.ref 3]]])) _ _);generalize j++[AO.list [.tup [.inst cL 1,.ref 3]]]=H2 at N G Q ⊢;unfold Zsr;refine Ag (Bt (Mg (v:=.ref 4) rfl ⟨Dh G,Af (B4 (Af (B5 (v:=.lst [g.av,i.av,o.av]) rfl (OB.of (v:=i.av) rfl (Af (B4 (Af (B4 (H0 (v:=.lst (ns.map .int)) S (FN d (Al rfl) (Al rfl) fun c4=>Af (B5 (v:=.lst [g.av,i.av,o.av]) rfl (OB.of (v:=i.av) rfl (An (Zue F fun ys hy=>An (Zye (n:=5) (m:=113) (Al rfl) F hy fun l U O y=>An (Hi (O.at G (by simp)) (Ww (Al rfl)) ?_))))))))))))))))⟩));rw[Q] at U y ⊢;have K:Kp l (l.set 4 (.list [.tup [.inst cL 1,.ref 3],.tup [.inst cL 6,.ref 8]])) [4]:=Kp.set (CS);have D:(l.set 4 (.list [.tup [.inst cL 1,.ref 3],.tup [.inst cL 6,.ref 8]]))[4]?=some (.list [.tup [.inst cL 1,.ref 3],.tup [.inst cL 6,.ref 8]]):=Bz (Tr y);have z:(l.set 4 (.list [.tup [.inst cL 1,.ref 3],.tup [.inst cL 6,.ref 8]])).length=9:=by refine Ac bZ ?_;exact y
 refine (?_:WS (Ai (AG 4 (Di [])) (VN (AF tbl 11)) _ (l.set 4 (.list [.tup [.inst cL 1,.ref 3],.tup [.inst cL 6,.ref 8]]))) _ _);generalize l.set 4 (.list [.tup [.inst cL 1,.ref 3],.tup [.inst cL 6,.ref 8]])=H4 at K D z ⊢;refine Ag (AD (Du (An ?_)));refine Ac z ?_;have w:Kp H4 (H4++[AO.list []]) []:=Kp.app ..;have Z:(H4++[AO.list []])[9]?=some (.list []):=by refine BE z ?_;simp
 have T:Hh none:=fun u e=>by injection e
 have kA:Kp j (H4++[AO.list []]) [4]:=(((N.trans O).more (by simp)).trans K).trans (w.more (by simp));have kB:Kp l (H4++[AO.list []]) [4]:=K.trans (w.more (by simp));refine (?_:WS (VN (AF tbl 11) (AM (AM (AM (AM C 1 (.lst (mQ Ao.av [g,i,o]))) 2 (.tup (X.map .int))) 3 (.ref 4)) 4 (.ref 9)) (H4++[AO.list []])) _ _);exact Wy (σ:=AM (AM (AM (AM C 1 (.lst (mQ Ao.av [g,i,o]))) 2 (.tup (X.map .int))) 3 (.ref 4)) 4 (.ref 9)) d s rfl S ⟨rfl,rfl,rfl,⟨_,_,_,A.kp kA (by simp) (by simp) (by simp),T⟩,⟨_,_,_,U.kp kB (by simp) (by simp) (by simp),T⟩,w.at D (by simp),[],Z,by decide,fun _ h=>nomatch h⟩ hT
end Mine
namespace Mine
open PySem PySem.W PySem.Calls PyProof.Rows
abbrev HO:=HZ->fj
def hz(p:cB)(P:kq):HZ:=⟨Z0w p,Sz p,dEn P,Z0x (Bb ["dict","__main__.__loader__#opaque","tuple","code","frame"] (Bb ["ValueError","builtin_function_or_method","type.__prepare__","type","Exception"] (Bb ["BaseException","object","ValueError.__new__","getset_descriptor","ExceptionGroup.__weakref__"] (Bb ["super","object.__init_subclass__","function","object.__new__","function.__dict__"] ["function.__dict__#set"]))))⟩
noncomputable def AS(l:List Nat):aW:=⟨⟨l⟩⟩
def x0:=AS [95,95,110,97,109,101,95,95]
def x1:=AS [108,97,119,95,117,102,48,51,48,48,49,50,95,48,57]
def x2:=AS [95,95,100,111,99,95,95]
def x3:=AS [95,95,112,97,99,107,97,103,101,95,95]
def x4:=AS [95,95,108,111,97,100,101,114,95,95]
def x5:=AS [95,95,115,112,101,99,95,95]
def x6:=AS [95,95,97,110,110,111,116,97,116,105,111,110,115,95,95]
def x7:=AS [95,95,98,117,105,108,116,105,110,115,95,95]
def x8:=AS [95,95,102,105,108,101,95,95]
def x9:=AS [47,99,108,97,105,109,47,99,117,116,46,112,121]
def x10:=AS [95,95,99,97,99,104,101,100,95,95]
def JA:=AS [83,119,97,112,69,114,114,111,114]
def JB:=AS [66,97,100,80,114,111,103,114,97,109]
def JC:=AS [66,97,100,83,116,97,116,101]
def FV:=AS [66,97,100,80,108,97,99,101,115]
def JD:=AS [66,97,100,67,111,117,110,116]
def Ga:=AS [66,117,115,121]
def JE:=AS [79,118,101,114]
def Gb:=AS [85,110,115,97,102,101]
def x19:=AS [77,79,83,84,95,66,79,88,69,83]
def JF:=AS [77,79,83,84,95,78,85,77,66,69,82]
def x21:=AS [77,79,83,84,95,82,79,87,83]
def G8:=AS [105,115,95,97,109,111,110,103]
def JX:=AS [105,115,95,114,111,119]
def G9:=AS [105,115,95,112,114,111,103,114,97,109]
def JY:=AS [110,101,101,100,95,112,114,111,103,114,97,109]
def JZ:=AS [97,114,101,95,110,117,109,98,101,114,115]
def Ka:=AS [119,105,116,104,95,110,117,109,98,101,114]
def Kb:=AS [100,111,110,101]
def x29:=AS [77,79,83,84,95,80,76,65,67,69,83]
def Kc:=AS [105,115,95,110,117,109,98,101,114]
def Ke:=AS [105,115,95,114,117,108,101]
def Kf:=AS [105,115,95,112,108,97,99,101]
def Kg:=AS [110,101,101,100,95,112,108,97,99,101,115]
def Kh:=AS [110,117,109,98,101,114,95,98,121]
def Ki:=AS [116,117,114,110,101,100]
def Kj:=AS [112,108,97,99,101,95,97,116]
def Kk:=AS [109,101,101,116,115]
def Kl:=AS [99,111,112,105,101,100]
def JG:=AS [76,105,118,101]
def Km:=AS [95,108,97,119,95,99,101,108,108,95,97,116]
def Kn:=AS [95,108,97,119,95,110,101,120,116]
def Ko:=AS [95,108,97,119,95,114,111,119]
def Kq:=AS [95,108,97,119,95,112,114,111,103,114,97,109]
def Kr:=AS [95,108,97,119,95,114,117,108,101]
def Ks:=AS [95,108,97,119,95,112,108,97,99,101,115]
def Kt:=AS [95,108,97,119,95,110,117,109,98,101,114,115]
def Ku:=AS [95,108,97,119,95,112,117,116]
def Kv:=AS [95,108,97,119,95,115,116,101,112]
def Kw:=AS [95,108,97,119,95,116,117,114,110,101,100]
def Kx:=AS [95,108,97,119,95,114,117,108,101,115]
def Ky:=AS [95,108,97,119,95,109,101,116]
def Kz:=AS [95,108,97,119,95,99,111,112,105,101,100]
def K0:=AS [95,108,97,119,95,100,117,101]
def K1:=AS [95,108,97,119,95,99,111,109,101]
def K2:=AS [95,108,97,119,95,107,105,110,100,115]
def K3:=AS [95,108,97,119,95,116,111,108,100]
def K4:=AS [95,108,97,119,95,111,100,100,95,112,108,97,99,101]
def K5:=AS [95,108,97,119,95,116,97,107,101,110]
def K6:=AS [95,108,97,119,95,97,103,97,105,110]
def K7:=AS [95,108,97,119,95,109,101,110,100,101,100]
def K8:=AS [95,108,97,119,95,114,101,112,97,105,114,101,100]
def K9:=AS [95,108,97,119,95,97,115,107,101,100]
def KA:=AS [95,108,97,119,95,102,105,116,115]
def KB:=AS [95,108,97,119,95,103,111,110,101]
def KD:=AS [95,108,97,119,95,112,108,97,105,110]
def KF:=AS [95,108,97,119,95,97,110,115,119,101,114,115]
def KG:=AS [95,108,97,119,95,115,116,97,110,100,115]
def MC:=AS [95,108,97,119,95,98,101,103,117,110]
def MD:=AS [95,108,97,119,95,110,111,116,95,109,97,100,101]
def RE:=AS [108,97,119]
def x71:=AS [60,109,111,100,117,108,101,62]
def x72:=AS [95,95,109,97,105,110,95,95]
def Gc:=AS [95,95,109,111,100,117,108,101,95,95]
def E4:=AS [108,105,118,101,115,119,97,112,46,101,114,114,111,114,115]
def Li:=AS [95,95,113,117,97,108,110,97,109,101,95,95]
def Gd:=AS [95,95,102,105,114,115,116,108,105,110,101,110,111,95,95]
def Ge:=AS [95,95,115,116,97,116,105,99,95,97,116,116,114,105,98,117,116,101,115,95,95]
def x78:=AS [95,95,119,101,97,107,114,101,102,95,95]
def KH:=AS [95,95,105,110,105,116,95,95]
def KI:=AS [115,101,108,102]
def x81:=AS [115,104,111,119,110]
def x82:=AS [85,110,115,97,102,101,46,95,95,105,110,105,116,95,95]
def x83:=AS [116,104,105,110,103]
def x84:=AS [108,101,97,115,116]
def x85:=AS [109,111,115,116]
def RF:=AS [108,105,118,101,115,119,97,112,46,112,114,111,103,114,97,109,115]
def x87:=AS [114,111,119]
def x88:=AS [98,111,120,101,115]
def x89:=AS [109,97,110,121]
def x90:=AS [110,117,109,98,101,114,115]
def x91:=AS [98,111,120]
def x92:=AS [110,117,109,98,101,114]
def ME:=AS [112,114,111,103,114,97,109]
def RG:=AS [115,116,97,116,101]
def W0:=AS [112,108,97,99,101]
def x96:=AS [116,119,111]
def RH:=AS [108,105,118,101,115,119,97,112,46,112,108,97,99,101,115]
def x98:=AS [111,110,101]
def x99:=AS [112,108,97,99,101,115]
def W1:=AS [115,101,101,110]
def Z3s:=AS [114,117,108,101]
def Z3t:=AS [108,105,118,101,115,119,97,112,46,108,111,111,107,105,110,103]
def Ep:=AS [108,105,118,101,115,119,97,112,46,108,105,118,105,110,103]
def JH:=AS [99,111,109,101]
def JI:=AS [103,111]
def JJ:=AS [97,115,107]
def JK:=AS [115,97,105,100]
def JL:=AS [119,97,105,116,115]
def JM:=AS [99,104,97,110,103,101,100]
def Z3u:=AS [98,101,103,105,110]
def RI:=AS [76,105,118,101,46,95,95,105,110,105,116,95,95]
def RJ:=AS [76,105,118,101,46,99,111,109,101]
def RK:=AS [76,105,118,101,46,103,111]
def Z3v:=AS [103,111,111,100]
def Z3w:=AS [102,111,117,110,100]
def RL:=AS [76,105,118,101,46,97,115,107]
def RM:=AS [76,105,118,101,46,115,97,105,100]
def RN:=AS [76,105,118,101,46,115,116,97,116,101]
def RO:=AS [76,105,118,101,46,112,114,111,103,114,97,109]
def RP:=AS [76,105,118,101,46,119,97,105,116,115]
def RQ:=AS [76,105,118,101,46,99,104,97,110,103,101,100]
def Z3x:=AS [110,111,119]
def Z3y:=AS [114,117,110,110,105,110,103]
def Z3z:=AS [116,111,108,100]
def Z30:=AS [119,97,110,116,101,100]
def W2:=AS [95,95,100,105,99,116,95,95]
def Z31:=AS [95,108,97,119,95,115,99,114,105,112,116]
def Lj:=AS [95,108,97,119,95,107]
def JN:=AS [95,108,97,119,95,115,101,101,100]
def W3:=AS [95,108,97,119,95,98,111,120,101,115]
def W4:=AS [95,108,97,119,95,109,111,115,116]
def Ll:=AS [95,108,97,119,95,109,97,110,121]
def Z32:=AS [95,108,97,119,95,112,105,99,107]
def RR:=AS [95,108,97,119,95,98,111,120]
def Lm:=AS [95,108,97,119,95,99,101,108,108]
def Z33:=AS [95,108,97,119,95,114,111,119,115]
def Ln:=AS [95,108,97,119,95,111,110,101]
def FW:=AS [95,108,97,119,95,116,119,111]
def Lo:=AS [95,108,97,119,95,110,117,109,98,101,114,115,95,104,101,114,101]
def Ib:=AS [95,108,97,119,95,112,114,111,103,114,97,109,95,104,101,114,101]
def Ic:=AS [95,108,97,119,95,102,111,117,110,100]
def W5:=AS [95,108,97,119,95,110,117,109,98,101,114]
def Lp:=AS [95,108,97,119,95,114,111,119,95,104,101,114,101]
def RS:=AS [95,108,97,119,95,115,116,97,116,101]
def Z34:=AS [95,108,97,119,95,97,116]
def Z35:=AS [95,108,97,119,95,109,111,114,101]
def JO:=AS [95,108,97,119,95,114,117,108,101,115,95,104,101,114,101]
def W6:=AS [95,108,97,119,95,114,117,108,101,95,104,101,114,101]
def FX:=AS [95,108,97,119,95,112,108,97,99,101,115,95,104,101,114,101]
def W7:=AS [95,108,97,119,95,112,108,97,99,101]
def Z36:=AS [95,108,97,119,95,99,97,109,101]
def FY:=AS [95,108,97,119,95,115]
def JP:=AS [95,108,97,119,95,111,100,100]
def Z37:=AS [95,108,97,119,95,109,101,101,116,115]
def RU:=AS [95,108,97,119,95,101]
def Z38:=AS [95,108,97,119,95,119,111,114,100,115]
def Fq:=AS [95,108,97,119,95,108,105,118,101]
def Z39:=AS [95,108,97,119,95,115,111,109,101]
def JQ:=AS [95,108,97,119,95,104,97,110,100,101,100]
def W8:=AS [95,108,97,119,95,100,117,101,95,104,101,114,101]
def Z4a:=AS [95,108,97,119,95,112,114,111,103,114,97,109,115]
def Z4b:=AS [95,108,97,119,95,111,116,104,101,114]
def RV:=AS [95,108,97,119,95,116,117,114,110]
def Z4c:=AS [95,108,97,119,95,105,115,95,111,110]
def Z4d:=AS [95,108,97,119,95,108,97,116,101,114]
def Z4e:=AS [95,108,97,119,95,119,97,121]
def Z4f:=AS [95,108,97,119,95,104,101,108,100]
def Z4g:=AS [95,108,97,119,95,115,97,105,100]
def Z4h:=AS [95,108,97,119,95,119,97,105,116,115]
def W9:=AS [95,108,97,119,95,98,101,103,105,110]
noncomputable def oo(f:HO):HO:=fun z=>f z
noncomputable def oA:HO:=fun z=>⟨.type (z.s 2),none,.seq #[] 0,#[]⟩
noncomputable def oC(n:aW)(a:Nat)(q:aW)(b c:Nat)(l m k:Int)(r:aF)(f:Bool)(R:aF)(u v w:aC)(e:Int)(d:Nat):HO:=fun z=>⟨.type (z.s 3),none,.fields #[.str n a,.str q b,.str x9 c,.int l 0,.int m 0,.int 0 0,.int 0 0,.int k 0,.ref r,.bool f,.int 181 0,.ref R,.none,u,v,w,.int e 0,.int l 0,.str x9 d],#[]⟩
noncomputable def oK(a b:aF)(x:aW)(n:Nat):HO:=fun z=>⟨.type (z.s 4),none,.plain,#[some (.ref a),some (.ref 3),some (.ref b),none,some (.str x n),none,some (.ref 0)]⟩
noncomputable def oB:HO:=fun z=>⟨.none,none,.fields #[],#[]⟩
noncomputable def oS(l:Array aC):HO:=fun z=>⟨.type (z.s 2),none,.seq l 0,#[]⟩
def oH(j k:Nat)(n q:aW):HO:=fun z=>⟨.none,none,.func (fnD (z.m j k) n q 0 [] .none .none .none .none none .none .none 0),#[]⟩
def oM(j k:Nat)(n q u:aW)(v:Nat)(r:aF):HO:=fun z=>⟨.type (z.s 17),none,.func (fnD (z.m j k) n q 3 [] .none .none .none (.str u v) none (.ref r) .none 0),#[]⟩
def oG(k:Nat)(n q:aW):HO:=fun z=>⟨.none,none,.func (fnD (z.f k) n q 0 [] .none .none .none .none none .none .none 0),#[]⟩
def oF(k:Nat)(n q u:aW)(v:Nat)(r:aF):HO:=fun z=>⟨.type (z.s 17),none,.func (fnD (z.f k) n q 3 [] .none .none .none (.str u v) none (.ref r) .none 0),#[]⟩
def h_3:=oo fun z=>⟨.type (z.s 0),none,(.dict #[z.e x0 165 (.str x1 572),z.e x2 166 .none,z.e x3 167 .none,z.e x4 168 (.builtin (z.s 1)),z.e x5 169 .none,z.e x6 170 (.ref 6),z.e x7 171 (.ref 4),z.e x8 173 (.str x9 172),z.e x10 174 .none,z.e JA 206 (.ref 24),z.e JB 222 (.ref 37),z.e JC 238 (.ref 49),z.e FV 254 (.ref 61),z.e JD 270 (.ref 73),z.e Ga 286 (.ref 85),z.e JE 302 (.ref 97),z.e Gb 327 (.ref 116),z.e x19 331 (.int 3 330),z.e JF 333 (.int 4 332),z.e x21 335 (.int 20 334),z.e G8 344 (.ref 125),z.e JX 354 (.ref 132),z.e G9 360 (.ref 137),z.e JY 367 (.ref 144),z.e JZ 373 (.ref 149),z.e Ka 382 (.ref 156),z.e Kb 394 (.ref 163),z.e x29 398 (.int 20 397),z.e Kc 406 (.ref 170),z.e Ke 412 (.ref 175),z.e Kf 418 (.ref 180),z.e Kg 429 (.ref 187),z.e Kh 437 (.ref 194),z.e Ki 443 (.ref 199),z.e Kj 452 (.ref 206),z.e Kk 466 (.ref 213),z.e Kl 475 (.ref 220),z.e JG 571 (.ref 293),z.e Km 581 (.ref 304),z.e Kn 588 (.ref 311),z.e Ko 600 (.ref 318),z.e Kq 613 (.ref 325),z.e Kr 624 (.ref 332),z.e Ks 630 (.ref 337),z.e Kt 640 (.ref 344),z.e Ku 650 (.ref 351),z.e Kv 662 (.ref 358),z.e Kw 673 (.ref 365),z.e Kx 682 (.ref 372),z.e Ky 692 (.ref 379),z.e Kz 699 (.ref 386),z.e K0 710 (.ref 393),z.e K1 716 (.ref 398),z.e K2 724 (.ref 405),z.e K3 734 (.ref 412),z.e K4 746 (.ref 419),z.e K5 760 (.ref 426),z.e K6 771 (.ref 433),z.e K7 783 (.ref 440),z.e K8 794 (.ref 447),z.e K9 810 (.ref 454),z.e KA 822 (.ref 461),z.e KB 835 (.ref 468),z.e KD 841 (.ref 473),z.e KF 852 (.ref 480),z.e KG 867 (.ref 487),z.e MC 878 (.ref 494),z.e MD 889 (.ref 501),z.e RE 895 (.ref 506)] 69),#[]⟩
def Z4i:=oo fun z=>⟨.none,none,.fields #[.int 2 0,.int 0 0,.ref 20,.int 4 0,.int 0 0,.ref 33,.int 6 0,.int 0 0,.ref 45,.int 8 0,.int 0 0,.ref 57,.int 10 0,.int 0 0,.ref 69,.int 12 0,.int 0 0,.ref 81,.int 14 0,.int 0 0,.ref 93,.int 16 0,.int 0 0,.ref 105,.int 25 0,.int 0 0,.ref 124,.int 27 0,.int 0 0,.ref 131,.int 43 0,.int 0 0,.ref 136,.int 54 0,.int 0 0,.ref 143,.int 58 0,.int 0 0,.ref 148,.int 62 0,.int 0 0,.ref 155,.int 64 0,.int 0 0,.ref 162,.int 87 0,.int 0 0,.ref 169,.int 89 0,.int 0 0,.ref 174,.int 99 0,.int 0 0,.ref 179,.int 105 0,.int 0 0,.ref 186,.int 114 0,.int 0 0,.ref 193,.int 118 0,.int 0 0,.ref 198,.int 123 0,.int 0 0,.ref 205,.int 129 0,.int 0 0,.ref 212,.int 145 0,.int 0 0,.ref 219,.int 147 0,.int 0 0,.ref 226,.int 208 0,.int 0 0,.ref 303,.int 212 0,.int 0 0,.ref 310,.int 214 0,.int 0 0,.ref 317,.int 230 0,.int 0 0,.ref 324,.int 242 0,.int 0 0,.ref 331,.int 249 0,.int 0 0,.ref 336,.int 258 0,.int 0 0,.ref 343,.int 264 0,.int 0 0,.ref 350,.int 268 0,.int 0 0,.ref 357,.int 286 0,.int 0 0,.ref 364,.int 296 0,.int 0 0,.ref 371,.int 301 0,.int 0 0,.ref 378,.int 311 0,.int 0 0,.ref 385,.int 313 0,.int 0 0,.ref 392,.int 324 0,.int 0 0,.ref 397,.int 334 0,.int 0 0,.ref 404,.int 341 0,.int 0 0,.ref 411,.int 347 0,.int 0 0,.ref 418,.int 357 0,.int 0 0,.ref 425,.int 366 0,.int 0 0,.ref 432,.int 371 0,.int 0 0,.ref 439,.int 378 0,.int 0 0,.ref 446,.int 386 0,.int 0 0,.ref 453,.int 413 0,.int 0 0,.ref 460,.int 421 0,.int 0 0,.ref 467,.int 434 0,.int 0 0,.ref 472,.int 438 0,.int 0 0,.ref 479,.int 453 0,.int 0 0,.ref 486,.int 464 0,.int 0 0,.ref 493,.int 470 0,.int 0 0,.ref 500,.int 478 0,.int 0 0,.ref 505],#[]⟩
def Z4j:=oC x71 182 x71 183 184 1 0 0 11 false 12 .none .none .none 185 186
def Z4k:=oK 13 3 x72 164
def WA:=oo fun z=>⟨.type (z.s 2),none,.seq #[.type (z.s 5)] 0,#[]⟩
def Z4l:=oo fun z=>⟨.type (z.s 6),none,.fields #[.builtin (z.s 7),.type (z.s 8)],#[]⟩
def Z4m:=oo fun z=>⟨.type (z.s 0),none,.dict #[z.e Gc 196 (.str E4 187),z.e Li 198 (.str JA 197),z.e Gd 200 (.int 2 199),z.e Ge 201 (.ref 22)] 4,#[]⟩
def Z4n:=oC JA 191 JA 192 193 2 0 0 18 false 19 .none .none .none 194 195
def Z4o:=oK 20 17 E4 187
def WB:=oo fun z=>⟨.type (z.s 0),none,.dict #[z.e Gc 196 (.str E4 187),z.e Gd 200 (.int 2 199),z.e Ge 201 (.ref 22),z.e x78 203 (.ref 25),z.e x2 204 .none] 3,#[]⟩
def WC:=oo fun z=>⟨.type (z.s 8),none,.cls ⟨JA,[.type (z.s 5)],[.ref 24,.type (z.s 5),.type (z.s 9),.type (z.s 10),.type (z.s 11)],23,JA,true,[],[.ref 37,.ref 49,.ref 61,.ref 73,.ref 85,.ref 97,.ref 116],false,none,false⟩,#[some (.ref 15),none,some (.str JA 189),some (.str JA 197),(some (.builtin (z.s 12))),some (.bool true)]⟩
def WD:=oo fun z=>⟨.type (z.s 13),none,.fields #[.str x78 202,.ref 24,.builtin (z.s 14),.none],#[]⟩
def Z4p:=oo fun z=>⟨.type (z.s 15),none,.fields #[.ref 24,.ref 24,.ref 24],#[]⟩
def Z4q:=oo fun z=>⟨.type (z.s 6),none,.fields #[.builtin (z.s 16),.ref 24],#[]⟩
def WE:=oS #[.ref 24]
def Z4r:=oo fun z=>⟨.type (z.s 6),none,.fields #[.builtin (z.s 7),.type (z.s 8)],#[]⟩
def Z4s:=oo fun z=>⟨.type (z.s 0),none,.dict #[z.e Gc 214 (.str E4 187),z.e Li 216 (.str JB 215),z.e Gd 218 (.int 4 217),z.e Ge 219 (.ref 35)] 4,#[]⟩
def Z4t:=oC JB 209 JB 210 211 4 0 0 31 false 32 .none .none .none 212 213
def Z4u:=oK 33 30 E4 187
def WF:=oo fun z=>⟨.type (z.s 0),none,.dict #[z.e Gc 214 (.str E4 187),z.e Gd 218 (.int 4 217),z.e Ge 219 (.ref 35),z.e x2 220 .none] 2,#[]⟩
def WG:=oo fun z=>⟨.type (z.s 8),none,.cls ⟨JB,[.ref 24],[.ref 37,.ref 24,.type (z.s 5),.type (z.s 9),.type (z.s 10),.type (z.s 11)],36,JB,true,[],[],false,none,false⟩,#[some (.ref 28),none,some (.str JB 207),some (.str JB 215),(some (.builtin (z.s 12))),some (.bool true)]⟩
def Z4v:=oo fun z=>⟨.type (z.s 15),none,.fields #[.ref 37,.ref 37,.ref 37],#[]⟩
def Z4w:=oo fun z=>⟨.type (z.s 6),none,.fields #[.builtin (z.s 16),.ref 37],#[]⟩
def WH:=oS #[.ref 24]
def Z4x:=oo fun z=>⟨.type (z.s 6),none,.fields #[.builtin (z.s 7),.type (z.s 8)],#[]⟩
def Z4y:=oo fun z=>⟨.type (z.s 0),none,.dict #[z.e Gc 230 (.str E4 187),z.e Li 232 (.str JC 231),z.e Gd 234 (.int 6 233),z.e Ge 235 (.ref 47)] 4,#[]⟩
def Z4z:=oC JC 225 JC 226 227 6 0 0 43 false 44 .none .none .none 228 229
def Z40:=oK 45 42 E4 187
def WI:=oo fun z=>⟨.type (z.s 0),none,.dict #[z.e Gc 230 (.str E4 187),z.e Gd 234 (.int 6 233),z.e Ge 235 (.ref 47),z.e x2 236 .none] 2,#[]⟩
def WJ:=oo fun z=>⟨.type (z.s 8),none,.cls ⟨JC,[.ref 24],[.ref 49,.ref 24,.type (z.s 5),.type (z.s 9),.type (z.s 10),.type (z.s 11)],48,JC,true,[],[],false,none,false⟩,#[some (.ref 40),none,some (.str JC 223),some (.str JC 231),(some (.builtin (z.s 12))),some (.bool true)]⟩
def Z41:=oo fun z=>⟨.type (z.s 15),none,.fields #[.ref 49,.ref 49,.ref 49],#[]⟩
def Z42:=oo fun z=>⟨.type (z.s 6),none,.fields #[.builtin (z.s 16),.ref 49],#[]⟩
def WK:=oS #[.ref 24]
def Z43:=oo fun z=>⟨.type (z.s 6),none,.fields #[.builtin (z.s 7),.type (z.s 8)],#[]⟩
def Z44:=oo fun z=>⟨.type (z.s 0),none,.dict #[z.e Gc 246 (.str E4 187),z.e Li 248 (.str FV 247),z.e Gd 250 (.int 8 249),z.e Ge 251 (.ref 59)] 4,#[]⟩
def Z45:=oC FV 241 FV 242 243 8 0 0 55 false 56 .none .none .none 244 245
def Z46:=oK 57 54 E4 187
def WL:=oo fun z=>⟨.type (z.s 0),none,.dict #[z.e Gc 246 (.str E4 187),z.e Gd 250 (.int 8 249),z.e Ge 251 (.ref 59),z.e x2 252 .none] 2,#[]⟩
def WM:=oo fun z=>⟨.type (z.s 8),none,.cls ⟨FV,[.ref 24],[.ref 61,.ref 24,.type (z.s 5),.type (z.s 9),.type (z.s 10),.type (z.s 11)],60,FV,true,[],[],false,none,false⟩,#[some (.ref 52),none,some (.str FV 239),some (.str FV 247),(some (.builtin (z.s 12))),some (.bool true)]⟩
def Z47:=oo fun z=>⟨.type (z.s 15),none,.fields #[.ref 61,.ref 61,.ref 61],#[]⟩
def Z48:=oo fun z=>⟨.type (z.s 6),none,.fields #[.builtin (z.s 16),.ref 61],#[]⟩
def WN:=oS #[.ref 24]
def Z49:=oo fun z=>⟨.type (z.s 6),none,.fields #[.builtin (z.s 7),.type (z.s 8)],#[]⟩
def Z5a:=oo fun z=>⟨.type (z.s 0),none,.dict #[z.e Gc 262 (.str E4 187),z.e Li 264 (.str JD 263),z.e Gd 266 (.int 10 265),z.e Ge 267 (.ref 71)] 4,#[]⟩
def Z5b:=oC JD 257 JD 258 259 10 0 0 67 false 68 .none .none .none 260 261
def Z5c:=oK 69 66 E4 187
def WO:=oo fun z=>⟨.type (z.s 0),none,.dict #[z.e Gc 262 (.str E4 187),z.e Gd 266 (.int 10 265),z.e Ge 267 (.ref 71),z.e x2 268 .none] 2,#[]⟩
def WP:=oo fun z=>⟨.type (z.s 8),none,.cls ⟨JD,[.ref 24],[.ref 73,.ref 24,.type (z.s 5),.type (z.s 9),.type (z.s 10),.type (z.s 11)],72,JD,true,[],[],false,none,false⟩,#[some (.ref 64),none,some (.str JD 255),some (.str JD 263),(some (.builtin (z.s 12))),some (.bool true)]⟩
def Z5d:=oo fun z=>⟨.type (z.s 15),none,.fields #[.ref 73,.ref 73,.ref 73],#[]⟩
def Z5e:=oo fun z=>⟨.type (z.s 6),none,.fields #[.builtin (z.s 16),.ref 73],#[]⟩
def WQ:=oS #[.ref 24]
def Z5f:=oo fun z=>⟨.type (z.s 6),none,.fields #[.builtin (z.s 7),.type (z.s 8)],#[]⟩
def Z5g:=oo fun z=>⟨.type (z.s 0),none,.dict #[z.e Gc 278 (.str E4 187),z.e Li 280 (.str Ga 279),z.e Gd 282 (.int 12 281),z.e Ge 283 (.ref 83)] 4,#[]⟩
def Z5h:=oC Ga 273 Ga 274 275 12 0 0 79 false 80 .none .none .none 276 277
def Z5i:=oK 81 78 E4 187
def WR:=oo fun z=>⟨.type (z.s 0),none,.dict #[z.e Gc 278 (.str E4 187),z.e Gd 282 (.int 12 281),z.e Ge 283 (.ref 83),z.e x2 284 .none] 2,#[]⟩
def WT:=oo fun z=>⟨.type (z.s 8),none,.cls ⟨Ga,[.ref 24],[.ref 85,.ref 24,.type (z.s 5),.type (z.s 9),.type (z.s 10),.type (z.s 11)],84,Ga,true,[],[],false,none,false⟩,#[some (.ref 76),none,some (.str Ga 271),some (.str Ga 279),(some (.builtin (z.s 12))),some (.bool true)]⟩
def Z5j:=oo fun z=>⟨.type (z.s 15),none,.fields #[.ref 85,.ref 85,.ref 85],#[]⟩
def Z5k:=oo fun z=>⟨.type (z.s 6),none,.fields #[.builtin (z.s 16),.ref 85],#[]⟩
def WU:=oS #[.ref 24]
def Z5l:=oo fun z=>⟨.type (z.s 6),none,.fields #[.builtin (z.s 7),.type (z.s 8)],#[]⟩
def Z5m:=oo fun z=>⟨.type (z.s 0),none,.dict #[z.e Gc 294 (.str E4 187),z.e Li 296 (.str JE 295),z.e Gd 298 (.int 14 297),z.e Ge 299 (.ref 95)] 4,#[]⟩
def Z5n:=oC JE 289 JE 290 291 14 0 0 91 false 92 .none .none .none 292 293
def Z5o:=oK 93 90 E4 187
def WV:=oo fun z=>⟨.type (z.s 0),none,.dict #[z.e Gc 294 (.str E4 187),z.e Gd 298 (.int 14 297),z.e Ge 299 (.ref 95),z.e x2 300 .none] 2,#[]⟩
def WW:=oo fun z=>⟨.type (z.s 8),none,.cls ⟨JE,[.ref 24],[.ref 97,.ref 24,.type (z.s 5),.type (z.s 9),.type (z.s 10),.type (z.s 11)],96,JE,true,[],[],false,none,false⟩,#[some (.ref 88),none,some (.str JE 287),some (.str JE 295),(some (.builtin (z.s 12))),some (.bool true)]⟩
def Z5p:=oo fun z=>⟨.type (z.s 15),none,.fields #[.ref 97,.ref 97,.ref 97],#[]⟩
def Z5q:=oo fun z=>⟨.type (z.s 6),none,.fields #[.builtin (z.s 16),.ref 97],#[]⟩
def MF:=oS #[.ref 24]
def WX:=oo fun z=>⟨.type (z.s 6),none,.fields #[.builtin (z.s 7),.type (z.s 8)],#[]⟩
def WY:=oo fun z=>⟨.type (z.s 0),none,.dict #[z.e Gc 310 (.str E4 187),z.e Li 312 (.str Gb 311),z.e Gd 314 (.int 16 313),z.e KH 322 (.ref 113),z.e Ge 324 (.ref 114)] 5,#[]⟩
def WZ:=oo fun z=>⟨.none,none,.fields #[.int 18 0,.int 4 0,.ref 112],#[]⟩
def Xa:=oC Gb 305 Gb 306 307 16 0 0 103 false 104 .none .none .none 308 309
def Xb:=oK 105 102 E4 187
def MG:=oS #[.str KI 318,.str x81 319]
def Xc:=oH 8 0 KH x82
def MH:=oC KH 315 x82 316 317 18 2 3 107 true 108 (.ref 109) (.ref 110) (.ref 111) 320 321
def MI:=oM 8 0 KH x82 E4 187 112
def MJ:=oS #[.str x81 323]
def MK:=oo fun z=>⟨.type (z.s 0),none,.dict #[z.e Gc 310 (.str E4 187),z.e Gd 314 (.int 16 313),z.e KH 322 (.ref 113),z.e Ge 324 (.ref 114),z.e x2 325 .none] 2,#[]⟩
def ML:=oo fun z=>⟨.type (z.s 8),none,.cls ⟨Gb,[.ref 24],[.ref 116,.ref 24,.type (z.s 5),.type (z.s 9),.type (z.s 10),.type (z.s 11)],115,Gb,true,[],[],false,none,false⟩,#[some (.ref 100),none,some (.str Gb 303),some (.str Gb 311),(some (.builtin (z.s 12))),some (.bool true)]⟩
def Xd:=oo fun z=>⟨.type (z.s 15),none,.fields #[.ref 116,.ref 116,.ref 116],#[]⟩
def Xe:=oo fun z=>⟨.type (z.s 6),none,.fields #[.builtin (z.s 16),.ref 116],#[]⟩
def MM:=oS #[.str x83 339,.str x84 340,.str x85 341]
def Xf:=oG 13 G8 G8
def MN:=oC G8 336 G8 337 338 25 3 3 119 true 120 (.ref 121) (.ref 122) (.ref 123) 342 343
def MO:=oF 13 G8 G8 RF 328 124
def MP:=oS #[.str x87 348,.str x88 349,.str x85 350,.str x89 351]
def Xg:=oG 14 JX JX
def MQ:=oC JX 345 JX 346 347 27 4 3 126 true 127 (.ref 128) (.ref 129) (.ref 130) 352 353
def MR:=oF 14 JX JX RF 328 131
def Xh:=oG 15 G9 G9
def MS:=oC G9 355 G9 356 357 43 1 3 133 true 134 .none .none (.ref 135) 358 359
def MT:=oF 15 G9 G9 RF 328 136
def MU:=oS #[.str x83 364]
def Xi:=oG 16 JY JY
def MV:=oC JY 361 JY 362 363 54 1 3 138 true 139 (.ref 140) (.ref 141) (.ref 142) 365 366
def MX:=oF 16 JY JY RF 328 143
def Xj:=oG 17 JZ JZ
def MY:=oC JZ 368 JZ 369 370 58 2 3 145 true 146 .none .none (.ref 147) 371 372
def MZ:=oF 17 JZ JZ RF 328 148
def Na:=oS #[.str x90 377,.str x91 378,.str x92 379]
def Xk:=oG 18 Ka Ka
def Nb:=oC Ka 374 Ka 375 376 62 3 3 150 true 151 (.ref 152) (.ref 153) (.ref 154) 380 381
def Nc:=oF 18 Ka Ka RF 328 155
def Nd:=oS #[.str ME 386,.str RG 387,.str W0 388,.str x90 389,.str x87 390,.str x92 391]
def Xl:=oG 19 Kb Kb
def Nf:=oC Kb 383 Kb 384 385 64 2 3 157 true 158 (.ref 159) (.ref 160) (.ref 161) 392 393
def Ng:=oF 19 Kb Kb RF 328 162
def Nh:=oS #[.str x96 402,.str x83 403]
def Xm:=oG 22 Kc Kc
def Ni:=oC Kc 399 Kc 400 401 87 2 3 164 true 165 (.ref 166) (.ref 167) (.ref 168) 404 405
def Nj:=oF 22 Kc Kc RH 395 169
def Xn:=oG 23 Ke Ke
def Nk:=oC Ke 407 Ke 408 409 89 3 3 171 true 172 .none .none (.ref 173) 410 411
def Nl:=oF 23 Ke Ke RH 395 174
def Xo:=oG 24 Kf Kf
def Nm:=oC Kf 413 Kf 414 415 99 3 3 176 true 177 .none .none (.ref 178) 416 417
def Nn:=oF 24 Kf Kf RH 395 179
def No:=oS #[.str x98 422,.str x96 423,.str x99 424,.str W1 425,.str W0 426]
def Xp:=oG 25 Kg Kg
def Np:=oC Kg 419 Kg 420 421 105 3 3 181 true 182 (.ref 183) (.ref 184) (.ref 185) 427 428
def Nq:=oF 25 Kg Kg RH 395 186
def Nr:=oS #[.str Z3s 433,.str x90 434]
def Xq:=oG 26 Kh Kh
def Nt:=oC Kh 430 Kh 431 432 114 2 3 188 true 189 (.ref 190) (.ref 191) (.ref 192) 435 436
def Nu:=oF 26 Kh Kh RH 395 193
def Xr:=oG 27 Ki Ki
def Nv:=oC Ki 438 Ki 439 440 118 2 3 195 true 196 .none .none (.ref 197) 441 442
def Nw:=oF 27 Ki Ki RH 395 198
def Nx:=oS #[.str x99 447,.str x87 448,.str W0 449]
def Xs:=oG 28 Kj Kj
def Ny:=oC Kj 444 Kj 445 446 123 2 3 200 true 201 (.ref 202) (.ref 203) (.ref 204) 450 451
def Nz:=oF 28 Kj Kj RH 395 205
def N0:=oS #[.str x98 458,.str x99 459,.str RG 460,.str W1 461,.str x89 462,.str W0 463]
def Xu:=oG 30 Kk Kk
def N1:=oC Kk 455 Kk 456 457 129 3 3 207 true 208 (.ref 209) (.ref 210) (.ref 211) 464 465
def N2:=oF 30 Kk Kk Z3t 453 212
def N3:=oS #[.str ME 472]
def Xv:=oG 32 Kl Kl
def N4:=oC Kl 469 Kl 470 471 145 1 3 214 true 215 (.ref 216) (.ref 217) (.ref 218) 473 474
def N5:=oF 32 Kl Kl Ep 467 219
def Xw:=oo fun z=>⟨.type (z.s 6),none,.fields #[.builtin (z.s 7),.type (z.s 8)],#[]⟩
def Xx:=oo fun z=>⟨.type (z.s 0),none,.dict #[z.e Gc 483 (.str Ep 467),z.e Li 485 (.str JG 484),z.e Gd 487 (.int 147 486),z.e KH 496 (.ref 234),z.e JH 504 (.ref 241),z.e JI 512 (.ref 248),z.e JJ 523 (.ref 255),z.e JK 530 (.ref 262),z.e RG 537 (.ref 269),z.e ME 544 (.ref 276),z.e JL 551 (.ref 283),z.e JM 558 (.ref 290),z.e Ge 564 (.ref 291)] 13,#[]⟩
def Xy:=oo fun z=>⟨.none,none,.fields #[.int 149 0,.int 4 0,.ref 233,.int 159 0,.int 4 0,.ref 240,.int 169 0,.int 4 0,.ref 247,.int 180 0,.int 4 0,.ref 254,.int 193 0,.int 4 0,.ref 261,.int 196 0,.int 4 0,.ref 268,.int 199 0,.int 4 0,.ref 275,.int 202 0,.int 4 0,.ref 282,.int 205 0,.int 4 0,.ref 289],#[]⟩
def Xz:=oC JG 478 JG 479 480 147 0 0 224 false 225 .none .none .none 481 482
def X0:=oK 226 223 Ep 467
def N6:=oS #[.str KI 491,.str ME 492,.str Z3u 493]
def X1:=oH 33 0 KH RI
def N7:=oC KH 488 RI 489 490 149 3 3 228 true 229 (.ref 230) (.ref 231) (.ref 232) 494 495
def N8:=oM 33 0 KH RI Ep 467 233
def N9:=oS #[.str KI 500,.str W0 501]
def X2:=oH 33 1 JH RJ
def NA:=oC JH 497 RJ 498 499 159 1 3 235 true 236 (.ref 237) (.ref 238) (.ref 239) 502 503
def NB:=oM 33 1 JH RJ Ep 467 240
def NC:=oS #[.str KI 508,.str x92 509]
def X3:=oH 33 2 JI RK
def ND:=oC JI 505 RK 506 507 169 1 3 242 true 243 (.ref 244) (.ref 245) (.ref 246) 510 511
def NE:=oM 33 2 JI RK Ep 467 247
def NF:=oS #[.str KI 516,.str x96 517,.str x99 518,.str Z3v 519,.str Z3w 520]
def X4:=oH 33 3 JJ RL
def NG:=oC JJ 513 RL 514 515 180 3 3 249 true 250 (.ref 251) (.ref 252) (.ref 253) 521 522
def NH:=oM 33 3 JJ RL Ep 467 254
def NI:=oS #[.str KI 527]
def X5:=oH 33 4 JK RM
def NJ:=oC JK 524 RM 525 526 193 1 3 256 true 257 (.ref 258) (.ref 259) (.ref 260) 528 529
def NK:=oM 33 4 JK RM Ep 467 261
def NL:=oS #[.str KI 534]
def X6:=oH 33 5 RG RN
def NM:=oC RG 531 RN 532 533 196 1 3 263 true 264 (.ref 265) (.ref 266) (.ref 267) 535 536
def NN:=oM 33 5 RG RN Ep 467 268
def NO:=oS #[.str KI 541]
def X7:=oH 33 6 ME RO
def NP:=oC ME 538 RO 539 540 199 1 3 270 true 271 (.ref 272) (.ref 273) (.ref 274) 542 543
def NQ:=oM 33 6 ME RO Ep 467 275
def NR:=oS #[.str KI 548]
def X8:=oH 33 7 JL RP
def NT:=oC JL 545 RP 546 547 202 1 3 277 true 278 (.ref 279) (.ref 280) (.ref 281) 549 550
def NU:=oM 33 7 JL RP Ep 467 282
def NV:=oS #[.str KI 555]
def X9:=oH 33 8 JM RQ
def NW:=oC JM 552 RQ 553 554 205 1 3 284 true 285 (.ref 286) (.ref 287) (.ref 288) 556 557
def NX:=oM 33 8 JM RQ Ep 467 289
def NY:=oS #[.str x89 559,.str Z3x 560,.str Z3y 561,.str Z3z 562,.str Z30 563]
def NZ:=oo fun z=>⟨.type (z.s 0),none,.dict #[z.e Gc 483 (.str Ep 467),z.e Gd 487 (.int 147 486),z.e KH 496 (.ref 234),z.e JH 504 (.ref 241),z.e JI 512 (.ref 248),z.e JJ 523 (.ref 255),z.e JK 530 (.ref 262),z.e RG 537 (.ref 269),z.e ME 544 (.ref 276),z.e JL 551 (.ref 283),z.e JM 558 (.ref 290),z.e Ge 564 (.ref 291),z.e W2 566 (.ref 294),z.e x78 568 (.ref 295),z.e x2 569 .none] 4,#[]⟩
def Oa:=oo fun z=>⟨.type (z.s 8),none,.cls ⟨JG,[.type (z.s 11)],[.ref 293,.type (z.s 11)],292,JG,true,[],[],false,none,false⟩,#[none,none,some (.str JG 476),some (.str JG 484),(some (.builtin (z.s 18))),some (.bool true)]⟩
def Ob:=oo fun z=>⟨.type (z.s 13),none,.fields #[.str W2 565,.ref 293,.builtin (z.s 19),.builtin (z.s 20)],#[]⟩
def Oc:=oo fun z=>⟨.type (z.s 13),none,.fields #[.str x78 567,.ref 293,.builtin (z.s 14),.none],#[]⟩
def XA:=oo fun z=>⟨.type (z.s 15),none,.fields #[.ref 293,.ref 293,.ref 293],#[]⟩
def XB:=oo fun z=>⟨.type (z.s 6),none,.fields #[.builtin (z.s 16),.ref 293],#[]⟩
def Od:=oS #[.str Z31 577,.str Lj 578]
def XC:=oG 35 Km Km
def Oe:=oC Km 574 Km 575 576 208 2 3 298 true 299 (.ref 300) (.ref 301) (.ref 302) 579 580
def Of:=oF 35 Km Km x1 572 303
def Og:=oS #[.str JN 585]
def XD:=oG 36 Kn Kn
def Oh:=oC Kn 582 Kn 583 584 212 1 3 305 true 306 (.ref 307) (.ref 308) (.ref 309) 586 587
def Oi:=oF 36 Kn Kn x1 572 310
def Oj:=oS #[.str JN 592,.str W3 593,.str W4 594,.str Ll 595,.str Z32 596,.str RR 597]
def XE:=oG 37 Ko Ko
def Ol:=oC Ko 589 Ko 590 591 214 4 3 312 true 313 (.ref 314) (.ref 315) (.ref 316) 598 599
def Om:=oF 37 Ko Ko x1 572 317
def On:=oS #[.str Lm 604,.str JN 605,.str W3 606,.str W4 607,.str Ll 608,.str Z33 609,.str Lj 610]
def XF:=oG 38 Kq Kq
def Oo:=oC Kq 601 Kq 602 603 230 1 3 319 true 320 (.ref 321) (.ref 322) (.ref 323) 611 612
def Op:=oF 38 Kq Kq x1 572 324
def Oq:=oS #[.str JN 617,.str Ln 618,.str FW 619,.str Lo 620,.str Lj 621]
def XG:=oG 39 Kr Kr
def Os:=oC Kr 614 Kr 615 616 242 3 3 326 true 327 (.ref 328) (.ref 329) (.ref 330) 622 623
def Ot:=oF 39 Kr Kr x1 572 331
def XH:=oG 40 Ks Ks
def Ou:=oC Ks 625 Ks 626 627 249 3 3 333 true 334 .none .none (.ref 335) 628 629
def Ov:=oF 40 Ks Ks x1 572 336
def Ow:=oS #[.str JN 634,.str Ib 635,.str Ic 636,.str RR 637]
def XI:=oG 41 Kt Kt
def Ox:=oC Kt 631 Kt 632 633 258 2 3 338 true 339 (.ref 340) (.ref 341) (.ref 342) 638 639
def Oy:=oF 41 Kt Kt x1 572 343
def Oz:=oS #[.str Lo 644,.str RR 645,.str W5 646,.str Lp 647]
def XJ:=oG 42 Ku Ku
def O0:=oC Ku 641 Ku 642 643 264 3 3 345 true 346 (.ref 347) (.ref 348) (.ref 349) 648 649
def O1:=oF 42 Ku Ku x1 572 350
def O2:=oS #[.str Ib 654,.str RS 655,.str Z34 656,.str Lo 657,.str Lp 658,.str Z35 659]
def XK:=oG 43 Kv Kv
def O3:=oC Kv 651 Kv 652 653 268 2 3 352 true 353 (.ref 354) (.ref 355) (.ref 356) 660 661
def O4:=oF 43 Kv Kv x1 572 357
def O5:=oS #[.str JO 666,.str Lo 667,.str Ic 668,.str W6 669,.str W5 670]
def XL:=oG 44 Kw Kw
def O6:=oC Kw 663 Kw 664 665 286 2 3 359 true 360 (.ref 361) (.ref 362) (.ref 363) 671 672
def O7:=oF 44 Kw Kw x1 572 364
def O8:=oS #[.str FX 677,.str JO 678,.str W7 679]
def XM:=oG 45 Kx Kx
def O9:=oC Kx 674 Kx 675 676 296 1 3 366 true 367 (.ref 368) (.ref 369) (.ref 370) 680 681
def OA:=oF 45 Kx Kx x1 572 371
def OC:=oS #[.str Ln 686,.str JO 687,.str RS 688,.str Z36 689]
def XN:=oG 46 Ky Ky
def OD:=oC Ky 683 Ky 684 685 301 3 3 373 true 374 (.ref 375) (.ref 376) (.ref 377) 690 691
def OF:=oF 46 Ky Ky x1 572 378
def OG:=oS #[.str Ib 696]
def XO:=oG 47 Kz Kz
def OH:=oC Kz 693 Kz 694 695 311 1 3 380 true 381 (.ref 382) (.ref 383) (.ref 384) 697 698
def OI:=oF 47 Kz Kz x1 572 385
def OJ:=oS #[.str FY 703,.str FW 704,.str FX 705,.str JP 706,.str Z37 707]
def XQ:=oG 48 K0 K0
def OK:=oC K0 700 K0 701 702 313 4 3 387 true 388 (.ref 389) (.ref 390) (.ref 391) 708 709
def OL:=oF 48 K0 K0 x1 572 392
def XS:=oG 49 K1 K1
def OM:=oC K1 711 K1 712 713 324 1 3 394 true 395 .none .none (.ref 396) 714 715
def ON:=oF 49 K1 K1 x1 572 397
def OO:=oS #[.str RU 720,.str Z38 721]
def XT:=oG 50 K2 K2
def OP:=oC K2 717 K2 718 719 334 1 3 399 true 400 (.ref 401) (.ref 402) (.ref 403) 722 723
def OQ:=oF 50 K2 K2 x1 572 404
def OU:=oS #[.str Fq 728,.str FW 729,.str FX 730,.str RU 731]
def XU:=oG 51 K3 K3
def OW:=oC K3 725 K3 726 727 341 3 3 406 true 407 (.ref 408) (.ref 409) (.ref 410) 732 733
def OX:=oF 51 K3 K3 x1 572 411
def OY:=oS #[.str Ln 738,.str FW 739,.str FX 740,.str Lm 741,.str JO 742,.str Z39 743]
def XV:=oG 52 K4 K4
def OZ:=oC K4 735 K4 736 737 347 4 3 413 true 414 (.ref 415) (.ref 416) (.ref 417) 744 745
def Pa:=oF 52 K4 K4 x1 572 418
def Pb:=oS #[.str Fq 750,.str FY 751,.str FW 752,.str FX 753,.str JQ 754,.str JP 755,.str W8 756,.str Ic 757]
def XW:=oG 53 K5 K5
def Pc:=oC K5 747 K5 748 749 357 6 3 420 true 421 (.ref 422) (.ref 423) (.ref 424) 758 759
def Pd:=oF 53 K5 K5 x1 572 425
def Pe:=oS #[.str Fq 764,.str FY 765,.str FW 766,.str FX 767,.str JP 768]
def XX:=oG 54 K6 K6
def Pf:=oC K6 761 K6 762 763 366 2 3 427 true 428 (.ref 429) (.ref 430) (.ref 431) 769 770
def Pg:=oF 54 K6 K6 x1 572 432
def Ph:=oS #[.str Fq 775,.str FY 776,.str FW 777,.str JQ 778,.str Lp 779,.str W7 780]
def XY:=oG 55 K7 K7
def Pi:=oC K7 772 K7 773 774 371 4 3 434 true 435 (.ref 436) (.ref 437) (.ref 438) 781 782
def Pj:=oF 55 K7 K7 x1 572 439
def Pk:=oS #[.str Fq 787,.str FY 788,.str FW 789,.str FX 790,.str JQ 791]
def XZ:=oG 56 K8 K8
def Pm:=oC K8 784 K8 785 786 378 5 3 441 true 442 (.ref 443) (.ref 444) (.ref 445) 792 793
def Pn:=oF 56 K8 K8 x1 572 446
def Po:=oS #[.str Fq 798,.str FY 799,.str Z4a 800,.str Lm 801,.str FW 802,.str FX 803,.str JP 804,.str JQ 805,.str W8 806,.str Ic 807]
def Yb:=oG 57 K9 K9
def Pp:=oC K9 795 K9 796 797 386 4 3 448 true 449 (.ref 450) (.ref 451) (.ref 452) 808 809
def Pq:=oF 57 K9 K9 x1 572 453
def Pr:=oS #[.str Ln 814,.str FX 815,.str Lp 816,.str Z4b 817,.str JO 818,.str W6 819]
def Yc:=oG 58 KA KA
def Pt:=oC KA 811 KA 812 813 413 2 3 455 true 456 (.ref 457) (.ref 458) (.ref 459) 820 821
def Pu:=oF 58 KA KA x1 572 460
def Pv:=oS #[.str Fq 826,.str FY 827,.str Ll 828,.str RV 829,.str Z4c 830,.str Z4d 831,.str Ic 832]
def Yd:=oG 59 KB KB
def Pw:=oC KB 823 KB 824 825 421 3 3 462 true 463 (.ref 464) (.ref 465) (.ref 466) 833 834
def Px:=oF 59 KB KB x1 572 467
def Ye:=oG 60 KD KD
def Py:=oC KD 836 KD 837 838 434 1 3 469 true 470 .none .none (.ref 471) 839 840
def Pz:=oF 60 KD KD x1 572 472
def P3:=oS #[.str Fq 845,.str RV 846,.str Ic 847,.str Lj 848,.str Z4e 849]
def Yg:=oG 61 KF KF
def P4:=oC KF 842 KF 843 844 438 2 3 474 true 475 (.ref 476) (.ref 477) (.ref 478) 850 851
def P5:=oF 61 KF KF x1 572 479
def P6:=oS #[.str Fq 856,.str FY 857,.str Z4f 858,.str RV 859,.str Z4g 860,.str Ib 861,.str RS 862,.str Z4h 863,.str Ll 864]
def Yh:=oG 62 KG KG
def P7:=oC KG 853 KG 854 855 453 4 3 481 true 482 (.ref 483) (.ref 484) (.ref 485) 865 866
def P8:=oF 62 KG KG x1 572 486
def P9:=oS #[.str Ib 871,.str W9 872,.str JQ 873,.str Fq 874,.str FY 875]
def Yi:=oG 63 MC MC
def PA:=oC MC 868 MC 869 870 464 2 3 488 true 489 (.ref 490) (.ref 491) (.ref 492) 876 877
def PB:=oF 63 MC MC x1 572 493
def PC:=oS #[.str Ib 882,.str W9 883,.str Lm 884,.str JP 885,.str RU 886]
def Yj:=oG 64 MD MD
def PD:=oC MD 879 MD 880 881 470 3 3 495 true 496 (.ref 497) (.ref 498) (.ref 499) 887 888
def PE:=oF 64 MD MD x1 572 500
def Yk:=oG 65 RE RE
def PF:=oC RE 890 RE 891 892 478 1 3 502 true 503 .none .none (.ref 504) 893 894
def PG:=oF 65 RE RE x1 572 505
def h_2:=oo fun z=>⟨.none,none,.dict #[] 0,#[]⟩
def JR(P:kq):BT:=ofL 6 (eg P).objs.toList
noncomputable def BH(z:HZ)(l:List HO):Nat->List (Nat×fj):=dT (fun _=>[]) (fun o _ i n=>(n,o z)::i (n-1)) l
def Z5r(z:HZ):=BH z [PG,PF,Yk,oB,oA,PE] 506
def Z5s(z:HZ):=BH z [PD,Yj,oA,PC,oB,oA] 500
def Z5t(z:HZ):=BH z [PB,PA,Yi,oA,P9,oB] 494
def Z5u(z:HZ):=BH z [oA,P8,P7,Yh,oA,P6] 488
def Z5v(z:HZ):=BH z [oB,oA,P5,P4,Yg,oA] 482
def Z5w(z:HZ):=BH z [P3,oB,oA,Pz,Py,Ye] 476
def Z5x(z:HZ):=BH z [oB,oA,Px,Pw,Yd,oA] 470
def Z5y(z:HZ):=BH z [Pv,oB,oA,Pu,Pt,Yc] 464
def Z5z(z:HZ):=BH z [oA,Pr,oB,oA,Pq,Pp] 458
def Z50(z:HZ):=BH z [Yb,oA,Po,oB,oA,Pn] 452
def Yl(z:HZ):=BH z [Pm,XZ,oA,Pk,oB,oA] 446
def Ym(z:HZ):=BH z [Pj,Pi,XY,oA,Ph,oB] 440
def Yn(z:HZ):=BH z [oA,Pg,Pf,XX,oA,Pe] 434
def Yo(z:HZ):=BH z [oB,oA,Pd,Pc,XW,oA] 428
def Yp(z:HZ):=BH z [Pb,oB,oA,Pa,OZ,XV] 422
def Yq(z:HZ):=BH z [oA,OY,oB,oA,OX,OW] 416
def Yr(z:HZ):=BH z [XU,oA,OU,oB,oA,OQ] 410
def Ys(z:HZ):=BH z [OP,XT,oA,OO,oB,oA] 404
def Yt(z:HZ):=BH z [ON,OM,XS,oB,oA,OL] 398
def Yu(z:HZ):=BH z [OK,XQ,oA,OJ,oB,oA] 392
def Yv(z:HZ):=BH z [OI,OH,XO,oA,OG,oB] 386
def Yw(z:HZ):=BH z [oA,OF,OD,XN,oA,OC] 380
def Yx(z:HZ):=BH z [oB,oA,OA,O9,XM,oA] 374
def Yy(z:HZ):=BH z [O8,oB,oA,O7,O6,XL] 368
def Yz(z:HZ):=BH z [oA,O5,oB,oA,O4,O3] 362
def Y0(z:HZ):=BH z [XK,oA,O2,oB,oA,O1] 356
def Y1(z:HZ):=BH z [O0,XJ,oA,Oz,oB,oA] 350
def Y2(z:HZ):=BH z [Oy,Ox,XI,oA,Ow,oB] 344
def Y3(z:HZ):=BH z [oA,Ov,Ou,XH,oB,oA] 338
def Y4(z:HZ):=BH z [Ot,Os,XG,oA,Oq,oB] 332
def Y5(z:HZ):=BH z [oA,Op,Oo,XF,oA,On] 326
def Y6(z:HZ):=BH z [oB,oA,Om,Ol,XE,oA] 320
def Y7(z:HZ):=BH z [Oj,oB,oA,Oi,Oh,XD] 314
def Y8(z:HZ):=BH z [oA,Og,oB,oA,Of,Oe] 308
def Y9(z:HZ):=BH z [XC,oA,Od,oB,oA,XB] 302
def YA(z:HZ):=BH z [XA,Oc,Ob,Oa,NZ,NY] 296
def YB(z:HZ):=BH z [NX,NW,X9,oA,NV,oB] 290
def YC(z:HZ):=BH z [oA,NU,NT,X8,oA,NR] 284
def YD(z:HZ):=BH z [oB,oA,NQ,NP,X7,oA] 278
def YE(z:HZ):=BH z [NO,oB,oA,NN,NM,X6] 272
def YF(z:HZ):=BH z [oA,NL,oB,oA,NK,NJ] 266
def YG(z:HZ):=BH z [X5,oA,NI,oB,oA,NH] 260
def YH(z:HZ):=BH z [NG,X4,oA,NF,oB,oA] 254
def YI(z:HZ):=BH z [NE,ND,X3,oA,NC,oB] 248
def YJ(z:HZ):=BH z [oA,NB,NA,X2,oA,N9] 242
def YK(z:HZ):=BH z [oB,oA,N8,N7,X1,oA] 236
def YL(z:HZ):=BH z [N6,oB,oA,X0,Xz,Xy] 230
def YM(z:HZ):=BH z [oA,Xx,Xw,oA,N5,N4] 224
def YN(z:HZ):=BH z [Xv,oA,N3,oB,oA,N2] 218
def YO(z:HZ):=BH z [N1,Xu,oA,N0,oB,oA] 212
def YQ(z:HZ):=BH z [Nz,Ny,Xs,oA,Nx,oB] 206
def YR(z:HZ):=BH z [oA,Nw,Nv,Xr,oB,oA] 200
def YS(z:HZ):=BH z [Nu,Nt,Xq,oA,Nr,oB] 194
def YT(z:HZ):=BH z [oA,Nq,Np,Xp,oA,No] 188
def YU(z:HZ):=BH z [oB,oA,Nn,Nm,Xo,oB] 182
def YV(z:HZ):=BH z [oA,Nl,Nk,Xn,oB,oA] 176
def YW(z:HZ):=BH z [Nj,Ni,Xm,oA,Nh,oB] 170
def YX(z:HZ):=BH z [oA,Ng,Nf,Xl,oA,Nd] 164
def YY(z:HZ):=BH z [oB,oA,Nc,Nb,Xk,oA] 158
def YZ(z:HZ):=BH z [Na,oB,oA,MZ,MY,Xj] 152
def Za(z:HZ):=BH z [oB,oA,MX,MV,Xi,oA] 146
def Zb(z:HZ):=BH z [MU,oB,oA,MT,MS,Xh] 140
def Zc(z:HZ):=BH z [oB,oA,MR,MQ,Xg,oA] 134
def Zd(z:HZ):=BH z [MP,oB,oA,MO,MN,Xf] 128
def Ze(z:HZ):=BH z [oA,MM,oB,oA,Xe,Xd] 122
def Zf(z:HZ):=BH z [ML,MK,MJ,MI,MH,Xc] 116
def Zg(z:HZ):=BH z [oA,MG,oB,oA,Xb,Xa] 110
def Zh(z:HZ):=BH z [WZ,oA,WY,WX,MF,Z5q] 104
def Zi(z:HZ):=BH z [Z5p,WW,WV,oA,Z5o,Z5n] 98
def Zj(z:HZ):=BH z [oB,oA,Z5m,Z5l,WU,Z5k] 92
def Zk(z:HZ):=BH z [Z5j,WT,WR,oA,Z5i,Z5h] 86
def Zl(z:HZ):=BH z [oB,oA,Z5g,Z5f,WQ,Z5e] 80
def Zm(z:HZ):=BH z [Z5d,WP,WO,oA,Z5c,Z5b] 74
def Zn(z:HZ):=BH z [oB,oA,Z5a,Z49,WN,Z48] 68
def Zo(z:HZ):=BH z [Z47,WM,WL,oA,Z46,Z45] 62
def Zp(z:HZ):=BH z [oB,oA,Z44,Z43,WK,Z42] 56
def Zq(z:HZ):=BH z [Z41,WJ,WI,oA,Z40,Z4z] 50
def Zr(z:HZ):=BH z [oB,oA,Z4y,Z4x,WH,Z4w] 44
def Zs(z:HZ):=BH z [Z4v,WG,WF,oA,Z4u,Z4t] 38
def Zt(z:HZ):=BH z [oB,oA,Z4s,Z4r,WE,Z4q] 32
def Zu(z:HZ):=BH z [Z4p,WD,WC,WB,oA,Z4o] 26
def Zv(z:HZ):=BH z [Z4n,oB,oA,Z4m,Z4l,WA] 20
def Zw(z:HZ):=BH z [Z4k,Z4j,Z4i,oA] 14
def Zx(z:HZ):=BH z [h_3] 3
def Zy(z:HZ):=Bb (Z5r z) (Bb (Z5s z) (Bb (Z5t z) (Bb (Z5u z) (Bb (Z5v z) (Z5w z)))))
def Zz(z:HZ):=Bb (Z5x z) (Bb (Z5y z) (Bb (Z5z z) (Bb (Z50 z) (Bb (Yl z) (Ym z)))))
def Z0(z:HZ):=Bb (Yn z) (Bb (Yo z) (Bb (Yp z) (Bb (Yq z) (Bb (Yr z) (Ys z)))))
def Z1(z:HZ):=Bb (Yt z) (Bb (Yu z) (Bb (Yv z) (Bb (Yw z) (Bb (Yx z) (Yy z)))))
def Z2(z:HZ):=Bb (Yz z) (Bb (Y0 z) (Bb (Y1 z) (Bb (Y2 z) (Bb (Y3 z) (Y4 z)))))
def Z3(z:HZ):=Bb (Y5 z) (Bb (Y6 z) (Bb (Y7 z) (Bb (Y8 z) (Bb (Y9 z) (YA z)))))
def Z4(z:HZ):=Bb (YB z) (Bb (YC z) (Bb (YD z) (Bb (YE z) (Bb (YF z) (YG z)))))
def Z5(z:HZ):=Bb (YH z) (Bb (YI z) (Bb (YJ z) (Bb (YK z) (Bb (YL z) (YM z)))))
def Z6(z:HZ):=Bb (YN z) (Bb (YO z) (Bb (YQ z) (Bb (YR z) (Bb (YS z) (YT z)))))
def Z7(z:HZ):=Bb (YU z) (Bb (YV z) (Bb (YW z) (Bb (YX z) (Bb (YY z) (YZ z)))))
def Z8(z:HZ):=Bb (Za z) (Bb (Zb z) (Bb (Zc z) (Bb (Zd z) (Bb (Ze z) (Zf z)))))
def Z9(z:HZ):=Bb (Zg z) (Bb (Zh z) (Bb (Zi z) (Bb (Zj z) (Bb (Zk z) (Zl z)))))
def ZA(z:HZ):=Bb (Zm z) (Bb (Zn z) (Bb (Zo z) (Bb (Zp z) (Bb (Zq z) (Zr z)))))
def ZB(z:HZ):=Bb (Zs z) (Bb (Zt z) (Bb (Zu z) (Bb (Zv z) (Bb (Zw z) (Zx z)))))
def ZC(z:HZ):=Bb (Zy z) (Bb (Zz z) (Bb (Z0 z) (Bb (Z1 z) (Bb (Z2 z) (Z3 z)))))
def ZD(z:HZ):=Bb (Z4 z) (Bb (Z5 z) (Bb (Z6 z) (Bb (Z7 z) (Bb (Z8 z) (Z9 z)))))
def RW(z:HZ):=Bb (ZA z) (ZB z)
def finT(p:cB)(P:kq):BT:=PH (JR P) (Bb (ZC (hz p P)) (Bb (ZD (hz p P)) (RW (hz p P))))
theorem Zzv:eg=fun P=>absHeap (JR P) 11 {}:=by kernel_rfl
def runL(w:eL)(os:eM):Option SharedT:=(segRunT lq ap w 11 (some (.ref 6)) 0 7626 ⟨JR w.params,11,{},gR [],kr,lr,os⟩ (topStub ap)).map fun r=>r.2.1
def runR(w:eL)(os:eM):Option SharedT:=some ⟨finT ap w.params,507,{},gR [],{},896,os⟩
theorem Z51:(fun (_ _:eL->eM->Option SharedT)=>true) runL runR=true:=by k_qdec
theorem RX(w:eL)(os:eM):PySem.W.Fast.tw15381529512651596867 w os=PySem.W.Fast.tw6244362003190856736 w os:=by kernel_rfl
def Z52(z:HZ):aG:=[(2,h_2 z),(3,h_3 z),(15,WA z),(22,oA z),(23,WB z),(24,WC z)]
def Z53(z:HZ):aG:=[(25,WD z),(28,WE z),(35,oA z),(36,WF z),(37,WG z),(40,WH z)]
def Z54(z:HZ):aG:=[(47,oA z),(48,WI z),(49,WJ z),(52,WK z),(59,oA z),(60,WL z)]
def Z55(z:HZ):aG:=[(61,WM z),(64,WN z),(71,oA z),(72,WO z),(73,WP z),(76,WQ z)]
def Z56(z:HZ):aG:=[(83,oA z),(84,WR z),(85,WT z),(88,WU z),(95,oA z),(96,WV z)]
def Z57(z:HZ):aG:=[(97,WW z),(100,MF z),(107,oA z),(109,MG z),(110,oA z),(112,MH z)]
def Z58(z:HZ):aG:=[(113,MI z),(114,MJ z),(115,MK z),(116,ML z),(119,oA z),(121,MM z)]
def Z59(z:HZ):aG:=[(122,oA z),(124,MN z),(125,MO z),(126,oA z),(128,MP z),(129,oA z)]
def Z6a(z:HZ):aG:=[(131,MQ z),(132,MR z),(133,oA z),(136,MS z),(137,MT z),(138,oA z)]
def Z6b(z:HZ):aG:=[(140,MU z),(141,oA z),(143,MV z),(144,MX z),(145,oA z),(148,MY z)]
def ZE(z:HZ):aG:=[(149,MZ z),(150,oA z),(152,Na z),(153,oA z),(155,Nb z),(156,Nc z)]
def ZF(z:HZ):aG:=[(157,oA z),(159,Nd z),(160,oA z),(162,Nf z),(163,Ng z),(164,oA z)]
def ZG(z:HZ):aG:=[(166,Nh z),(167,oA z),(169,Ni z),(170,Nj z),(171,oA z),(174,Nk z)]
def ZH(z:HZ):aG:=[(175,Nl z),(176,oA z),(179,Nm z),(180,Nn z),(181,oA z),(183,No z)]
def ZI(z:HZ):aG:=[(184,oA z),(186,Np z),(187,Nq z),(188,oA z),(190,Nr z),(191,oA z)]
def ZJ(z:HZ):aG:=[(193,Nt z),(194,Nu z),(195,oA z),(198,Nv z),(199,Nw z),(200,oA z)]
def ZK(z:HZ):aG:=[(202,Nx z),(203,oA z),(205,Ny z),(206,Nz z),(207,oA z),(209,N0 z)]
def ZL(z:HZ):aG:=[(210,oA z),(212,N1 z),(213,N2 z),(214,oA z),(216,N3 z),(217,oA z)]
def ZM(z:HZ):aG:=[(219,N4 z),(220,N5 z),(228,oA z),(230,N6 z),(231,oA z),(233,N7 z)]
def ZN(z:HZ):aG:=[(234,N8 z),(235,oA z),(237,N9 z),(238,oA z),(240,NA z),(241,NB z)]
def ZO(z:HZ):aG:=[(242,oA z),(244,NC z),(245,oA z),(247,ND z),(248,NE z),(249,oA z)]
def ZP(z:HZ):aG:=[(251,NF z),(252,oA z),(254,NG z),(255,NH z),(256,oA z),(258,NI z)]
def ZQ(z:HZ):aG:=[(259,oA z),(261,NJ z),(262,NK z),(263,oA z),(265,NL z),(266,oA z)]
def ZR(z:HZ):aG:=[(268,NM z),(269,NN z),(270,oA z),(272,NO z),(273,oA z),(275,NP z)]
def ZS(z:HZ):aG:=[(276,NQ z),(277,oA z),(279,NR z),(280,oA z),(282,NT z),(283,NU z)]
def ZT(z:HZ):aG:=[(284,oA z),(286,NV z),(287,oA z),(289,NW z),(290,NX z),(291,NY z)]
def ZU(z:HZ):aG:=[(292,NZ z),(293,Oa z),(294,Ob z),(295,Oc z),(298,oA z),(300,Od z)]
def ZV(z:HZ):aG:=[(301,oA z),(303,Oe z),(304,Of z),(305,oA z),(307,Og z),(308,oA z)]
def ZW(z:HZ):aG:=[(310,Oh z),(311,Oi z),(312,oA z),(314,Oj z),(315,oA z),(317,Ol z)]
def ZY(z:HZ):aG:=[(318,Om z),(319,oA z),(321,On z),(322,oA z),(324,Oo z),(325,Op z)]
def ZZ(z:HZ):aG:=[(326,oA z),(328,Oq z),(329,oA z),(331,Os z),(332,Ot z),(333,oA z)]
def Zzz(z:HZ):aG:=[(336,Ou z),(337,Ov z),(338,oA z),(340,Ow z),(341,oA z),(343,Ox z)]
def Zz0(z:HZ):aG:=[(344,Oy z),(345,oA z),(347,Oz z),(348,oA z),(350,O0 z),(351,O1 z)]
def Zz1(z:HZ):aG:=[(352,oA z),(354,O2 z),(355,oA z),(357,O3 z),(358,O4 z),(359,oA z)]
def Zz2(z:HZ):aG:=[(361,O5 z),(362,oA z),(364,O6 z),(365,O7 z),(366,oA z),(368,O8 z)]
def Zz3(z:HZ):aG:=[(369,oA z),(371,O9 z),(372,OA z),(373,oA z),(375,OC z),(376,oA z)]
def Zz4(z:HZ):aG:=[(378,OD z),(379,OF z),(380,oA z),(382,OG z),(383,oA z),(385,OH z)]
def Zz5(z:HZ):aG:=[(386,OI z),(387,oA z),(389,OJ z),(390,oA z),(392,OK z),(393,OL z)]
def Zz6(z:HZ):aG:=[(394,oA z),(397,OM z),(398,ON z),(399,oA z),(401,OO z),(402,oA z)]
def Zz7(z:HZ):aG:=[(404,OP z),(405,OQ z),(406,oA z),(408,OU z),(409,oA z),(411,OW z)]
def Zz8(z:HZ):aG:=[(412,OX z),(413,oA z),(415,OY z),(416,oA z),(418,OZ z),(419,Pa z)]
def Zz9(z:HZ):aG:=[(420,oA z),(422,Pb z),(423,oA z),(425,Pc z),(426,Pd z),(427,oA z)]
def Z0a(z:HZ):aG:=[(429,Pe z),(430,oA z),(432,Pf z),(433,Pg z),(434,oA z),(436,Ph z)]
def Z0b(z:HZ):aG:=[(437,oA z),(439,Pi z),(440,Pj z),(441,oA z),(443,Pk z),(444,oA z)]
def Z0c(z:HZ):aG:=[(446,Pm z),(447,Pn z),(448,oA z),(450,Po z),(451,oA z),(453,Pp z)]
def Z0d(z:HZ):aG:=[(454,Pq z),(455,oA z),(457,Pr z),(458,oA z),(460,Pt z),(461,Pu z)]
def Z0e(z:HZ):aG:=[(462,oA z),(464,Pv z),(465,oA z),(467,Pw z),(468,Px z),(469,oA z)]
def Z0f(z:HZ):aG:=[(472,Py z),(473,Pz z),(474,oA z),(476,P3 z),(477,oA z),(479,P4 z)]
def Z0g(z:HZ):aG:=[(480,P5 z),(481,oA z),(483,P6 z),(484,oA z),(486,P7 z),(487,P8 z)]
def Z0h(z:HZ):aG:=[(488,oA z),(490,P9 z),(491,oA z),(493,PA z),(494,PB z),(495,oA z)]
def Z0i(z:HZ):aG:=[(497,PC z),(498,oA z),(500,PD z),(501,PE z),(502,oA z),(505,PF z)]
def Z0j(z:HZ):aG:=[(506,PG z)]
def Z0k(z:HZ):aG:=Bb (Z52 z) (Bb (Z53 z) (Bb (Z54 z) (Bb (Z55 z) (Bb (Z56 z) (Z57 z)))))
def Z0l(z:HZ):aG:=Bb (Z58 z) (Bb (Z59 z) (Bb (Z6a z) (Bb (Z6b z) (Bb (ZE z) (ZF z)))))
def Z0m(z:HZ):aG:=Bb (ZG z) (Bb (ZH z) (Bb (ZI z) (Bb (ZJ z) (Bb (ZK z) (ZL z)))))
def Z0n(z:HZ):aG:=Bb (ZM z) (Bb (ZN z) (Bb (ZO z) (Bb (ZP z) (Bb (ZQ z) (ZR z)))))
def Z0o(z:HZ):aG:=Bb (ZS z) (Bb (ZT z) (Bb (ZU z) (Bb (ZV z) (Bb (ZW z) (ZY z)))))
def Z0p(z:HZ):aG:=Bb (ZZ z) (Bb (Zzz z) (Bb (Zz0 z) (Bb (Zz1 z) (Bb (Zz2 z) (Zz3 z)))))
def Z0q(z:HZ):aG:=Bb (Zz4 z) (Bb (Zz5 z) (Bb (Zz6 z) (Bb (Zz7 z) (Bb (Zz8 z) (Zz9 z)))))
def Z0r(z:HZ):aG:=Bb (Z0a z) (Bb (Z0b z) (Bb (Z0c z) (Bb (Z0d z) (Bb (Z0e z) (Z0f z)))))
def Z0s(z:HZ):aG:=Bb (Z0g z) (Bb (Z0h z) (Bb (Z0i z) (Z0j z)))
def Z0t(z:HZ):aG:=Bb (Z0k z) (Bb (Z0l z) (Bb (Z0m z) (Bb (Z0n z) (Bb (Z0o z) (Z0p z)))))
def Z0u(z:HZ):aG:=Bb (Z0q z) (Bb (Z0r z) (Z0s z))
theorem RY(w:eL)(os:eM):runL w os=runR w os:=by
 rw[PySem.W.Fast.te15381529512651596867,PySem.W.Fast.te6244362003190856736];exact RX w os
noncomputable def qv:cB:=view ap [65]
def lv:List aW:=Bb [JA,JB,JC,FV,JD] (Bb [Ga,JE,Gb,x19,JF] (Bb [x21,G8,JX,G9,JY] (Bb [JZ,Ka,Kb,x29,Kc] (Bb [Ke,Kf,Kg,Kh,Ki] (Bb [Kj,Kk,Kl,JG,Km] (Bb [Kn,Ko,Kq,Kr,Ks] (Bb [Kt,Ku,Kv,Kw,Kx] (Bb [Ky,Kz,K0,K1,K2] (Bb [K3,K4,K5,K6,K7] (Bb [K8,K9,KA,KB,KD] [KF,KG,MC,MD]))))))))))
def hK(P:kq):aG:=Bb (Z0t (hz ap P)) (Z0u (hz ap P))
noncomputable def kas:List aF:=[2,3,15,22,23,24,25,28,35,36,37,40,47,48,49,52,59,60,61,64,71,72,73,76,83,84,85,88,95,96,97,100,107,109,110,112,113,114,115,116,119,121,122,124,125,126,128,129,131,132,133,136,137,138,140,141,143,144,145,148,149,150,152,153,155,156,157,159,160,162,163,164,166,167,169,170,171,174,175,176,179,180,181,183,184,186,187,188,190,191,193,194,195,198,199,200,202,203,205,206,207,209,210,212,213,214,216,217,219,220,228,230,231,233,234,235,237,238,240,241,242,244,245,247,248,249,251,252,254,255,256,258,259,261,262,263,265,266,268,269,270,272,273,275,276,277,279,280,282,283,284,286,287,289,290,291,292,293,294,295,298,300,301,303,304,305,307,308,310,311,312,314,315,317,318,319,321,322,324,325,326,328,329,331,332,333,336,337,338,340,341,343,344,345,347,348,350,351,352,354,355,357,358,359,361,362,364,365,366,368,369,371,372,373,375,376,378,379,380,382,383,385,386,387,389,390,392,393,394,397,398,399,401,402,404,405,406,408,409,411,412,413,415,416,418,419,420,422,423,425,426,427,429,430,432,433,434,436,437,439,440,441,443,444,446,447,448,450,451,453,454,455,457,458,460,461,462,464,465,467,468,469,472,473,474,476,477,479,480,481,483,484,486,487,488,490,491,493,494,495,497,498,500,501,502,505,506]
theorem RZ(P:kq):kas=(hK P).map (·.1):=by kernel_rfl
def lookL(w:eL)(os:eM):=((staticsOk (gH (mL ap).body) (eg w.params) (absHeap (finT ap w.params) 507 {})&&namesBound ap (absHeap (finT ap w.params) 507 {})&&gensDone ⟨absHeap (finT ap w.params) 507 {},gR [],{},896,os⟩&&laidKept (eg w.params) (absHeap (finT ap w.params) 507 {})),
 openSeen qv lv (gH (mL ap).body) (fun _=>true) true ⟨absHeap (finT ap w.params) 507 {},gR [],{},896,os⟩,kas.map (absHeap (finT ap w.params) 507 {}).get?)
def lookR(w:eL)(os:eM):=(true,openGood qv lv,(hK w.params).map fun p=>some p.2)
theorem Zzw:(fun a b=>(fun _=>true) (a=b)) lookL lookR=true:=by k_qdec
theorem Zzx(w:eL)(os:eM):PySem.W.Fast.tw2042841653586846793 w os=PySem.W.Fast.tw5156648718449592040 w os:=by kernel_rfl
theorem Zzy(w:eL)(os:eM):lookL w os=lookR w os:=by
 rw[PySem.W.Fast.te2042841653586846793,PySem.W.Fast.te5156648718449592040];exact Zzx w os
theorem Z0v:LeftO ap qv lv (fun _=>true) (fun s=>kas.map s.heap.get?) (fun w=>(hK w.params).map fun p=>some p.2) 7626 true :=
 Zad (m₀:=11) (ann:=(some (.ref 6))) (by kernel_rfl) (by kernel_rfl) (fun s=>by kernel_rfl) (fun w=>by kernel_rfl) Zzv RY Zzy
theorem Hl:(defOf qv "law").isSome=true:=by kernel_rfl
theorem hd09(w:WalkO qv lv (fun _ _=>True) (InK hK) PySem.Challenge.rw_uf030012_09.row.toRowW ((defOf qv "law").get Hl).1 ((defOf qv "law").get Hl).2 fun f vs=>PySem.call f vs):PySem.Challenge.rw_uf030012_09.Holds:=by
 w_on
 o_law
 refine holds_open (q:=qv) (loose:=lv) (Xt:=fun _=>true) (XP:=fun _ _=>True) (YP:=InK hK) (N:=7626) Z0v (InK.of RZ) InK.keeps (fun _ _=>trivial) (fun _ _ _ _ _=>trivial)
  (Zae Hl) (by kernel_rfl) (by kernel_rfl) (fun s _=>recFacts_nil rfl) rfl ‹_› (by decide +kernel) ⟨rfl,rfl,rfl,rfl,rfl,by decide +kernel⟩ ?hw w
 case hw=>w_witness2
end Mine
end
open PySem PySem.W PyProof.Rows
set_option maxRecDepth 100000 in
set_option maxHeartbeats 8000000 in
theorem PySem.Challenge.cw_uf030012_09_holds : PySem.Challenge.rw_uf030012_09.Holds := by
 refine Mine.hd09 ?_;intro w dp ae mg mb G Y fa o pm cd doc dV kV ho hd hcd hD hmg hg args vals as hpre hlay hrd hwl hlo;have KX:(Mine.hK w.params).In ae.heap:=Y;clear hd hcd hD;refine Ground.open G ?_;intro T B D TE TW
 wrow_args hpre hlay hrd hwl hlo
 refine enter_call ?_
 rename IntsAre _ _=>hI
 rename Heap.IsList _ _ _=>hL
 rename ¬ (_<_)=>hlen
 refine Mine.tie KX T (by decide +kernel) hmg hL hI ?h0 ?h1 ?a1 ?a2 ?a3 ?a4 ?a5 ?a6 ?tr0 ?b0 ?b1 ?b2 ?b3 ?b4 ?b5 ?b6 ?b7 ?b8 ?b9 ?b10 ?b11 ?b12 ?b13 ?b14 ?b15 ?b16 ?b17 ?b18 ?b19 ?b20 ?b21 ?b22 ?b23 ?b24 ?b25 ?b26 ?b27 ?b28 ?b29 ?b30 ?b31 ?b32 ?b33 ?b34 ?b35 ?b36 ?b37 ?b38 ?b39 ?b40 ?b41 ?b42 ?b43 ?b44 ?b45 ?b46 ?b47 ?b48 ?b49 ?b50 ?b51 ?b52 ?b53 ?b54 ?b55 ?b56 ?b57 ?b58 ?b59 ?b60 ?b61 ?b62 ?b63 ?b64 ?b65 ?b66 ?b67 (Mine.run09 _ (by omega)) fun s' hk hos hgs=>Mine.HP (fun cls=>rfl) (by kernel_rfl) hk hos (hgs.trans hg)
 case h0=>kernel_rfl
 case h1=>kernel_rfl
 case a1=>exact Mine.Sd fun a=>by kernel_rfl
 case a2=>exact Mine.GS (n:=1) fun a=>Mine.Sd fun b=>by kernel_rfl
 case a3=>exact Mine.GS (n:=2) fun a=>Mine.GS (n:=1) fun b=>Mine.Sd fun c=>by kernel_rfl
 case a4=>exact Mine.GS (n:=3) fun a=>Mine.GS (n:=2) fun b=>Mine.GS (n:=1) fun c=>Mine.Sd fun d=>by kernel_rfl
 case a5=>exact Mine.GS (n:=4) fun a=>Mine.GS (n:=3) fun b=>Mine.GS (n:=2) fun c=>Mine.GS (n:=1) fun d=>Mine.Sd fun e=>by kernel_rfl
 case a6=>exact Mine.GS (n:=5) fun a=>Mine.GS (n:=4) fun b=>Mine.GS (n:=3) fun c=>Mine.GS (n:=2) fun d=>Mine.GS (n:=1) fun e=>Mine.Sd fun f=>by kernel_rfl
 case tr0=>kernel_rfl
 case b0=>kernel_rfl
 case b1=>kernel_rfl
 case b2=>kernel_rfl
 case b3=>kernel_rfl
 case b4=>kernel_rfl
 case b5=>kernel_rfl
 case b6=>exact⟨by kernel_rfl,by kernel_rfl,by kernel_rfl,by kernel_rfl,by kernel_rfl,by kernel_rfl⟩
 case b7=>kernel_rfl
 case b8=>kernel_rfl
 case b9=>kernel_rfl
 case b10=>kernel_rfl
 case b11=>kernel_rfl
 case b12=>kernel_rfl
 case b13=>exact⟨by kernel_rfl,by kernel_rfl,by kernel_rfl,by kernel_rfl⟩
 case b14=>kernel_rfl
 case b15=>kernel_rfl
 case b16=>kernel_rfl
 case b17=>kernel_rfl
 case b18=>kernel_rfl
 case b19=>kernel_rfl
 case b20=>kernel_rfl
 case b21=>kernel_rfl
 case b22=>kernel_rfl
 case b23=>kernel_rfl
 case b24=>kernel_rfl
 case b25=>kernel_rfl
 case b26=>kernel_rfl
 case b27=>kernel_rfl
 case b28=>kernel_rfl
 case b29=>kernel_rfl
 case b30=>kernel_rfl
 case b31=>kernel_rfl
 case b32=>kernel_rfl
 case b33=>kernel_rfl
 case b34=>kernel_rfl
 case b35=>kernel_rfl
 case b36=>kernel_rfl
 case b37=>kernel_rfl
 case b38=>kernel_rfl
 case b39=>kernel_rfl
 case b40=>kernel_rfl
 case b41=>kernel_rfl
 case b42=>kernel_rfl
 case b43=>kernel_rfl
 case b44=>kernel_rfl
 case b45=>kernel_rfl
 case b46=>kernel_rfl
 case b47=>kernel_rfl
 case b48=>kernel_rfl
 case b49=>kernel_rfl
 case b50=>kernel_rfl
 case b51=>kernel_rfl
 case b52=>kernel_rfl
 case b53=>kernel_rfl
 case b54=>kernel_rfl
 case b55=>kernel_rfl
 case b56=>kernel_rfl
 case b57=>kernel_rfl
 case b58=>kernel_rfl
 case b59=>kernel_rfl
 case b60=>kernel_rfl
 case b61=>kernel_rfl
 case b62=>kernel_rfl
 case b63=>kernel_rfl
 case b64=>kernel_rfl
 case b65=>kernel_rfl
 case b66=>kernel_rfl
 case b67=>kernel_rfl
