import PyProof.Rows.All
import Open.Pieces
import OpenK.Lit
import PyProof.Walks
import PyProof.EqAt
import PyProof.P3Eq
import PyProof.EqLayable
import PyProof.Cells
import PyProof.PlainList
import PyProof.WalksMore
import PyProof.DictList
import PyProof.DictKinds
import PyProof.TupleKey
import PyProof.InstLoad
import PyProof.StationsW
import PyProof.ListMulAny
import PyProof.Rows.ListMul
import PyProof.CallStr
import KE.KIsAll
import OpenK.KLine
import Open.Line
import PyProof.IsiTupleOf
import PyProof.SliceList
import PyProof.SliceSyntax
import PyProof.Rows.TupMore
import KE.KTryMore
import OpenK.KOwn
import PyProof.RulesAs
import PyProof.DictRoadsH
import PyProof.DictTruth
import PyProof.DictRoads
import PyProof.InstStoreFacts
import PyProof.ObjNew
import PyProof.Rows.AttrNodeAny
import PyProof.AssignAttr
import PyProof.ExcInit
import PyProof.ExcClass2
import PyProof.ExcAttrAll.ValueError
import OpenK.KCls
import KE.KRevSl
import PyProof.FactsAll.NoneType_1
import PyProof.DictWalks
import PyProof.ListRange
import PyProof.DictValues
import PyProof.FactsAll.dict_4
import Lean
import PySem.Challenge.RW_uf030012_08
set_option genInjectivity false
set_option genSizeOf false
set_option bootstrap.genMatcherCode false
open PySem.Challenge
namespace Mine
open PySem PySem.W PySem.Calls PyProof.Rows
noncomputable def alts (l:List Obj):List Obj×List Obj:=@List.rec Obj (fun _=>List Obj×List Obj) ([],[]) (fun a _ ih=>(a::ih.2,ih.1)) l
noncomputable def ofL (n:Nat):List Obj→BT:=@Nat.rec (fun _=>List Obj→BT) (fun _=>.nil) (fun _ ih l=>@List.rec Obj (fun _=>BT) .nil (fun o r _=>.node o (ih (alts r).1) (ih (alts r).2)) l) n
noncomputable def putAll (t:BT) (l:List (Nat×Obj)):BT:=@List.rec (Nat×Obj) (fun _=>BT) t (fun x _ ih=>ih.ins x.1 x.2) l
noncomputable def Zaa:Stmt→Arguments×List Stmt×Scope
 | .FunctionDef _ a b _ _ _ sc _ _ _=>(a,b,sc)
 | _=>(⟨[],[],none,[],[],none,[]⟩,[],default)
noncomputable def hdef (p:Program) (i:Nat):Arguments×List Stmt×Scope:=Zaa (p.main.body.getD i (.Pass default))
noncomputable def hmdef (p:Program) (i j:Nat):Arguments×List Stmt×Scope:=match p.main.body.getD i (.Pass default) with
 | .ClassDef _ _ _ b _ _ _ _ _ _ _=>Zaa (b.getD j (.Pass default))
 | _=>Zaa (.Pass default)
noncomputable def dEn (P:Params) (x:Str) (t:Tok) (v:Value):DictEntry:=⟨PyData.keyHash P x,.str x t,v⟩
noncomputable def fnD (d:Arguments×List Stmt×Scope) (name qual:Str) (globals:Addr) (closure:List (Str×Addr)) (dV kV doc pm:Value) (ann:Option Addr) (code ct:Value) (bl:Addr):FuncData :=
 ⟨name,qual,d.1,.stmts d.2.1,d.2.2,globals,closure,dV,kV,doc,pm,ann,code,ct,bl⟩
structure HZ where
 f:Nat→Arguments×List Stmt×Scope
 m:Nat→Nat→Arguments×List Stmt×Scope
 e:Str→Tok→Value→DictEntry
 s:Nat→String
noncomputable def nthS (l:List String) (n:Nat):String:=@Nat.rec (fun _=>List String→String) (fun l=>@List.rec String (fun _=>String) "" (fun a _ _=>a) l) (fun _ ih l=>@List.rec String (fun _=>String) "" (fun _ r _=>ih r) l) n l
noncomputable def apL {α:Type} (a b:List α):List α:=@List.rec α (fun _=>List α) b (fun x _ ih=>x::ih) a
theorem Zab (t:Thread):through t=(endAt 0 t).isSome:=by
 obtain ⟨cur,code,pos,stack⟩:=t
 cases stack with
 | cons f r=>rfl
 | nil =>
  cases cur with
  | pure x=>cases x <;> rfl
  | _=>rfl
theorem Zac {tb:String→Option Builtin} {p:Program} {w:World} {n₀:Nat} {ann:Option Value}:∀ {n:Nat} {s s':Shared} {t:Thread} {f:Flow} {c:Code} {q:Pos},segRun tb p w n₀ ann 0 n s t=some (f,s',c,q)→topRun tb p w n₀ ann n s t=some s'
 | 0,_,_,_,_,_,_,h=>by injection h
 | n+1,s,s',t,f,c,q,h=>by
  unfold segRun at h
  unfold topRun
  rw [Zab]
  cases he:endAt 0 t with
  | some x=>rw [he] at h; cases h; rfl
  | none =>
   rw [he] at h
   show (match false with|true=>some s|false=>_)=_
   cases hk:stepOk n₀ ann t with
   | false=>rw [hk] at h; injection h
   | true =>
    rw [hk] at h
    cases hs:step (denote tb) p w s t with
    | halt o s'=>rw [hs] at h; injection h
    | go s₂ t₂=>rw [hs] at h; exact Zac h
theorem run_slim {p:Program} {m₀:Nat} {ann:Option Value} {M:Nat} {B₀ T₁:Params→BT} {n₀ n₁:Nat} {l₀ l₁:Life} {gs₁:Array GenState} {d₁:Drawn} {k₁:Nat}
  (hb:boot_heap=fun P=>absHeap (B₀ P) n₀ l₀) (w:World) (os:OsState)
  (run:(segRunT treeTable p w m₀ ann 0 M ⟨B₀ w.params,n₀,l₀,Array.mk [],boot_drawn,boot_toks,os⟩ (topStub p)).map (fun r=>r.2.1)=some ⟨T₁ w.params,n₁,l₁,gs₁,d₁,k₁,os⟩) :
  topRun treeTable p w m₀ ann M ⟨boot_heap w.params,Array.mk [],boot_drawn,boot_toks,os⟩ (topStub p)=some ⟨absHeap (T₁ w.params) n₁ l₁,gs₁,d₁,k₁,os⟩:=by
 obtain ⟨⟨f,s,c,q⟩,h,e⟩:=Option.map_eq_some_iff.mp run
 have h2:=Zac (segRun_of h)
 rw [hb]
 have e':s=_:=e
 rw [e'] at h2
 exact h2
theorem Zad {p q:Program} {loose:List Str} {α:Type} {Yf:Shared→α} {Ya:World→α} {N m₀ n₀ n₁ k₁:Nat} {ann:Option Value} {B₀ T₁:Params→BT} {l₀ l₁:Life} {gs₁:Array GenState} {d₁:Drawn}
  (e:opening p=plainProg p.main.scope.names) (hN:Nat.ble 600 N=true) (f:∀ s,fenceModules? p s=some s)
  (size:∀ w:World,((boot_heap w.params).isNs mainGlobals&&(Array.mk []:Array GenState).size == 0,(boot_heap w.params).objs.size,(boot_heap w.params).nsMap mainGlobals "__annotations__")=(true,m₀,ann))
  (hb:boot_heap=fun P=>absHeap (B₀ P) n₀ l₀)
  (run:∀ (w:World) (os:OsState),(segRunT treeTable p w m₀ ann 0 N ⟨B₀ w.params,n₀,l₀,Array.mk [],boot_drawn,boot_toks,os⟩ (topStub p)).map (fun r=>r.2.1)=some ⟨T₁ w.params,n₁,l₁,gs₁,d₁,k₁,os⟩)
  (looks:∀ (w:World) (os:OsState),((staticsOk (importedModules p.main.body) (boot_heap w.params) (absHeap (T₁ w.params) n₁ l₁)&&namesBound p (absHeap (T₁ w.params) n₁ l₁)&&gensDone ⟨absHeap (T₁ w.params) n₁ l₁,gs₁,d₁,k₁,os⟩&&laidKept (boot_heap w.params) (absHeap (T₁ w.params) n₁ l₁)),
    openSeen q loose (importedModules p.main.body) (fun _=>true) true ⟨absHeap (T₁ w.params) n₁ l₁,gs₁,d₁,k₁,os⟩,Yf ⟨absHeap (T₁ w.params) n₁ l₁,gs₁,d₁,k₁,os⟩)=(true,openGood q loose,Ya w)) :
  LeftO p q loose (fun _=>true) Yf Ya N true :=
 LeftO.of_pieces (H₁:=fun P=>absHeap (T₁ P) n₁ l₁) (boot_open e hN f) size (fun w os=>run_slim hb w os (run w os)) (Nat.ble_eq.mpr (Nat.le_refl N)) fun w=>funext (looks w)
theorem Zae {q:Program} {x:Str} (h:(defOf q x).isSome=true):defOf q x=some (((defOf q x).get h).1,((defOf q x).get h).2):=(Option.some_get h).symm
end Mine
namespace Mine
open PySem
set_option genSizeOf false
inductive BI where
 | len|range|isinstance|all|int|str|list|tuple|bool|dict|valueError
 deriving DecidableEq
inductive AV where
 | none
 | bool (b:Bool)
 | int (i:Int)
 | str (s:Str)
 | tup (l:List AV)
 | lst (l:List AV)
 | ref (i:Nat)
 | rng (b:Int)
 | fn (k:Nat)
 | cls (k:Nat)
 | bi (n:BI)
 | inst (c j:Nat)
 | exc (c:Nat)
inductive AO where
 | list (l:List AV)
 | dict (l:List (Int×AV))
 | dictS (l:List ((Int×List Int)×AV))
 | attrs (l:List (Str×AV))
 | exo (c:Nat) (d:Option Nat) (f:Bool)
abbrev AH:=List AO
abbrev Loc:=Nat→Option AV
noncomputable def upd (σ:Loc) (i:Nat) (v:AV):Loc:=fun j=>if j=i then some v else σ j
@[simp] theorem upd_self (σ:Loc) (i:Nat) (v:AV):upd σ i v i=some v:=if_pos rfl
theorem inj {α:Type} {a b:α} (h:some a=some b):a=b:=Option.some.inj h
theorem e0a2' {p q G:Prop} (h:p∧q) (k:p→q→G):G:=k h.1 h.2
theorem e0a3 {p0 p1 p2:Prop} {G:Prop} (h:p0∧p1∧p2) (k:p0→p1→p2→G):G:=k h.1 h.2.1 h.2.2
theorem e0a4 {p0 p1 p2 p3:Prop} {G:Prop} (h:p0∧p1∧p2∧p3) (k:p0→p1→p2→p3→G):G:=k h.1 h.2.1 h.2.2.1 h.2.2.2
theorem e0a5 {p0 p1 p2 p3 p4:Prop} {G:Prop} (h:p0∧p1∧p2∧p3∧p4) (k:p0→p1→p2→p3→p4→G):G:=k h.1 h.2.1 h.2.2.1 h.2.2.2.1 h.2.2.2.2
theorem e1a2 {A0:Type} {p0 p1:A0→Prop} {G:Prop} (h:∃ (x0:A0),p0 x0∧p1 x0) (k:∀ (x0:A0),p0 x0→p1 x0→G):G:=h.elim fun x0 h=>k x0 h.1 h.2
theorem e1a3 {A0:Type} {p0 p1 p2:A0→Prop} {G:Prop} (h:∃ (x0:A0),p0 x0∧p1 x0∧p2 x0) (k:∀ (x0:A0),p0 x0→p1 x0→p2 x0→G):G:=h.elim fun x0 h=>k x0 h.1 h.2.1 h.2.2
theorem e1a4 {A0:Type} {p0 p1 p2 p3:A0→Prop} {G:Prop} (h:∃ (x0:A0),p0 x0∧p1 x0∧p2 x0∧p3 x0) (k:∀ (x0:A0),p0 x0→p1 x0→p2 x0→p3 x0→G):G:=h.elim fun x0 h=>k x0 h.1 h.2.1 h.2.2.1 h.2.2.2
theorem e2a1 {A0 A1:Type} {p0:A0→A1→Prop} {G:Prop} (h:∃ (x0:A0) (x1:A1),p0 x0 x1) (k:∀ (x0:A0) (x1:A1),p0 x0 x1→G):G:=h.elim fun x0 h=>h.elim fun x1 h=>k x0 x1 h
theorem e2a11 {A0 A1:Type} {p0 p1 p2 p3 p4 p5 p6 p7 p8 p9 p10:A0→A1→Prop} {G:Prop} (h:∃ (x0:A0) (x1:A1),p0 x0 x1∧p1 x0 x1∧p2 x0 x1∧p3 x0 x1∧p4 x0 x1∧p5 x0 x1∧p6 x0 x1∧p7 x0 x1∧p8 x0 x1∧p9 x0 x1∧p10 x0 x1) (k:∀ (x0:A0) (x1:A1),p0 x0 x1→p1 x0 x1→p2 x0 x1→p3 x0 x1→p4 x0 x1→p5 x0 x1→p6 x0 x1→p7 x0 x1→p8 x0 x1→p9 x0 x1→p10 x0 x1→G):G:=h.elim fun x0 h=>h.elim fun x1 h=>k x0 x1 h.1 h.2.1 h.2.2.1 h.2.2.2.1 h.2.2.2.2.1 h.2.2.2.2.2.1 h.2.2.2.2.2.2.1 h.2.2.2.2.2.2.2.1 h.2.2.2.2.2.2.2.2.1 h.2.2.2.2.2.2.2.2.2.1 h.2.2.2.2.2.2.2.2.2.2
theorem e2a12 {A0 A1:Type} {p0 p1 p2 p3 p4 p5 p6 p7 p8 p9 p10 p11:A0→A1→Prop} {G:Prop} (h:∃ (x0:A0) (x1:A1),p0 x0 x1∧p1 x0 x1∧p2 x0 x1∧p3 x0 x1∧p4 x0 x1∧p5 x0 x1∧p6 x0 x1∧p7 x0 x1∧p8 x0 x1∧p9 x0 x1∧p10 x0 x1∧p11 x0 x1) (k:∀ (x0:A0) (x1:A1),p0 x0 x1→p1 x0 x1→p2 x0 x1→p3 x0 x1→p4 x0 x1→p5 x0 x1→p6 x0 x1→p7 x0 x1→p8 x0 x1→p9 x0 x1→p10 x0 x1→p11 x0 x1→G):G:=h.elim fun x0 h=>h.elim fun x1 h=>k x0 x1 h.1 h.2.1 h.2.2.1 h.2.2.2.1 h.2.2.2.2.1 h.2.2.2.2.2.1 h.2.2.2.2.2.2.1 h.2.2.2.2.2.2.2.1 h.2.2.2.2.2.2.2.2.1 h.2.2.2.2.2.2.2.2.2.1 h.2.2.2.2.2.2.2.2.2.2.1 h.2.2.2.2.2.2.2.2.2.2.2
theorem e2a2 {A0 A1:Type} {p0 p1:A0→A1→Prop} {G:Prop} (h:∃ (x0:A0) (x1:A1),p0 x0 x1∧p1 x0 x1) (k:∀ (x0:A0) (x1:A1),p0 x0 x1→p1 x0 x1→G):G:=h.elim fun x0 h=>h.elim fun x1 h=>k x0 x1 h.1 h.2
theorem e2a3 {A0 A1:Type} {p0 p1 p2:A0→A1→Prop} {G:Prop} (h:∃ (x0:A0) (x1:A1),p0 x0 x1∧p1 x0 x1∧p2 x0 x1) (k:∀ (x0:A0) (x1:A1),p0 x0 x1→p1 x0 x1→p2 x0 x1→G):G:=h.elim fun x0 h=>h.elim fun x1 h=>k x0 x1 h.1 h.2.1 h.2.2
theorem e2a4 {A0 A1:Type} {p0 p1 p2 p3:A0→A1→Prop} {G:Prop} (h:∃ (x0:A0) (x1:A1),p0 x0 x1∧p1 x0 x1∧p2 x0 x1∧p3 x0 x1) (k:∀ (x0:A0) (x1:A1),p0 x0 x1→p1 x0 x1→p2 x0 x1→p3 x0 x1→G):G:=h.elim fun x0 h=>h.elim fun x1 h=>k x0 x1 h.1 h.2.1 h.2.2.1 h.2.2.2
theorem e2a5 {A0 A1:Type} {p0 p1 p2 p3 p4:A0→A1→Prop} {G:Prop} (h:∃ (x0:A0) (x1:A1),p0 x0 x1∧p1 x0 x1∧p2 x0 x1∧p3 x0 x1∧p4 x0 x1) (k:∀ (x0:A0) (x1:A1),p0 x0 x1→p1 x0 x1→p2 x0 x1→p3 x0 x1→p4 x0 x1→G):G:=h.elim fun x0 h=>h.elim fun x1 h=>k x0 x1 h.1 h.2.1 h.2.2.1 h.2.2.2.1 h.2.2.2.2
theorem e2a6 {A0 A1:Type} {p0 p1 p2 p3 p4 p5:A0→A1→Prop} {G:Prop} (h:∃ (x0:A0) (x1:A1),p0 x0 x1∧p1 x0 x1∧p2 x0 x1∧p3 x0 x1∧p4 x0 x1∧p5 x0 x1) (k:∀ (x0:A0) (x1:A1),p0 x0 x1→p1 x0 x1→p2 x0 x1→p3 x0 x1→p4 x0 x1→p5 x0 x1→G):G:=h.elim fun x0 h=>h.elim fun x1 h=>k x0 x1 h.1 h.2.1 h.2.2.1 h.2.2.2.1 h.2.2.2.2.1 h.2.2.2.2.2
theorem e3a2 {A0 A1 A2:Type} {p0 p1:A0→A1→A2→Prop} {G:Prop} (h:∃ (x0:A0) (x1:A1) (x2:A2),p0 x0 x1 x2∧p1 x0 x1 x2) (k:∀ (x0:A0) (x1:A1) (x2:A2),p0 x0 x1 x2→p1 x0 x1 x2→G):G:=h.elim fun x0 h=>h.elim fun x1 h=>h.elim fun x2 h=>k x0 x1 x2 h.1 h.2
theorem e3a3 {A0 A1 A2:Type} {p0 p1 p2:A0→A1→A2→Prop} {G:Prop} (h:∃ (x0:A0) (x1:A1) (x2:A2),p0 x0 x1 x2∧p1 x0 x1 x2∧p2 x0 x1 x2) (k:∀ (x0:A0) (x1:A1) (x2:A2),p0 x0 x1 x2→p1 x0 x1 x2→p2 x0 x1 x2→G):G:=h.elim fun x0 h=>h.elim fun x1 h=>h.elim fun x2 h=>k x0 x1 x2 h.1 h.2.1 h.2.2
theorem e3a4 {A0 A1 A2:Type} {p0 p1 p2 p3:A0→A1→A2→Prop} {G:Prop} (h:∃ (x0:A0) (x1:A1) (x2:A2),p0 x0 x1 x2∧p1 x0 x1 x2∧p2 x0 x1 x2∧p3 x0 x1 x2) (k:∀ (x0:A0) (x1:A1) (x2:A2),p0 x0 x1 x2→p1 x0 x1 x2→p2 x0 x1 x2→p3 x0 x1 x2→G):G:=h.elim fun x0 h=>h.elim fun x1 h=>h.elim fun x2 h=>k x0 x1 x2 h.1 h.2.1 h.2.2.1 h.2.2.2
theorem e3a5 {A0 A1 A2:Type} {p0 p1 p2 p3 p4:A0→A1→A2→Prop} {G:Prop} (h:∃ (x0:A0) (x1:A1) (x2:A2),p0 x0 x1 x2∧p1 x0 x1 x2∧p2 x0 x1 x2∧p3 x0 x1 x2∧p4 x0 x1 x2) (k:∀ (x0:A0) (x1:A1) (x2:A2),p0 x0 x1 x2→p1 x0 x1 x2→p2 x0 x1 x2→p3 x0 x1 x2→p4 x0 x1 x2→G):G:=h.elim fun x0 h=>h.elim fun x1 h=>h.elim fun x2 h=>k x0 x1 x2 h.1 h.2.1 h.2.2.1 h.2.2.2.1 h.2.2.2.2
theorem e3a6 {A0 A1 A2:Type} {p0 p1 p2 p3 p4 p5:A0→A1→A2→Prop} {G:Prop} (h:∃ (x0:A0) (x1:A1) (x2:A2),p0 x0 x1 x2∧p1 x0 x1 x2∧p2 x0 x1 x2∧p3 x0 x1 x2∧p4 x0 x1 x2∧p5 x0 x1 x2) (k:∀ (x0:A0) (x1:A1) (x2:A2),p0 x0 x1 x2→p1 x0 x1 x2→p2 x0 x1 x2→p3 x0 x1 x2→p4 x0 x1 x2→p5 x0 x1 x2→G):G:=h.elim fun x0 h=>h.elim fun x1 h=>h.elim fun x2 h=>k x0 x1 x2 h.1 h.2.1 h.2.2.1 h.2.2.2.1 h.2.2.2.2.1 h.2.2.2.2.2
theorem e3a7 {A0 A1 A2:Type} {p0 p1 p2 p3 p4 p5 p6:A0→A1→A2→Prop} {G:Prop} (h:∃ (x0:A0) (x1:A1) (x2:A2),p0 x0 x1 x2∧p1 x0 x1 x2∧p2 x0 x1 x2∧p3 x0 x1 x2∧p4 x0 x1 x2∧p5 x0 x1 x2∧p6 x0 x1 x2) (k:∀ (x0:A0) (x1:A1) (x2:A2),p0 x0 x1 x2→p1 x0 x1 x2→p2 x0 x1 x2→p3 x0 x1 x2→p4 x0 x1 x2→p5 x0 x1 x2→p6 x0 x1 x2→G):G:=h.elim fun x0 h=>h.elim fun x1 h=>h.elim fun x2 h=>k x0 x1 x2 h.1 h.2.1 h.2.2.1 h.2.2.2.1 h.2.2.2.2.1 h.2.2.2.2.2.1 h.2.2.2.2.2.2
theorem e4a2 {A0 A1 A2 A3:Type} {p0 p1:A0→A1→A2→A3→Prop} {G:Prop} (h:∃ (x0:A0) (x1:A1) (x2:A2) (x3:A3),p0 x0 x1 x2 x3∧p1 x0 x1 x2 x3) (k:∀ (x0:A0) (x1:A1) (x2:A2) (x3:A3),p0 x0 x1 x2 x3→p1 x0 x1 x2 x3→G):G:=h.elim fun x0 h=>h.elim fun x1 h=>h.elim fun x2 h=>h.elim fun x3 h=>k x0 x1 x2 x3 h.1 h.2
theorem e4a3 {A0 A1 A2 A3:Type} {p0 p1 p2:A0→A1→A2→A3→Prop} {G:Prop} (h:∃ (x0:A0) (x1:A1) (x2:A2) (x3:A3),p0 x0 x1 x2 x3∧p1 x0 x1 x2 x3∧p2 x0 x1 x2 x3) (k:∀ (x0:A0) (x1:A1) (x2:A2) (x3:A3),p0 x0 x1 x2 x3→p1 x0 x1 x2 x3→p2 x0 x1 x2 x3→G):G:=h.elim fun x0 h=>h.elim fun x1 h=>h.elim fun x2 h=>h.elim fun x3 h=>k x0 x1 x2 x3 h.1 h.2.1 h.2.2
theorem e4a4 {A0 A1 A2 A3:Type} {p0 p1 p2 p3:A0→A1→A2→A3→Prop} {G:Prop} (h:∃ (x0:A0) (x1:A1) (x2:A2) (x3:A3),p0 x0 x1 x2 x3∧p1 x0 x1 x2 x3∧p2 x0 x1 x2 x3∧p3 x0 x1 x2 x3) (k:∀ (x0:A0) (x1:A1) (x2:A2) (x3:A3),p0 x0 x1 x2 x3→p1 x0 x1 x2 x3→p2 x0 x1 x2 x3→p3 x0 x1 x2 x3→G):G:=h.elim fun x0 h=>h.elim fun x1 h=>h.elim fun x2 h=>h.elim fun x3 h=>k x0 x1 x2 x3 h.1 h.2.1 h.2.2.1 h.2.2.2
theorem e4a8 {A0 A1 A2 A3:Type} {p0 p1 p2 p3 p4 p5 p6 p7:A0→A1→A2→A3→Prop} {G:Prop} (h:∃ (x0:A0) (x1:A1) (x2:A2) (x3:A3),p0 x0 x1 x2 x3∧p1 x0 x1 x2 x3∧p2 x0 x1 x2 x3∧p3 x0 x1 x2 x3∧p4 x0 x1 x2 x3∧p5 x0 x1 x2 x3∧p6 x0 x1 x2 x3∧p7 x0 x1 x2 x3) (k:∀ (x0:A0) (x1:A1) (x2:A2) (x3:A3),p0 x0 x1 x2 x3→p1 x0 x1 x2 x3→p2 x0 x1 x2 x3→p3 x0 x1 x2 x3→p4 x0 x1 x2 x3→p5 x0 x1 x2 x3→p6 x0 x1 x2 x3→p7 x0 x1 x2 x3→G):G:=h.elim fun x0 h=>h.elim fun x1 h=>h.elim fun x2 h=>h.elim fun x3 h=>k x0 x1 x2 x3 h.1 h.2.1 h.2.2.1 h.2.2.2.1 h.2.2.2.2.1 h.2.2.2.2.2.1 h.2.2.2.2.2.2.1 h.2.2.2.2.2.2.2
theorem e5a11 {A0 A1 A2 A3 A4:Type} {p0 p1 p2 p3 p4 p5 p6 p7 p8 p9 p10:A0→A1→A2→A3→A4→Prop} {G:Prop} (h:∃ (x0:A0) (x1:A1) (x2:A2) (x3:A3) (x4:A4),p0 x0 x1 x2 x3 x4∧p1 x0 x1 x2 x3 x4∧p2 x0 x1 x2 x3 x4∧p3 x0 x1 x2 x3 x4∧p4 x0 x1 x2 x3 x4∧p5 x0 x1 x2 x3 x4∧p6 x0 x1 x2 x3 x4∧p7 x0 x1 x2 x3 x4∧p8 x0 x1 x2 x3 x4∧p9 x0 x1 x2 x3 x4∧p10 x0 x1 x2 x3 x4) (k:∀ (x0:A0) (x1:A1) (x2:A2) (x3:A3) (x4:A4),p0 x0 x1 x2 x3 x4→p1 x0 x1 x2 x3 x4→p2 x0 x1 x2 x3 x4→p3 x0 x1 x2 x3 x4→p4 x0 x1 x2 x3 x4→p5 x0 x1 x2 x3 x4→p6 x0 x1 x2 x3 x4→p7 x0 x1 x2 x3 x4→p8 x0 x1 x2 x3 x4→p9 x0 x1 x2 x3 x4→p10 x0 x1 x2 x3 x4→G):G:=h.elim fun x0 h=>h.elim fun x1 h=>h.elim fun x2 h=>h.elim fun x3 h=>h.elim fun x4 h=>k x0 x1 x2 x3 x4 h.1 h.2.1 h.2.2.1 h.2.2.2.1 h.2.2.2.2.1 h.2.2.2.2.2.1 h.2.2.2.2.2.2.1 h.2.2.2.2.2.2.2.1 h.2.2.2.2.2.2.2.2.1 h.2.2.2.2.2.2.2.2.2.1 h.2.2.2.2.2.2.2.2.2.2
theorem e5a4 {A0 A1 A2 A3 A4:Type} {p0 p1 p2 p3:A0→A1→A2→A3→A4→Prop} {G:Prop} (h:∃ (x0:A0) (x1:A1) (x2:A2) (x3:A3) (x4:A4),p0 x0 x1 x2 x3 x4∧p1 x0 x1 x2 x3 x4∧p2 x0 x1 x2 x3 x4∧p3 x0 x1 x2 x3 x4) (k:∀ (x0:A0) (x1:A1) (x2:A2) (x3:A3) (x4:A4),p0 x0 x1 x2 x3 x4→p1 x0 x1 x2 x3 x4→p2 x0 x1 x2 x3 x4→p3 x0 x1 x2 x3 x4→G):G:=h.elim fun x0 h=>h.elim fun x1 h=>h.elim fun x2 h=>h.elim fun x3 h=>h.elim fun x4 h=>k x0 x1 x2 x3 x4 h.1 h.2.1 h.2.2.1 h.2.2.2
theorem e5a5 {A0 A1 A2 A3 A4:Type} {p0 p1 p2 p3 p4:A0→A1→A2→A3→A4→Prop} {G:Prop} (h:∃ (x0:A0) (x1:A1) (x2:A2) (x3:A3) (x4:A4),p0 x0 x1 x2 x3 x4∧p1 x0 x1 x2 x3 x4∧p2 x0 x1 x2 x3 x4∧p3 x0 x1 x2 x3 x4∧p4 x0 x1 x2 x3 x4) (k:∀ (x0:A0) (x1:A1) (x2:A2) (x3:A3) (x4:A4),p0 x0 x1 x2 x3 x4→p1 x0 x1 x2 x3 x4→p2 x0 x1 x2 x3 x4→p3 x0 x1 x2 x3 x4→p4 x0 x1 x2 x3 x4→G):G:=h.elim fun x0 h=>h.elim fun x1 h=>h.elim fun x2 h=>h.elim fun x3 h=>h.elim fun x4 h=>k x0 x1 x2 x3 x4 h.1 h.2.1 h.2.2.1 h.2.2.2.1 h.2.2.2.2
theorem e5a6 {A0 A1 A2 A3 A4:Type} {p0 p1 p2 p3 p4 p5:A0→A1→A2→A3→A4→Prop} {G:Prop} (h:∃ (x0:A0) (x1:A1) (x2:A2) (x3:A3) (x4:A4),p0 x0 x1 x2 x3 x4∧p1 x0 x1 x2 x3 x4∧p2 x0 x1 x2 x3 x4∧p3 x0 x1 x2 x3 x4∧p4 x0 x1 x2 x3 x4∧p5 x0 x1 x2 x3 x4) (k:∀ (x0:A0) (x1:A1) (x2:A2) (x3:A3) (x4:A4),p0 x0 x1 x2 x3 x4→p1 x0 x1 x2 x3 x4→p2 x0 x1 x2 x3 x4→p3 x0 x1 x2 x3 x4→p4 x0 x1 x2 x3 x4→p5 x0 x1 x2 x3 x4→G):G:=h.elim fun x0 h=>h.elim fun x1 h=>h.elim fun x2 h=>h.elim fun x3 h=>h.elim fun x4 h=>k x0 x1 x2 x3 x4 h.1 h.2.1 h.2.2.1 h.2.2.2.1 h.2.2.2.2.1 h.2.2.2.2.2
theorem Zaf {A5:Type} {p0:Prop} {p1:Prop} {p2:Prop} {p3:Prop} {p4:Prop} {p6:A5→Prop} {p7:A5→Prop} {p8:A5→Prop} {G:Prop} (h:p0∧p1∧p2∧p3∧p4∧∃ x5:A5,p6 x5∧p7 x5∧p8 x5) (k:p0→p1→p2→p3→p4→∀ x5:A5,p6 x5→p7 x5→p8 x5→G):G:=by obtain ⟨h0,h1,h2,h3,h4,x5,h6,h7,h8⟩:=h; exact k h0 h1 h2 h3 h4 x5 h6 h7 h8
theorem Zag {A4:Type} {p0:Prop} {p1:Prop} {p2:Prop} {p3:Prop} {p5:A4→Prop} {p6:A4→Prop} {G:Prop} (h:p0∧p1∧p2∧p3∧∃ x4:A4,p5 x4∧p6 x4) (k:p0→p1→p2→p3→∀ x4:A4,p5 x4→p6 x4→G):G:=by obtain ⟨h0,h1,h2,h3,x4,h5,h6⟩:=h; exact k h0 h1 h2 h3 x4 h5 h6
theorem Zah {A4:Type} {p0:Prop} {p1:Prop} {p2:Prop} {p3:Prop} {p5:A4→Prop} {p6:A4→Prop} {p7:A4→Prop} {G:Prop} (h:p0∧p1∧p2∧p3∧∃ x4:A4,p5 x4∧p6 x4∧p7 x4) (k:p0→p1→p2→p3→∀ x4:A4,p5 x4→p6 x4→p7 x4→G):G:=by obtain ⟨h0,h1,h2,h3,x4,h5,h6,h7⟩:=h; exact k h0 h1 h2 h3 x4 h5 h6 h7
theorem Zai {A4:Type} {p0:Prop} {p1:Prop} {p2:Prop} {p3:Prop} {p5:A4→Prop} {p6:A4→Prop} {p7:A4→Prop} {p8:A4→Prop} {G:Prop} (h:p0∧p1∧p2∧p3∧∃ x4:A4,p5 x4∧p6 x4∧p7 x4∧p8 x4) (k:p0→p1→p2→p3→∀ x4:A4,p5 x4→p6 x4→p7 x4→p8 x4→G):G:=by obtain ⟨h0,h1,h2,h3,x4,h5,h6,h7,h8⟩:=h; exact k h0 h1 h2 h3 x4 h5 h6 h7 h8
theorem maaaea {A3:Type} {p0:Prop} {p1:Prop} {p2:Prop} {p4:A3→Prop} {p5:A3→Prop} {G:Prop} (h:p0∧p1∧p2∧∃ x3:A3,p4 x3∧p5 x3) (k:p0→p1→p2→∀ x3:A3,p4 x3→p5 x3→G):G:=by obtain ⟨h0,h1,h2,x3,h4,h5⟩:=h; exact k h0 h1 h2 x3 h4 h5
theorem maaea {A2:Type} {p0:Prop} {p1:Prop} {p3:A2→Prop} {p4:A2→Prop} {G:Prop} (h:p0∧p1∧∃ x2:A2,p3 x2∧p4 x2) (k:p0→p1→∀ x2:A2,p3 x2→p4 x2→G):G:=by obtain ⟨h0,h1,x2,h3,h4⟩:=h; exact k h0 h1 x2 h3 h4
theorem Zaj {A2:Type} {A3:Type} {p0:Prop} {p1:Prop} {p4:A2→A3→Prop} {p5:A2→A3→Prop} {p6:A2→A3→Prop} {p7:A2→A3→Prop} {G:Prop} (h:p0∧p1∧∃ x2:A2,∃ x3:A3,p4 x2 x3∧p5 x2 x3∧p6 x2 x3∧p7 x2 x3) (k:p0→p1→∀ x2:A2,∀ x3:A3,p4 x2 x3→p5 x2 x3→p6 x2 x3→p7 x2 x3→G):G:=by obtain ⟨h0,h1,x2,x3,h4,h5,h6,h7⟩:=h; exact k h0 h1 x2 x3 h4 h5 h6 h7
theorem mae {A1:Type} {p0:Prop} {p2:A1→Prop} {G:Prop} (h:p0∧∃ x1:A1,p2 x1) (k:p0→∀ x1:A1,p2 x1→G):G:=by obtain ⟨h0,x1,h2⟩:=h; exact k h0 x1 h2
theorem maea {A1:Type} {p0:Prop} {p2:A1→Prop} {p3:A1→Prop} {G:Prop} (h:p0∧∃ x1:A1,p2 x1∧p3 x1) (k:p0→∀ x1:A1,p2 x1→p3 x1→G):G:=by obtain ⟨h0,x1,h2,h3⟩:=h; exact k h0 x1 h2 h3
theorem maeaa {A1:Type} {p0:Prop} {p2:A1→Prop} {p3:A1→Prop} {p4:A1→Prop} {G:Prop} (h:p0∧∃ x1:A1,p2 x1∧p3 x1∧p4 x1) (k:p0→∀ x1:A1,p2 x1→p3 x1→p4 x1→G):G:=by obtain ⟨h0,x1,h2,h3,h4⟩:=h; exact k h0 x1 h2 h3 h4
theorem maeaae {A1:Type} {A4:Type} {p0:Prop} {p2:A1→Prop} {p3:A1→Prop} {p5:A1→A4→Prop} {G:Prop} (h:p0∧∃ x1:A1,p2 x1∧p3 x1∧∃ x4:A4,p5 x1 x4) (k:p0→∀ x1:A1,p2 x1→p3 x1→∀ x4:A4,p5 x1 x4→G):G:=by obtain ⟨h0,x1,h2,h3,x4,h5⟩:=h; exact k h0 x1 h2 h3 x4 h5
theorem Zak {A1:Type} {A2:Type} {p0:Prop} {p3:A1→A2→Prop} {p4:A1→A2→Prop} {p5:A1→A2→Prop} {p6:A1→A2→Prop} {G:Prop} (h:p0∧∃ x1:A1,∃ x2:A2,p3 x1 x2∧p4 x1 x2∧p5 x1 x2∧p6 x1 x2) (k:p0→∀ x1:A1,∀ x2:A2,p3 x1 x2→p4 x1 x2→p5 x1 x2→p6 x1 x2→G):G:=by obtain ⟨h0,x1,x2,h3,h4,h5,h6⟩:=h; exact k h0 x1 x2 h3 h4 h5 h6
theorem maeeea {A1:Type} {A2:Type} {A3:Type} {p0:Prop} {p4:A1→A2→A3→Prop} {p5:A1→A2→A3→Prop} {G:Prop} (h:p0∧∃ x1:A1,∃ x2:A2,∃ x3:A3,p4 x1 x2 x3∧p5 x1 x2 x3) (k:p0→∀ x1:A1,∀ x2:A2,∀ x3:A3,p4 x1 x2 x3→p5 x1 x2 x3→G):G:=by obtain ⟨h0,x1,x2,x3,h4,h5⟩:=h; exact k h0 x1 x2 x3 h4 h5
theorem meaae {A0:Type} {A3:Type} {p1:A0→Prop} {p2:A0→Prop} {p4:A0→A3→Prop} {G:Prop} (h:∃ x0:A0,p1 x0∧p2 x0∧∃ x3:A3,p4 x0 x3) (k:∀ x0:A0,p1 x0→p2 x0→∀ x3:A3,p4 x0 x3→G):G:=by obtain ⟨x0,h1,h2,x3,h4⟩:=h; exact k x0 h1 h2 x3 h4
theorem meaea {A0:Type} {A2:Type} {p1:A0→Prop} {p3:A0→A2→Prop} {p4:A0→A2→Prop} {G:Prop} (h:∃ x0:A0,p1 x0∧∃ x2:A2,p3 x0 x2∧p4 x0 x2) (k:∀ x0:A0,p1 x0→∀ x2:A2,p3 x0 x2→p4 x0 x2→G):G:=by obtain ⟨x0,h1,x2,h3,h4⟩:=h; exact k x0 h1 x2 h3 h4
theorem Zal {A0:Type} {A1:Type} {A3:Type} {A5:Type} {p2:A0→A1→Prop} {p4:A0→A1→A3→Prop} {p6:A0→A1→A3→A5→Prop} {p7:A0→A1→A3→A5→Prop} {G:Prop} (h:∃ x0:A0,∃ x1:A1,p2 x0 x1∧∃ x3:A3,p4 x0 x1 x3∧∃ x5:A5,p6 x0 x1 x3 x5∧p7 x0 x1 x3 x5) (k:∀ x0:A0,∀ x1:A1,p2 x0 x1→∀ x3:A3,p4 x0 x1 x3→∀ x5:A5,p6 x0 x1 x3 x5→p7 x0 x1 x3 x5→G):G:=by obtain ⟨x0,x1,h2,x3,h4,x5,h6,h7⟩:=h; exact k x0 x1 h2 x3 h4 x5 h6 h7
theorem Zam {A0:Type} {A1:Type} {A3:Type} {A4:Type} {p2:A0→A1→Prop} {p5:A0→A1→A3→A4→Prop} {p6:A0→A1→A3→A4→Prop} {G:Prop} (h:∃ x0:A0,∃ x1:A1,p2 x0 x1∧∃ x3:A3,∃ x4:A4,p5 x0 x1 x3 x4∧p6 x0 x1 x3 x4) (k:∀ x0:A0,∀ x1:A1,p2 x0 x1→∀ x3:A3,∀ x4:A4,p5 x0 x1 x3 x4→p6 x0 x1 x3 x4→G):G:=by obtain ⟨x0,x1,h2,x3,x4,h5,h6⟩:=h; exact k x0 x1 h2 x3 x4 h5 h6
theorem e2a13 {A0 A1:Type} {p0 p1 p2 p3 p4 p5 p6 p7 p8 p9 p10 p11 p12:A0→A1→Prop} {G:Prop} (h:∃ (x0:A0) (x1:A1),p0 x0 x1∧p1 x0 x1∧p2 x0 x1∧p3 x0 x1∧p4 x0 x1∧p5 x0 x1∧p6 x0 x1∧p7 x0 x1∧p8 x0 x1∧p9 x0 x1∧p10 x0 x1∧p11 x0 x1∧p12 x0 x1) (k:∀ (x0:A0) (x1:A1),p0 x0 x1→p1 x0 x1→p2 x0 x1→p3 x0 x1→p4 x0 x1→p5 x0 x1→p6 x0 x1→p7 x0 x1→p8 x0 x1→p9 x0 x1→p10 x0 x1→p11 x0 x1→p12 x0 x1→G):G:=h.elim fun x0 h=>h.elim fun x1 h=>k x0 x1 h.1 h.2.1 h.2.2.1 h.2.2.2.1 h.2.2.2.2.1 h.2.2.2.2.2.1 h.2.2.2.2.2.2.1 h.2.2.2.2.2.2.2.1 h.2.2.2.2.2.2.2.2.1 h.2.2.2.2.2.2.2.2.2.1 h.2.2.2.2.2.2.2.2.2.2.1 h.2.2.2.2.2.2.2.2.2.2.2.1 h.2.2.2.2.2.2.2.2.2.2.2.2
theorem Zan {A3:Type} {A4:Type} {p0:Prop} {p1:Prop} {p2:Prop} {p5:A3→A4→Prop} {p6:A3→A4→Prop} {p7:A3→A4→Prop} {G:Prop} (h:p0∧p1∧p2∧∃ x3:A3,∃ x4:A4,p5 x3 x4∧p6 x3 x4∧p7 x3 x4) (k:p0→p1→p2→∀ x3:A3,∀ x4:A4,p5 x3 x4→p6 x3 x4→p7 x3 x4→G):G:=by obtain ⟨h0,h1,h2,x3,x4,h5,h6,h7⟩:=h; exact k h0 h1 h2 x3 x4 h5 h6 h7
theorem Zao {A3:Type} {A4:Type} {A5:Type} {p0:Prop} {p1:Prop} {p2:Prop} {p6:A3→A4→A5→Prop} {p7:A3→A4→A5→Prop} {p8:A3→A4→A5→Prop} {G:Prop} (h:p0∧p1∧p2∧∃ x3:A3,∃ x4:A4,∃ x5:A5,p6 x3 x4 x5∧p7 x3 x4 x5∧p8 x3 x4 x5) (k:p0→p1→p2→∀ x3:A3,∀ x4:A4,∀ x5:A5,p6 x3 x4 x5→p7 x3 x4 x5→p8 x3 x4 x5→G):G:=by obtain ⟨h0,h1,h2,x3,x4,x5,h6,h7,h8⟩:=h; exact k h0 h1 h2 x3 x4 x5 h6 h7 h8
theorem meae {A0:Type} {A2:Type} {p1:A0→Prop} {p3:A0→A2→Prop} {G:Prop} (h:∃ x0:A0,p1 x0∧∃ x2:A2,p3 x0 x2) (k:∀ x0:A0,p1 x0→∀ x2:A2,p3 x0 x2→G):G:=by obtain ⟨x0,h1,x2,h3⟩:=h; exact k x0 h1 x2 h3
theorem Zap {a b:Nat} (h:a < b):b - a=(b - (a+1))+1:=by rw [Nat.sub_add_eq]; exact (Nat.sub_add_cancel (Nat.sub_pos_of_lt h)).symm
theorem Zaq {n:Nat} {b:Int} (h:0≤b) (e:n=b.toNat):(n:Int)=b:=by rw [e]; exact Int.toNat_of_nonneg h
theorem Zar {b:Int} (h:0≤b):(b+1).toNat=b.toNat+1:=Int.toNat_add h (by decide)
theorem Zas:∀ {k n:Nat},k+n=2001→n≤2000→∃ j,k=j+1
 | 0,n,h,hn=>absurd hn (by rw [← Nat.zero_add n,h]; decide)
 | j+1,_,_,_=>⟨j,rfl⟩
theorem six {x:Int} (h:0≤x∧x < 6):∃ n:Nat,n < 6∧x=n:=by
 refine Exists.elim (Int.eq_ofNat_of_zero_le h.1) fun n eZ1=>?_; subst eZ1
 exact ⟨n,Int.ofNat_lt.mp h.2,rfl⟩
theorem upd_ne (σ:Loc) {i j:Nat} (v:AV) (h:j≠i):upd σ i v j=σ j:=if_neg h
inductive Rs (α:Type) where
 | ok (a:α) (H:AH)
 | err (x:AV) (H:AH)
 | bad
noncomputable def Rs.bind {α β:Type}:Rs α→(α→AH→Rs β)→Rs β
 | .ok a H,f=>f a H
 | .err x H,_=>.err x H
 | .bad,_=>.bad
noncomputable def Rs.bindB {α β:Type}:Rs α→(α→AH→Rs β)→Rs β
 | .ok a H,f=>f a H
 | .err _ _,_=>.bad
 | .bad,_=>.bad
@[simp] theorem Rs.bindB_ok {α β:Type} (a:α) (H:AH) (f:α→AH→Rs β):(Rs.ok a H).bindB f=f a H:=rfl
@[simp] theorem Rs.bind_ok {α β:Type} (a:α) (H:AH) (f:α→AH→Rs β):(Rs.ok a H).bind f=f a H:=rfl
@[simp] theorem Rs.bind_err {α β:Type} (x:AV) (H:AH) (f:α→AH→Rs β):(Rs.err x H:Rs α).bind f=.err x H:=rfl
abbrev DE:=Loc→AH→Rs AV
abbrev DT:=Loc→AH→Rs Bool
inductive Fl where
 | next
 | ret (v:AV)
noncomputable def Fl.val:Fl→AV
 | .next=>.none
 | .ret v=>v
abbrev DS:=Loc→AH→Rs (Fl×Loc)
abbrev Fns:=Nat→List AV→AH→Rs AV
noncomputable def data (H:AH):Nat→AV→Option PyData
 | 0,_=>none
 | n+1,v=>match v with
  | .none=>some .none
  | .bool b=>some (.bool b)
  | .int i=>some (.int i)
  | .str s=>some (.str s)
  | .tup l=>(l.mapM (data H n)).map .tuple
  | .lst l=>(l.mapM (data H n)).map .list
  | .ref i=>match H[i]? with
   | some (.list l)=>(l.mapM (data H n)).map .list
   | _=>none
  | _=>none
noncomputable def eqD (H:AH) (a b:AV):Option Bool :=
 match data H 12 a,data H 12 b with
 | some x,some y=>if PySem.SeqAt.shaped x&&PySem.SeqAt.shaped y then some (PyData.eqv x y) else none
 | _,_=>none
noncomputable def toR (H:AH):Option AV→Rs AV
 | some v=>.ok v H
 | none=>.bad
inductive BOp where
 | add|sub|mul|fdiv|mod|pow|rep
inductive COp where
 | eq|ne|lt|le|gt|ge|is|isNot|isIn|notIn
noncomputable def listOf? (H:AH):AV→Option (List AV)
 | .lst l=>some l
 | .ref i=>match H[i]? with
  | some (.list l)=>some l
  | _=>none
 | _=>none
noncomputable def intOp (f:Int→Int→Option AV):AV→AV→Option AV
 | .int a,.int b=>f a b
 | _,_=>none
noncomputable def addL (H:AH) (a b:AV):Option AV:=match listOf? H a,listOf? H b with
 | some l,some k=>if l.length+k.length≤1048576 then some (.lst (l++k)) else none
 | _,_=>none
noncomputable def addOp (H:AH) (a b:AV):Option AV:=match a with
 | .int i=>(match b with
  | .int j=>some (.int (i+j))
  | _=>none)
 | .tup l=>(match b with
  | .tup k=>if l.length+k.length≤1048576 then some (.tup (l++k)) else none
  | _=>none)
 | a=>addL H a b
noncomputable def repOp (H:AH) (a b:AV):Option AV:=match listOf? H a,b with
 | some l,.int j=>if l.length * j.toNat≤1048576∧-1048576≤j∧j≤1048576 then some (.lst (List.replicate j.toNat l).flatten) else none
 | _,_=>none
noncomputable def binop (H:AH) (op:BOp) (a b:AV):Option AV:=match op with
 | .add=>addOp H a b
 | .sub=>intOp (fun a b=>some (.int (a - b))) a b
 | .mul=>intOp (fun a b=>if b.natAbs < 2 ^ 60∨a.natAbs < 2 ^ 60 then some (.int (a * b)) else none) a b
 | .fdiv=>intOp (fun a b=>if b=0 then none else some (.int (a.fdiv b))) a b
 | .mod=>intOp (fun a b=>if b=0 then none else some (.int (a.fmod b))) a b
 | .pow=>intOp (fun a b=>if 0≤b∧b≤64∧a.natAbs < 2 ^ 60 then some (.int (a ^ b.toNat)) else none) a b
 | .rep=>repOp H a b
noncomputable def anyEq (H:AH) (x:AV):List AV→Option Bool
 | []=>some false
 | y::r=>match eqD H y x,anyEq H x r with
  | some b,some c=>some (b || c)
  | _,_=>none
noncomputable def cmpI (f:Int→Int→Bool):AV→AV→Option Bool
 | .int a,.int b=>some (f a b)
 | _,_=>none
noncomputable def isN:AV→Option Bool
 | .bi _=>none
 | .none=>some true
 | _=>some false
noncomputable def isOp (a b:AV):Option Bool:=match b with
 | .none=>isN a
 | _=>none
noncomputable def inOp (H:AH) (x:AV):AV→Option Bool
 | .tup l=>anyEq H x l
 | c=>match listOf? H c with
  | some l=>anyEq H x l
  | none=>none
noncomputable def cmpop (H:AH) (op:COp) (a b:AV):Option Bool:=match op with
 | .eq=>eqD H a b
 | .ne=>(eqD H a b).map (!·)
 | .lt=>cmpI (fun a b=>decide (a < b)) a b
 | .le=>cmpI (fun a b=>decide (a≤b)) a b
 | .gt=>cmpI (fun a b=>decide (a > b)) a b
 | .ge=>cmpI (fun a b=>decide (a ≥ b)) a b
 | .is=>isOp a b
 | .isNot=>(isOp a b).map (!·)
 | .isIn=>inOp H a b
 | .notIn=>(inOp H a b).map (!·)
noncomputable def itemAt (l:List AV) (k:Int):Option AV :=
 if -1048576≤k∧k≤1048576 then (if 0≤k then l[k.toNat]? else if 0≤k+l.length then l[(k+l.length).toNat]? else none) else none
noncomputable def subop (H:AH) (a i:AV):Option AV :=
 match i with
 | .int k=>match a with
  | .tup l=>itemAt l k
  | a=>match listOf? H a with
   | some l=>itemAt l k
   | none=>none
 | _=>none
noncomputable def dCst (v:AV):DE:=fun _ H=>.ok v H
noncomputable def dLoc (i:Nat):DE:=fun σ H=>match σ i with
 | some v=>.ok v H
 | none=>.bad
noncomputable def dBin (op:BOp) (a b:DE):DE:=fun σ H=>(a σ H).bind fun x H₁=>(b σ H₁).bind fun y H₂=>toR H₂ (binop H₂ op x y)
noncomputable def dNeg (a:DE):DE:=fun σ H=>(a σ H).bind fun x H₁=>match x with
 | .int i=>.ok (.int (-i)) H₁
 | _=>.bad
noncomputable def dNot (t:DT):DE:=fun σ H=>(t σ H).bind fun b H₁=>.ok (.bool (!b)) H₁
noncomputable def dCmp (op:COp) (a b:DE):DE:=fun σ H=>(a σ H).bind fun x H₁=>(b σ H₁).bind fun y H₂=>toR H₂ ((cmpop H₂ op x y).map .bool)
noncomputable def dCmp2 (o₁ o₂:COp) (a b c:DE):DE:=fun σ H=>(a σ H).bind fun x H₁=>(b σ H₁).bind fun y H₂ =>
 match cmpop H₂ o₁ x y with
 | some true=>(c σ H₂).bind fun z H₃=>toR H₃ ((cmpop H₃ o₂ y z).map .bool)
 | some false=>.ok (.bool false) H₂
 | none=>.bad
noncomputable def dAnd (a:DE) (b:DE):DE:=fun σ H=>(a σ H).bind fun x H₁=>match x with
 | .bool true=>b σ H₁
 | .bool false=>.ok (.bool false) H₁
 | _=>.bad
noncomputable def dOr (a:DE) (b:DE):DE:=fun σ H=>(a σ H).bind fun x H₁=>match x with
 | .bool false=>b σ H₁
 | .bool true=>.ok (.bool true) H₁
 | _=>.bad
noncomputable def dEach:List DE→Loc→AH→Rs (List AV)
 | [],_,H=>.ok [] H
 | d::r,σ,H=>(d σ H).bind fun v H₁=>(dEach r σ H₁).bind fun vs H₂=>.ok (v::vs) H₂
noncomputable def dTup (l:List DE):DE:=fun σ H=>(dEach l σ H).bind fun vs H₁=>.ok (.tup vs) H₁
noncomputable def dLst (l:List DE):DE:=fun σ H=>(dEach l σ H).bind fun vs H₁=>.ok (.lst vs) H₁
noncomputable def dNewD:DE:=fun _ H=>.ok (.ref H.length) (H++[.dict []])
noncomputable def dNewS:DE:=fun _ H=>.ok (.ref H.length) (H++[.dictS []])
noncomputable def lookD {K:Type} [DecidableEq K] (l:List (K×AV)) (k:K):Option AV:=(l.find? fun p=>decide (p.1=k)).map (·.2)
noncomputable def putD {K:Type} [DecidableEq K] (l:List (K×AV)) (k:K) (v:AV):List (K×AV):=if l.any (fun p=>decide (p.1=k)) then l.map (fun p=>if p.1=k then (p.1,v) else p) else l++[(k,v)]
noncomputable def dictI? (H:AH):AV→Option (List (Int×AV))
 | .ref i=>match H[i]? with
  | some (.dict l)=>some l
  | _=>none
 | _=>none
noncomputable def hasI (H:AH) (k d:AV):Option AV:=match dictI? H d,k with
 | some l,.int i=>some (.bool (lookD l i).isSome)
 | _,_=>none
noncomputable def getI (H:AH) (d k:AV):Option AV:=match dictI? H d,k with
 | some l,.int i=>lookD l i
 | _,_=>none
noncomputable def putI (H:AH) (d k v:AV):Option AH:=match d with
 | .ref j=>match H[j]? with
  | some (.dict l)=>match k with
   | .int i=>if l.length≤1000000 then some (H.set j (.dict (putD l i v))) else none
   | _=>none
  | _=>none
 | _=>none
noncomputable def dHasI (k d:DE):DE:=fun σ H=>(k σ H).bind fun x H₁=>(d σ H₁).bind fun y H₂=>toR H₂ (hasI H₂ x y)
noncomputable def dGetI (d k:DE):DE:=fun σ H=>(d σ H).bind fun x H₁=>(k σ H₁).bind fun y H₂=>toR H₂ (getI H₂ x y)
noncomputable def dNewL (l:List DE):DE:=fun σ H=>(dEach l σ H).bind fun vs H₁=>.ok (.ref H₁.length) (H₁++[.list vs])
noncomputable def dSub (a i:DE):DE:=fun σ H=>(a σ H).bind fun x H₁=>(i σ H₁).bind fun k H₂=>toR H₂ (subop H₂ x k)
noncomputable def tVal (a:DE):DT:=fun σ H=>(a σ H).bind fun x H₁=>match x with
 | .bool b=>.ok b H₁
 | _=>.bad
noncomputable def tNot (t:DT):DT:=fun σ H=>(t σ H).bind fun b H₁=>.ok (!b) H₁
noncomputable def tAnd (a b:DT):DT:=fun σ H=>(a σ H).bind fun x H₁=>if x then b σ H₁ else .ok false H₁
noncomputable def tOr (a b:DT):DT:=fun σ H=>(a σ H).bind fun x H₁=>if x then .ok true H₁ else b σ H₁
noncomputable def allTrue?:List AV→Option Bool
 | []=>some true
 | .bool b::r=>(allTrue? r).map (b&&·)
 | _=>none
inductive Kd where
 | none|bool|int|str|tuple|list|dict
noncomputable def kdOf (H:AH):AV→Option Kd
 | .none=>some .none
 | .bool _=>some .bool
 | .int _=>some .int
 | .str _=>some .str
 | .tup _=>some .tuple
 | .lst _=>some .list
 | .ref i=>match H[i]? with
  | some (.list _)=>some .list
  | some (.dict _)=>some .dict
  | some (.dictS _)=>some .dict
  | _=>none
 | _=>none
noncomputable def isiK:Kd→BI→Option Bool
 | .none,.int=>some false|.none,.bool=>some false|.none,.str=>some false|.none,.tuple=>some false|.none,.list=>some false
 | .bool,.int=>some true|.bool,.bool=>some true|.bool,.str=>some false|.bool,.tuple=>some false|.bool,.list=>some false
 | .int,.int=>some true|.int,.bool=>some false|.int,.str=>some false|.int,.tuple=>some false|.int,.list=>some false
 | .str,.int=>some false|.str,.bool=>some false|.str,.str=>some true|.str,.tuple=>some false|.str,.list=>some false
 | .tuple,.int=>some false|.tuple,.bool=>some false|.tuple,.str=>some false|.tuple,.tuple=>some true|.tuple,.list=>some false
 | .list,.int=>some false|.list,.bool=>some false|.list,.str=>some false|.list,.tuple=>some false|.list,.list=>some true
 | .dict,.int=>some false|.dict,.bool=>some false|.dict,.str=>some false|.dict,.tuple=>some false|.dict,.list=>some false
 | _,_=>none
noncomputable def isiOp (H:AH) (v:AV) (t:BI):Option Bool:=match kdOf H v with
 | some k=>isiK k t
 | none=>none
noncomputable def lenOp (H:AH) (v:AV):Option AV:=match v with
 | .tup l=>if l.length≤1048576 then some (.int l.length) else none
 | v=>match listOf? H v with
  | some l=>if l.length≤1048576 then some (.int l.length) else none
  | none=>none
noncomputable def Zat:AV→Option AV
 | .int b=>if -1048576≤b∧b≤1048576 then some (.rng b) else none
 | _=>none
noncomputable def allOp (H:AH) (v:AV):Option AV:=match listOf? H v with
 | some l=>(allTrue? l).map .bool
 | none=>none
noncomputable def intOf:AV→Option AV
 | .bool b=>some (.int (if b then 1 else 0))
 | _=>none
noncomputable def strOf:AV→Option AV
 | .int i=>if i.natAbs < 2 ^ 60 then some (.str (Str.ofString (toString i))) else none
 | _=>none
noncomputable def rangeL (b:Int):List AV:=(List.range b.toNat).map fun k:Nat=>.int (k:Int)
noncomputable def listOp (H:AH) (v:AV):Option AV:=match v with
 | .tup l=>if l.length≤1048576 then some (.lst l) else none
 | .rng b=>if -1048576≤b∧b≤1048576 then some (.lst (rangeL b)) else none
 | v=>match listOf? H v with
  | some l=>if l.length≤1048576 then some (.lst l) else none
  | none=>none
noncomputable def tupOp (H:AH) (v:AV):Option AV:=match listOf? H v with
 | some l=>if l.length≤1048576 then some (.tup l) else none
 | none=>none
noncomputable def appBI (H:AH) (n:BI) (args:List AV):Option AV:=match args with
 | [v]=>match n with
  | .len=>lenOp H v
  | .range=>Zat v
  | .all=>allOp H v
  | .int=>intOf v
  | .list=>listOp H v
  | .tuple=>tupOp H v
  | .str=>strOf v
  | _=>none
 | [v,.bi t]=>match n with
  | .isinstance=>(isiOp H v t).map .bool
  | _=>none
 | _=>none
noncomputable def app (Φ:Fns) (f:AV) (args:List AV) (H:AH):Rs AV:=match f with
 | .fn k=>Φ k args H
 | .bi n=>toR H (appBI H n args)
 | _=>.bad
noncomputable def Zau:AV→Bool
 | .fn _=>true
 | .bi _=>true
 | _=>false
noncomputable def dCall (Φ:Fns) (f:DE) (l:List DE):DE:=fun σ H=>(f σ H).bind fun g H₁=>if Zau g then (dEach l σ H₁).bind fun vs H₂=>app Φ g vs H₂ else .bad
noncomputable def iter?:AV→Option (List AV)
 | .tup l=>some l
 | .lst l=>some l
 | .rng b=>if -1048576≤b∧b≤1048576 then some (rangeL b) else none
 | _=>none
noncomputable def setAt (H:AH) (x:AV) (f:List AV→Option (List AV)):Option AH:=match x with
 | .ref i=>match H[i]? with
  | some (.list l)=>(f l).map fun l'=>H.set i (.list l')
  | _=>none
 | _=>none
noncomputable def appF (v:AV) (l:List AV):Option (List AV):=if l.length≤1048576 then some (l++[v]) else none
noncomputable def insF (p v:AV) (l:List AV):Option (List AV):=match p with
 | .int j=>if l.length≤1048576∧0≤j∧j≤l.length then some (l.take j.toNat++v::l.drop j.toNat) else none
 | _=>none
noncomputable def stoF (p v:AV) (l:List AV):Option (List AV):=match p with
 | .int j=>if l.length≤1048576∧-(l.length:Int)≤j∧j < l.length then some (l.set (if 0≤j then j.toNat else (j+l.length).toNat) v) else none
 | _=>none
noncomputable def freeze (m:Nat) (H:AH):Nat→AV→Option AV
 | 0,_=>none
 | n+1,v=>match v with
  | .tup l=>(l.mapM (freeze m H n)).map .tup
  | .lst l=>(l.mapM (freeze m H n)).map .lst
  | .ref i=>if i < m then some (.ref i) else match H[i]? with
   | some (.list l)=>(l.mapM (freeze m H n)).map .lst
   | _=>none
  | .inst _ _=>none
  | .exc _=>none
  | v=>some v
noncomputable def compGo (elt:DE) (ifs:DT) (k:Nat) (σ:Loc) (m:Nat):List AV→AH→Rs Unit
 | [],H=>.ok () H
 | v::r,H=>(ifs (upd σ k v) H).bindB fun c H₁ =>
   if c then (elt (upd σ k v) H₁).bindB fun x H₂=>match setAt H₂ (.ref m) (appF x) with
    | some H₃=>compGo elt ifs k σ m r H₃
    | none=>.bad
   else compGo elt ifs k σ m r H₁
noncomputable def tTrue:DT:=fun _ H=>.ok true H
noncomputable def Zav (elt:DE) (ifs:DT) (k:Nat) (σ:Loc) (m:Nat) (src:AH→Option (List AV)):Nat→Nat→AH→Rs Unit
 | 0,_,_=>.bad
 | f+1,i,H=>match src H with
  | none=>.bad
  | some l=>match l[i]? with
   | none=>if l.length=i then .ok () H else .bad
   | some v=>(ifs (upd σ k v) H).bindB fun c H₁ =>
    if c then (elt (upd σ k v) H₁).bindB fun x H₂=>match setAt H₂ (.ref m) (appF x) with
     | some H₃=>Zav elt ifs k σ m src f (i+1) H₃
     | none=>.bad
    else Zav elt ifs k σ m src f (i+1) H₁
theorem Zaw {elt:DE} {ifs:DT} {k:Nat} {σ:Loc} {m:Nat} {l:List AV}:∀ (f i:Nat) (H:AH),l.length - i < f→i≤l.length→Zav elt ifs k σ m (fun _=>some l) f i H=compGo elt ifs k σ m (l.drop i) H
 | 0,_,_,h,_=>by omega
 | f+1,i,H,h,h'=>by
  unfold Zav
  by_cases hi:i < l.length
  ·rw [List.drop_eq_getElem_cons hi]
   simp only [List.getElem?_eq_getElem hi,compGo]
   congr 1
   funext c H₁
   cases c with
   | true =>
    simp only [if_true]
    congr 1
    funext x H₂
    cases setAt H₂ (.ref m) (appF x) with
    | none=>rfl
    | some H₃=>exact Zaw f (i+1) H₃ (by omega) (by omega)
   | false =>
    simp only [Bool.false_eq_true,if_false]
    exact Zaw f (i+1) H₁ (by omega) (by omega)
  ·rw [List.drop_eq_nil_of_le (by omega)]
   simp only [List.getElem?_eq_none (Nat.le_of_not_lt hi),compGo,show l.length=i by omega,if_true]
open Classical in
noncomputable def Zax (H₁:AH) (r:Rs Unit):Rs AV:=r.bindB fun _ H₂ =>
   if H₂.take H₁.length=H₁ then (match freeze H₁.length H₂ 12 (.ref H₁.length) with
    | some v=>.ok v H₁
    | none=>.bad) else .bad
noncomputable def dComp (elt:DE) (ifs:DT) (k:Nat) (it:DE):DE:=fun σ H=>(it σ H).bind fun x H₁=>match iter? x with
 | some l=>Zax H₁ (compGo elt ifs k σ H₁.length l (H₁++[.list []]))
 | none=>match x with
  | .ref j=>Zax H₁ (Zav elt ifs k σ H₁.length (fun H=>listOf? H (.ref j)) 20000 0 (H₁++[.list []]))
  | _=>.bad
noncomputable def sSeq (a b:DS):DS:=fun σ H=>(a σ H).bind fun r H₁=>match r with
 | (.next,σ₁)=>b σ₁ H₁
 | (.ret v,σ₁)=>.ok (.ret v,σ₁) H₁
noncomputable def sNil:DS:=fun σ H=>.ok (.next,σ) H
noncomputable def sRet (a:DE):DS:=fun σ H=>(a σ H).bind fun v H₁=>.ok (.ret v,σ) H₁
noncomputable def sAsg (i:Nat) (a:DE):DS:=fun σ H=>(a σ H).bind fun v H₁=>.ok (.next,upd σ i v) H₁
noncomputable def sExpr (a:DE):DS:=fun σ H=>(a σ H).bind fun _ H₁=>.ok (.next,σ) H₁
noncomputable def sIf (t:DT) (a b:DS):DS:=fun σ H=>(t σ H).bind fun c H₁=>if c then a σ H₁ else b σ H₁
inductive Tg where
 | one (i:Nat)
 | many (l:List Nat)
noncomputable def Zay:List Nat→List AV→Loc→Option Loc
 | [],[],σ=>some σ
 | i::r,v::vs,σ=>Zay r vs (upd σ i v)
 | _,_,_=>none
noncomputable def Tg.bind:Tg→AV→Loc→Option Loc
 | .one i,v,σ=>some (upd σ i v)
 | .many l,.tup vs,σ=>Zay l vs σ
 | .many _,_,_=>none
noncomputable def forGo (t:Tg) (b:DS):List AV→Loc→AH→Rs (Fl×Loc)
 | [],σ,H=>.ok (.next,σ) H
 | v::r,σ,H=>match t.bind v σ with
  | some σ₁=>(b σ₁ H).bind fun p H₁=>match p with
   | (.next,σ₂)=>forGo t b r σ₂ H₁
   | (.ret w,σ₂)=>.ok (.ret w,σ₂) H₁
  | none=>.bad
noncomputable def forSrc (t:Tg) (b:DS) (src:AH→Option (List AV)):Nat→Nat→Loc→AH→Rs (Fl×Loc)
 | 0,_,_,_=>.bad
 | f+1,i,σ,H=>match src H with
  | none=>.bad
  | some l=>match l[i]? with
   | none=>if l.length=i then .ok (.next,σ) H else .bad
   | some v=>match t.bind v σ with
    | some σ₁=>(b σ₁ H).bind fun p H₁=>match p with
     | (.next,σ₂)=>forSrc t b src f (i+1) σ₂ H₁
     | (.ret w,σ₂)=>.ok (.ret w,σ₂) H₁
    | none=>.bad
noncomputable def sFor (t:Tg) (it:DE) (b:DS):DS:=fun σ H=>(it σ H).bind fun x H₁=>match iter? x with
 | some l=>forGo t b l σ H₁
 | none=>match x with
  | .ref k=>forSrc t b (fun H=>listOf? H (.ref k)) 20000 0 σ H₁
  | _=>.bad
theorem Zaz {t:Tg} {b:DS} {l:List AV}:∀ (f i:Nat) (σ:Loc) (H:AH),l.length - i < f→i≤l.length→forSrc t b (fun _=>some l) f i σ H=forGo t b (l.drop i) σ H
 | 0,_,_,_,h,_=>by omega
 | f+1,i,σ,H,h,h'=>by
  unfold forSrc
  by_cases hi:i < l.length
  ·rw [List.drop_eq_getElem_cons hi]
   simp only [List.getElem?_eq_getElem hi,forGo]
   cases t.bind l[i] σ with
   | none=>rfl
   | some σ₁ =>
    simp only
    congr 1
    funext p H₁
    obtain ⟨fl,σ₂⟩:=p
    cases fl with
    | next=>exact Zaz f (i+1) σ₂ H₁ (by omega) (by omega)
    | ret w=>rfl
  ·rw [List.drop_eq_nil_of_le (by omega)]
   simp only [List.getElem?_eq_none (Nat.le_of_not_lt hi),forGo,show l.length=i by omega,if_true]
noncomputable def Za0 (t:DT) (b:DS):Nat→Loc→AH→Rs (Fl×Loc)
 | 0,_,_=>.bad
 | n+1,σ,H=>(t σ H).bindB fun c H₁=>if c then (b σ H₁).bindB fun p H₂=>match p with
   | (.next,σ₂)=>Za0 t b n σ₂ H₂
   | (.ret w,σ₂)=>.ok (.ret w,σ₂) H₂
  else .ok (.next,σ) H₁
noncomputable def sWhile (t:DT) (b:DS):DS:=Za0 t b 20000
structure Fun where
 params:Nat
 frz:Bool
 body:Fns→DS
noncomputable def args0:List AV→Nat→Loc
 | [],_=>fun _=>none
 | v::r,k=>fun j=>if j=k then some v else args0 r (k+1) j
open Classical in
noncomputable def Fun.run (f:Fun) (Φ:Fns) (args:List AV) (H:AH):Rs AV :=
 if args.length=f.params then
  (f.body Φ (args0 args 0) H).bind fun p H₁ =>
   if f.frz then
    (if H₁.take H.length=H then (match freeze H.length H₁ 12 p.1.val with
     | some v'=>.ok v' H
     | none=>.bad) else .bad)
   else .ok p.1.val H₁
 else .bad
noncomputable def fns (t:Nat→Option Fun):Nat→Fns
 | 0=>fun _ _ _=>.bad
 | n+1=>fun k args H=>match t k with
  | some f=>f.run (fns t n) args H
  | none=>.bad
noncomputable def copyOf (H:AH):AV→Option (List AV)
 | .tup l=>if l.length≤1048576 then some l else none
 | v=>match listOf? H v with
  | some l=>if l.length≤1048576 then some l else none
  | none=>none
noncomputable def dNewC (a:DE):DE:=fun σ H=>(a σ H).bind fun x H₁=>match copyOf H₁ x with
 | some l=>.ok (.ref H₁.length) (H₁++[.list l])
 | none=>.bad
noncomputable def sRaise (c:Nat) (a:DE):DS:=fun σ H=>(a σ H).bind fun _ H₁=>.err (.exc c) H₁
noncomputable def noLoc:Loc:=fun _=>none
noncomputable def excCls (H:AH):AV→Option Nat
 | .exc c=>some c
 | .ref i=>match H[i]? with
  | some (.exo c _ _)=>some c
  | _=>none
 | _=>none
noncomputable def sTry (a:DE) (cs:List Nat) (i:Nat) (h:DS):DS:=fun σ H=>match a σ H with
 | .ok _ H₁=>.ok (.next,σ) H₁
 | .err x H₁=>match excCls H₁ x with
  | some c=>if c∈cs then (h (upd σ i x) H₁).bindB fun p H₂=>.ok (p.1,noLoc) H₂ else .bad
  | none=>.bad
 | .bad=>.bad
noncomputable def isiX (f:Nat→Option Bool):AV→Option AV
 | .exc c=>(f c).map .bool
 | _=>none
noncomputable def dIsiX (f:Nat→Option Bool) (d:DE):DE:=fun σ H=>(d σ H).bind fun x H₁=>toR H₁ (isiX f x)
noncomputable def dInt (d:DE):DE:=fun σ H=>(d σ H).bind fun x H₁=>toR H₁ (intOf x)
noncomputable def tab (l:List (Nat×Bool)) (c:Nat):Option Bool:=l.lookup c
noncomputable def toH:Option AH→Rs AV
 | some H=>.ok .none H
 | none=>.bad
noncomputable def isL (H:AH):AV→Bool
 | .ref i=>match H[i]? with
  | some (.list _)=>true
  | _=>false
 | _=>false
noncomputable def dMeth (f:List AV→List AV→Option (List AV)) (o:DE) (ds:List DE):DE:=fun σ H=>(o σ H).bind fun x H₁ =>
 if isL H₁ x then (dEach ds σ H₁).bind fun us H₂=>toH (setAt H₂ x (f us)) else .bad
noncomputable def appM (us l:List AV):Option (List AV):=match us with
 | [v]=>appF v l
 | _=>none
noncomputable def insM (us l:List AV):Option (List AV):=match us with
 | [p,v]=>insF p v l
 | _=>none
noncomputable def sStore (o k a:DE):DS:=fun σ H=>(a σ H).bind fun v H₁=>(o σ H₁).bind fun x H₂=>(k σ H₂).bind fun p H₃=>match setAt H₃ x (stoF p v) with
 | some H₄=>.ok (.next,σ) H₄
 | none=>.bad
noncomputable def sPutI (o k a:DE):DS:=fun σ H=>(a σ H).bind fun v H₁=>(o σ H₁).bind fun x H₂=>(k σ H₂).bind fun p H₃=>match putI H₃ x p v with
 | some H₄=>.ok (.next,σ) H₄
 | none=>.bad
noncomputable def ints?:List AV→Option (List Int)
 | []=>some []
 | .int i::r=>(ints? r).map (i::·)
 | _=>none
noncomputable def keyT:AV→Option (Int×List Int)
 | .tup [.int r,.tup l]=>(ints? l).map fun xs=>(r,xs)
 | _=>none
noncomputable def dictS? (H:AH):AV→Option (List ((Int×List Int)×AV))
 | .ref i=>match H[i]? with
  | some (.dictS l)=>some l
  | _=>none
 | _=>none
noncomputable def hasT (H:AH) (k d:AV):Option AV:=match dictS? H d,keyT k with
 | some l,some i=>some (.bool (lookD l i).isSome)
 | _,_=>none
noncomputable def getT (H:AH) (d k:AV):Option AV:=match dictS? H d,keyT k with
 | some l,some i=>lookD l i
 | _,_=>none
noncomputable def putT (H:AH) (d k v:AV):Option AH:=match d with
 | .ref j=>match H[j]? with
  | some (.dictS l)=>match keyT k with
   | some i=>if l.length≤1000000 then some (H.set j (.dictS (putD l i v))) else none
   | none=>none
  | _=>none
 | _=>none
noncomputable def dHasT (k d:DE):DE:=fun σ H=>(k σ H).bind fun x H₁=>(d σ H₁).bind fun y H₂=>toR H₂ (hasT H₂ x y)
noncomputable def dGetT (d k:DE):DE:=fun σ H=>(d σ H).bind fun x H₁=>(k σ H₁).bind fun y H₂=>toR H₂ (getT H₂ x y)
noncomputable def sPutT (o k a:DE):DS:=fun σ H=>(a σ H).bind fun v H₁=>(o σ H₁).bind fun x H₂=>(k σ H₂).bind fun p H₃=>match putT H₃ x p v with
 | some H₄=>.ok (.next,σ) H₄
 | none=>.bad
noncomputable def lenT (H:AH) (d:AV):Option AV:=match dictS? H d with
 | some l=>if l.length≤1048576 then some (.int l.length) else none
 | none=>none
noncomputable def dLenT (d:DE):DE:=fun σ H=>(d σ H).bind fun x H₁=>toR H₁ (lenT H₁ x)
end Mine
namespace Mine
open PySem
structure Cx where
 prog:Program
 w:World
 base:Heap
 fnv:Nat→Addr
 clv:Nat→Addr
noncomputable def BI.val:BI→Value
 | .len=>.builtin "len"
 | .range=>.type "range"
 | .isinstance=>.builtin "isinstance"
 | .all=>.builtin "all"
 | .int=>.type "int"
 | .str=>.type "str"
 | .list=>.type "list"
 | .tuple=>.type "tuple"
 | .bool=>.type "bool"
 | .dict=>.type "dict"
 | .valueError=>.type "ValueError"
mutual
inductive VR (C:Cx) (β:List Addr) (h:Heap):Value→AV→Prop
 | none:VR C β h .none .none
 | bool (b:Bool):VR C β h (.bool b) (.bool b)
 | int (i:Int) (t:Tok):VR C β h (.int i t) (.int i)
 | str (x:Str) (t:Tok):VR C β h (.str x t) (.str x)
 | tup {a:Addr} {items:Array Value} {l:List AV}:h.IsTuple a items→a∉β→VRs C β h items.toList l→VR C β h (.ref a) (.tup l)
 | lst {a:Addr} {items:Array Value} {l:List AV}:h.IsList a items→a∉β→VRs C β h items.toList l→VR C β h (.ref a) (.lst l)
 | ref {a:Addr} {i:Nat}:β[i]?=some a→VR C β h (.ref a) (.ref i)
 | rng {a:Addr} {b:Int} {t u v:Tok}:IsRange h a 0 b 1 t u v→a∉β→VR C β h (.ref a) (.rng b)
 | fn (k:Nat):VR C β h (.ref (C.fnv k)) (.fn k)
 | cls (k:Nat):VR C β h (.ref (C.clv k)) (.cls k)
 | bi {x:Value} (n:BI):x=n.val→VR C β h x (.bi n)
 | exc {a:Addr} {c:Nat} {o:Obj} {vs:Array Value}:h.get? a=some o→o.cls=.ref (C.clv c)→o.data=.fields vs→a∉β→VR C β h (.ref a) (.exc c)
 | inst {a dx:Addr} {c j:Nat} {o:Obj}:h.get? a=some o→o.cls=.ref (C.clv c)→o.data=.plain→o.dict=some dx→β[j]?=some dx→a∉β→VR C β h (.ref a) (.inst c j)
inductive VRs (C:Cx) (β:List Addr) (h:Heap):List Value→List AV→Prop
 | nil:VRs C β h [] []
 | cons {v:Value} {vs:List Value} {d:AV} {ds:List AV}:VR C β h v d→VRs C β h vs ds→VRs C β h (v::vs) (d::ds)
end
noncomputable def Kept (o o':Obj):Prop:=o'=o∨(o'.cls=o.cls∧o'.data=o.data∧∃ es ep,o.data=.dict es ep)
theorem Kept.refl (o:Obj):Kept o o:=.inl rfl
theorem Kept.trans {o o' o'':Obj} (h:Kept o o') (k:Kept o' o''):Kept o o'':=by
 rcases h with rfl|⟨h1,h2,es,ep,h3⟩
 ·exact k
 ·rcases k with rfl|⟨k1,k2,_⟩
  ·exact .inr ⟨h1,h2,es,ep,h3⟩
  ·exact .inr ⟨k1.trans h1,k2.trans h2,es,ep,h3⟩
theorem Kept.data {o o':Obj} (h:Kept o o'):o'.cls=o.cls∧o'.data=o.data:=by
 rcases h with rfl|⟨h1,h2,_⟩
 ·exact ⟨rfl,rfl⟩
 ·exact ⟨h1,h2⟩
theorem Kept.same {o o':Obj} (h:Kept o o') (hd:∀ es ep,o.data≠.dict es ep):o'=o:=by
 rcases h with rfl|⟨_,_,es,ep,h3⟩
 ·rfl
 ·exact absurd h3 (hd es ep)
noncomputable def Slotty (o:Obj):Prop:=(∃ es ep,o.data=.dict es ep)∨(∃ v,o.data=.cell v)∨(∃ vs,o.data=.fields vs∧o.cls≠.type "range"∧∃ T,o.cls=.type T)
theorem Kept.slotty {o o':Obj} (k:Kept o o') (h:Slotty o):Slotty o':=by
 unfold Slotty
 rw [k.data.1,k.data.2]; exact h
noncomputable def Nix (_:Addr):Prop:=False
structure Grow0 (X:Addr→Prop) (β:List Addr) (h:Heap) (β':List Addr) (h':Heap):Prop where
 ext:∃ ν,β'=β++ν∧∀ a∈ν,h.get? a=none
 keep:∀ a o,h.get? a=some o→a∉β→¬ X a→∃ o',h'.get? a=some o'∧Kept o o'
 xs:∀ a,X a→∃ o,h.get? a=some o∧Slotty o
noncomputable def Dk (h:Heap) (a:Addr):Prop:=∃ o es ep,h.get? a=some o∧o.data=.dict es ep
structure Grow (X:Addr→Prop) (β:List Addr) (h:Heap) (β':List Addr) (h':Heap):Prop extends Grow0 X β h β' h' where
 xlive:∀ a,X a→∃ o,h'.get? a=some o∧Slotty o∧(Dk h a→∃ es ep,o.data=.dict es ep)
section
variable {C:Cx} {X:Addr→Prop} {β β' β'':List Addr} {h h' h'':Heap}
theorem Grow.refl (hx:∀ a,X a→∃ o,h.get? a=some o∧Slotty o) (β:List Addr):Grow X β h β h:=⟨⟨⟨[],by simp,fun _ ha=>nomatch ha⟩,fun _ o e _ _=>⟨o,e,.refl o⟩,hx⟩,fun a ha=>by refine e1a2 (hx a ha) fun o ho hs=>?_; exact ⟨o,ho,hs,fun ⟨o',es,ep,h1,h2⟩=>by rw [ho] at h1; obtain rfl:=inj h1; exact ⟨es,ep,h2⟩⟩⟩
theorem Grow0.notin (g:Grow0 X β h β' h') {a:Addr} {o:Obj} (e:h.get? a=some o) (hn:a∉β):a∉β':=by
 refine e1a2 g.ext fun ν eZ1 hν=>?_; subst eZ1
 intro hm
 rcases List.mem_append.mp hm with h1|h1
 ·exact hn h1
 ·rw [hν a h1] at e; injection e
theorem Grow.trans (g:Grow X β h β' h') (k:Grow X β' h' β'' h'') (live:∀ a∈β,∃ o,h'.get? a=some o):Grow X β h β'' h'':=by
 refine e1a2 g.ext fun ν e1 hν=>?_
 refine e1a2 k.ext fun μ e2 hμ=>?_
 refine ⟨⟨⟨ν++μ,by rw [e2,e1,List.append_assoc],fun a ha=>?_⟩,fun a o e hn hx=>?_,g.xs⟩,fun a ha=>?_⟩
 ·rcases List.mem_append.mp ha with h1|h1
  ·exact hν a h1
  ·cases q:h.get? a with
   | none=>rfl
   | some o =>
    by_cases hb:a∈β
    ·refine Exists.elim (live a hb) fun o' ho'=>?_
     rw [hμ a h1] at ho'; injection ho'
    ·by_cases hx:X a
     ·refine e1a2 (g.xlive a hx) fun o' ho' _=>?_
      rw [hμ a h1] at ho'; injection ho'
     ·refine e1a2 (g.keep a o q hb hx) fun o' ho' _=>?_
      rw [hμ a h1] at ho'; injection ho'
 ·refine e1a2 (g.keep a o e hn hx) fun o' ho' k1=>?_
  refine e1a2 (k.keep a o' ho' (g.notin e hn) hx) fun o'' ho'' k2=>?_
  exact ⟨o'',ho'',k1.trans k2⟩
 ·refine e1a3 (g.xlive a ha) fun o₁ h1 s1 f1=>?_
  refine e1a3 (k.xlive a ha) fun o₂ h2 s2 f2=>?_
  exact ⟨o₂,h2,s2,fun nf=>by refine e2a1 (f1 nf) fun es ep q=>?_; exact f2 ⟨o₁,es,ep,h1,q⟩⟩
theorem Grow.weaken (g:Grow Nix β h β' h') (hx:∀ a,X a→a∉β∧∃ o,h.get? a=some o∧Slotty o):Grow X β h β' h' :=
 ⟨⟨g.ext,fun a o e hn _=>g.keep a o e hn id,fun a ha=>(hx a ha).2⟩,fun a ha=>by
  refine maea (hx a ha) fun hn o ho hs=>?_
  refine e1a2 (g.keep a o ho hn id) fun o' ho' k=>?_
  exact ⟨o',ho',k.slotty hs,fun ⟨o₁,es,ep,h1,h2⟩=>by rw [ho] at h1; obtain rfl:=inj h1; exact ⟨es,ep,by rw [k.data.2]; exact h2⟩⟩⟩
theorem Grow0.seq (g:Grow0 X β h β' h') {a:Addr} {o:Obj} {vs n} (e:h.get? a=some o) (hn:a∉β) (hd:o.data=.seq vs n):h'.get? a=some o:=by
 by_cases hx:X a
 ·refine e1a2 (g.xs a hx) fun o' ho' hs=>?_
  rw [e] at ho'; obtain rfl:=inj ho'
  rcases hs with ⟨es,ep,q⟩|⟨v,q⟩|⟨v,q,_,_⟩ <;> rw [hd] at q <;> injection q
 ·refine e1a2 (g.keep a o e hn hx) fun o' ho' k=>?_
  rw [k.same (fun es ep q=>by rw [hd] at q; injection q)] at ho'
  exact ho'
theorem Grow0.fields (g:Grow0 X β h β' h') {a:Addr} {o:Obj} {vs} (e:h.get? a=some o) (hn:a∉β) (hd:o.data=.fields vs) (hc:o.cls=.type "range"∨¬ X a):h'.get? a=some o:=by
 by_cases hx:X a
 ·refine e1a2 (g.xs a hx) fun o' ho' hs=>?_
  rw [e] at ho'; obtain rfl:=inj ho'
  rcases hs with ⟨es,ep,q⟩|⟨v,q⟩|⟨v,q,q',_⟩
  ·rw [hd] at q; injection q
  ·rw [hd] at q; injection q
  ·exact absurd hx (hc.resolve_left q')
 ·refine e1a2 (g.keep a o e hn hx) fun o' ho' k=>?_
  rw [k.same (fun es ep q=>by rw [hd] at q; injection q)] at ho'
  exact ho'
theorem Grow0.own (g:Grow0 X β h β' h') {a:Addr} {o:Obj} {vs} {c:Addr} (e:h.get? a=some o) (hn:a∉β) (hd:o.data=.fields vs) (hc:o.cls=.ref c):h'.get? a=some o:=by
 refine g.fields e hn hd (.inr fun hx=>?_)
 refine e1a2 (g.xs a hx) fun o' ho' hs=>?_
 rw [e] at ho'; obtain rfl:=inj ho'
 rcases hs with ⟨es,ep,q⟩|⟨v,q⟩|⟨v,q,_,T,q'⟩
 ·rw [hd] at q; injection q
 ·rw [hd] at q; injection q
 ·rw [hc] at q'; injection q'
theorem Grow0.plain (g:Grow0 X β h β' h') {a:Addr} {o:Obj} (e:h.get? a=some o) (hn:a∉β) (hd:o.data=.plain):h'.get? a=some o:=by
 have hx:¬ X a:=fun q=>by
  refine e1a2 (g.xs a q) fun o' ho' sl=>?_
  rw [e] at ho'; obtain rfl:=inj ho'
  rcases sl with ⟨_,_,h1⟩|⟨_,h1⟩|⟨_,h1,_⟩ <;> rw [hd] at h1 <;> injection h1
 refine e1a2 (g.keep a o e hn hx) fun o' ho' k=>?_
 rw [k.same (fun es ep q=>by rw [hd] at q; injection q)] at ho'
 exact ho'
theorem Grow0.at_ (g:Grow0 X β h β' h') {j:Nat} {a:Addr} (hb:β[j]?=some a):β'[j]?=some a:=by
 refine e1a2 g.ext fun ν eZ1 _=>?_; subst eZ1
 rw [List.getElem?_append_left (List.getElem?_eq_some_iff.mp hb).1]; exact hb
theorem VRs.ind {P:List Value→List AV→Prop} (hn:P [] []) (hc:∀ {v vs d ds},VR C β h v d→VRs C β h vs ds→P vs ds→P (v::vs) (d::ds)) {vs:List Value} {ds:List AV} (r:VRs C β h vs ds):P vs ds :=
 VRs.rec (motive_1:=fun _ _ _=>True) (motive_2:=fun vs ds _=>P vs ds) trivial (fun _=>trivial) (fun _ _=>trivial) (fun _ _=>trivial) (fun _ _ _ _=>trivial) (fun _ _ _ _=>trivial) (fun _=>trivial) (fun _ _=>trivial) (fun _=>trivial) (fun _=>trivial) (fun _ _=>trivial) (fun _ _ _ _=>trivial) (fun _ _ _ _ _ _=>trivial) hn (fun a r _ ih=>hc a r ih) r
theorem Grow0.tup (g:Grow0 X β h β' h') {a:Addr} {items:Array Value} (ht:h.IsTuple a items) (hn:a∉β):h'.IsTuple a items∧a∉β':=by
 refine meaae ht fun o ho hc n hd=>?_
 exact ⟨⟨o,g.seq ho hn hd,hc,n,hd⟩,g.notin ho hn⟩
theorem Grow0.lst (g:Grow0 X β h β' h') {a:Addr} {items:Array Value} (ht:h.IsList a items) (hn:a∉β):h'.IsList a items∧a∉β':=by
 refine meaae ht fun o ho hc n hd=>?_
 exact ⟨⟨o,g.seq ho hn hd,hc,n,hd⟩,g.notin ho hn⟩
theorem VR.mono0 (g:Grow0 X β h β' h') {v:Value} {d:AV} (r:VR C β h v d):VR C β' h' v d :=
 VR.rec (motive_1:=fun v d _=>VR C β' h' v d) (motive_2:=fun vs ds _=>VRs C β' h' vs ds) .none .bool .int .str
  (fun ht hn _ ih=>.tup (g.tup ht hn).1 (g.tup ht hn).2 ih) (fun ht hn _ ih=>.lst (g.lst ht hn).1 (g.lst ht hn).2 ih)
  (fun hb=>.ref (g.at_ hb)) (fun hr hn=>.rng (g.fields hr hn rfl (.inl rfl)) (g.notin hr hn)) .fn .cls .bi
  (fun ho hc hd hn=>.exc (g.own ho hn hd hc) hc hd (g.notin ho hn)) (fun ho hc hd hx hb hn=>.inst (g.plain ho hn hd) hc hd hx (g.at_ hb) (g.notin ho hn)) .nil (fun _ _ a r=>.cons a r) r
theorem VRs.mono0 (g:Grow0 X β h β' h') {vs:List Value} {ds:List AV} (r:VRs C β h vs ds):VRs C β' h' vs ds:=r.ind (P:=fun vs ds=>VRs C β' h' vs ds) .nil fun a _ ih=>.cons (a.mono0 g) ih
theorem VR.mono (g:Grow X β h β' h') {v:Value} {d:AV} (r:VR C β h v d):VR C β' h' v d:=r.mono0 g.toGrow0
theorem VRs.mono (g:Grow X β h β' h') {vs:List Value} {ds:List AV} (r:VRs C β h vs ds):VRs C β' h' vs ds:=r.mono0 g.toGrow0
noncomputable def VI (C:Cx) (β:List Addr) (h:Heap) (x:Value):AV→Prop
 | .none=>x=.none
 | .bool b=>x=.bool b
 | .int i=>∃ t,x=.int i t
 | .str y=>∃ t,x=.str y t
 | .tup l=>∃ a items,x=.ref a∧h.IsTuple a items∧a∉β∧VRs C β h items.toList l
 | .lst l=>∃ a items,x=.ref a∧h.IsList a items∧a∉β∧VRs C β h items.toList l
 | .ref i=>∃ a,x=.ref a∧β[i]?=some a
 | .rng b=>∃ a t u v,x=.ref a∧IsRange h a 0 b 1 t u v∧a∉β
 | .fn k=>x=.ref (C.fnv k)
 | .cls k=>x=.ref (C.clv k)
 | .bi n=>x=n.val
 | .exc c=>∃ a o vs,x=.ref a∧h.get? a=some o∧o.cls=.ref (C.clv c)∧o.data=.fields vs∧a∉β
 | .inst c j=>∃ a dx o,x=.ref a∧h.get? a=some o∧o.cls=.ref (C.clv c)∧o.data=.plain∧o.dict=some dx∧β[j]?=some dx∧a∉β
theorem VR.inv {v:Value} {d:AV} (r:VR C β h v d):VI C β h v d:=by
 cases r with
 | none=>rfl
 | bool b=>rfl
 | int i t=>exact ⟨t,rfl⟩
 | str y t=>exact ⟨t,rfl⟩
 | tup h1 h2 h3=>exact ⟨_,_,rfl,h1,h2,h3⟩
 | lst h1 h2 h3=>exact ⟨_,_,rfl,h1,h2,h3⟩
 | ref hb=>exact ⟨_,rfl,hb⟩
 | rng h1 h2=>exact ⟨_,_,_,_,rfl,h1,h2⟩
 | fn k=>rfl
 | cls k=>rfl
 | bi n e=>exact e
 | exc h1 h2 h3 h4=>exact ⟨_,_,_,rfl,h1,h2,h3,h4⟩
 | inst h1 h2 h3 h4 h5 h6=>exact ⟨_,_,_,rfl,h1,h2,h3,h4,h5,h6⟩
theorem VRs.nil_inv {vs:List Value} (r:VRs C β h vs []):vs=[]:=by cases r; rfl
theorem VRs.cons_inv {vs:List Value} {d:AV} {ds:List AV} (r:VRs C β h vs (d::ds)):∃ v ws,vs=v::ws∧VR C β h v d∧VRs C β h ws ds:=by
 cases r with
 | cons a r=>exact ⟨_,_,rfl,a,r⟩
theorem VRs.uncons {v:Value} {vs:List Value} {d:AV} {ds:List AV} (r:VRs C β h (v::vs) (d::ds)):VR C β h v d∧VRs C β h vs ds:=by
 obtain ⟨_,_,e,a,r⟩:=r.cons_inv
 injection e with e1 e2
 rw [e1,e2]
 exact ⟨a,r⟩
theorem VRs.one_inv {vs:List Value} {d:AV} (r:VRs C β h vs [d]):∃ v,vs=[v]∧VR C β h v d:=by
 obtain ⟨v,ws,e,a,r⟩:=r.cons_inv
 exact ⟨v,by rw [e,r.nil_inv],a⟩
theorem VRs.two_inv {vs:List Value} {d e:AV} (r:VRs C β h vs [d,e]):∃ v w,vs=[v,w]∧VR C β h v d∧VR C β h w e:=by
 obtain ⟨v,ws,e,a,r⟩:=r.cons_inv
 refine e1a2 r.one_inv fun w e' c=>?_
 exact ⟨v,w,by rw [e,e'],a,c⟩
theorem VRs.length {vs:List Value} {ds:List AV} (r:VRs C β h vs ds):vs.length=ds.length:=r.ind (P:=fun vs ds=>vs.length=ds.length) rfl fun _ _ e=>congrArg (·+1) e
theorem VRs.append {vs ws:List Value} {ds es:List AV} (r:VRs C β h vs ds) (k:VRs C β h ws es):VRs C β h (vs++ws) (ds++es):=r.ind (P:=fun vs ds=>VRs C β h (vs++ws) (ds++es)) k fun a _ ih=>.cons a ih
theorem VRs.get {vs:List Value} {ds:List AV} (r:VRs C β h vs ds):∀ {k:Nat} {d:AV},ds[k]?=some d→∃ v,vs[k]?=some v∧VR C β h v d :=
 r.ind (P:=fun vs ds=>∀ {k:Nat} {d:AV},ds[k]?=some d→∃ v,vs[k]?=some v∧VR C β h v d) (fun e=>nomatch e) fun {v vs d ds} a _ ih {k d'} e=>match k,e with
  | 0,e=>⟨v,rfl,Option.some.inj e ▸ a⟩
  | k+1,e=>ih (k:=k) e
theorem VRs.take {vs:List Value} {ds:List AV} (r:VRs C β h vs ds):∀ k,VRs C β h (vs.take k) (ds.take k) :=
 r.ind (P:=fun vs ds=>∀ k,VRs C β h (vs.take k) (ds.take k)) (fun k=>by rw [List.take_nil,List.take_nil]; exact .nil) fun a _ ih k=>match k with
  | 0=>.nil
  | k+1=>.cons a (ih k)
theorem VRs.drop {vs:List Value} {ds:List AV} (r:VRs C β h vs ds):∀ k,VRs C β h (vs.drop k) (ds.drop k) :=
 r.ind (P:=fun vs ds=>∀ k,VRs C β h (vs.drop k) (ds.drop k)) (fun k=>by rw [List.drop_nil,List.drop_nil]; exact .nil) fun a r ih k=>match k with
  | 0=>.cons a r
  | k+1=>ih k
theorem VRs.set {vs:List Value} {ds:List AV} (r:VRs C β h vs ds):∀ k {v:Value} {d:AV},VR C β h v d→VRs C β h (vs.set k v) (ds.set k d) :=
 r.ind (P:=fun vs ds=>∀ k {v:Value} {d:AV},VR C β h v d→VRs C β h (vs.set k v) (ds.set k d)) (fun _ _ _ _=>.nil) fun a r ih k _ _ q=>match k with
  | 0=>.cons q r
  | k+1=>.cons a (ih k q)
end
noncomputable def stAV (k:Int×List Int):AV:=.tup [.int k.1,.tup (k.2.map .int)]
noncomputable def stHash (k:Int×List Int):Int:=reduceHash (Builtin.Tuple.tupleHashOf [hashInt k.1,reduceHash (Builtin.Tuple.tupleHashOf (k.2.map hashInt))])
noncomputable def AtR (C:Cx) (β:List Addr) (h:Heap) (v:Option Value):Option AV→Prop
 | none=>v=none
 | some d=>∃ x,v=some x∧VR C β h x d
theorem AtR.mono0 {C:Cx} {X:Addr→Prop} {β β':List Addr} {h h':Heap} (g:Grow0 X β h β' h') {v:Option Value}:∀ {d:Option AV},AtR C β h v d→AtR C β' h' v d
 | none,e=>e
 | some _,⟨x,e,r⟩=>⟨x,e,r.mono0 g⟩
noncomputable def DL (β:List Addr) (dx:Option Addr):Option Nat→Prop
 | none=>dx=none
 | some j=>∃ y,dx=some y∧β[j]?=some y
theorem DL.mono {X:Addr→Prop} {β β':List Addr} {h h':Heap} (g:Grow0 X β h β' h') {dx:Option Addr}:∀ {d:Option Nat},DL β dx d→DL β' dx d
 | none,e=>e
 | some _,⟨y,e,r⟩=>⟨y,e,g.at_ r⟩
noncomputable def OR (C:Cx) (β:List Addr) (h:Heap) (a:Addr):AO→Prop
 | .list l=>∃ items,h.PlainList a items∧VRs C β h items.toList l
 | .dict l=>∃ kvs,h.DictOf (intKind C.prog C.w) a kvs∧kvs.map (·.1)=l.map (·.1)∧VRs C β h (kvs.map (·.2)) (l.map (·.2))
 | .dictS l=>∃ (xs:List ((Int×List Int)×Addr×Value)) (o:Obj) (es:Array DictEntry) (ep:Nat),h.get? a=some o∧o.ExactDict∧o.data=.dict es ep∧es.toList=xs.map (fun x=>⟨stHash x.1,.ref x.2.1,x.2.2⟩) ∧
   VRs C β h (xs.map fun x=>.ref x.2.1) (xs.map fun x=>stAV x.1)∧xs.map (·.1)=l.map (·.1)∧VRs C β h (xs.map (·.2.2)) (l.map (·.2))∧(l.map (·.1)).Nodup
 | .attrs l=>∃ m,h.Ns1 a m∧∀ n,AtR C β h (m n) (l.lookup n)
 | .exo c d f=>∃ o vs,h.get? a=some o∧o.cls=.ref (C.clv c)∧o.data=.fields vs∧(f=true→vs.size=6∧vs[1]?=some .none)∧DL β o.dict d
structure Inv (C:Cx) (β:List Addr) (h:Heap) (H:AH):Prop where
 len:β.length=H.length
 nodup:β.Nodup
 obj:∀ (i:Nat) (a:Addr) (o:AO),β[i]?=some a→H[i]?=some o→OR C β h a o
 base:∀ a o,C.base.get? a=some o→h.get? a=some o
 fresh:∀ a∈β,C.base.get? a=none
theorem OR.live {C:Cx} {β:List Addr} {h:Heap} {a:Addr} {o:AO} (r:OR C β h a o):∃ ob,h.get? a=some ob:=by
 cases o with
 | list _=>refine e1a2 r fun _ qZ1 _=>?_; refine Exists.elim qZ1 fun _ ho=>?_; exact ⟨_,ho⟩
 | dict _=>refine e1a2 r fun _ qZ1 _=>?_; obtain ⟨o,_,_,ho,_⟩:=qZ1; exact ⟨o,ho⟩
 | dictS _=>refine e4a2 r fun _ o _ _ ho _=>?_; exact ⟨o,ho⟩
 | attrs _=>refine e1a2 r fun _ qZ1 _=>?_; obtain ⟨o,_,_,ho,_⟩:=qZ1; exact ⟨o,ho⟩
 | exo _ _ _=>refine e2a2 r fun o _ ho _=>?_; exact ⟨o,ho⟩
theorem OR.keep {C:Cx} {X:Addr→Prop} {β β':List Addr} {h h':Heap} (g:Grow0 X β h β' h') {a:Addr} (e:∀ o,h.get? a=some o→h'.get? a=some o) {ao:AO} (r:OR C β h a ao):OR C β' h' a ao:=by
 cases ao with
 | list _=>refine e1a2 r fun items qZ1 hv=>?_; refine Exists.elim qZ1 fun m ho=>?_; exact ⟨items,⟨m,e _ ho⟩,hv.mono0 g⟩
 | dict _=>refine e1a3 r fun kvs qZ1 hk hv=>?_; obtain ⟨o,es,ep,ho,r⟩:=qZ1; exact ⟨kvs,⟨o,es,ep,e _ ho,r⟩,hk,hv.mono0 g⟩
 | dictS _=>refine e4a8 r fun xs o es ep ho hx hd he hk hl hv hn=>?_; exact ⟨xs,o,es,ep,e _ ho,hx,hd,he,hk.mono0 g,hl,hv.mono0 g,hn⟩
 | attrs _=>refine e1a2 r fun m hm ha=>?_; exact ⟨m,hm.at e,fun n=>(ha n).mono0 g⟩
 | exo _ _ _=>refine e2a5 r fun o vs ho hc hd hf dl=>?_; exact ⟨o,vs,e _ ho,hc,hd,hf,dl.mono g⟩
theorem Inv.live {C:Cx} {β:List Addr} {h:Heap} {H:AH} (I:Inv C β h H):∀ a∈β,∃ o,h.get? a=some o:=by
 intro a ha
 obtain ⟨i,hi,e⟩:=List.getElem_of_mem ha
 have e1:β[i]?=some a:=by rw [List.getElem?_eq_getElem hi,e]
 have hi':i < H.length:=I.len ▸ hi
 exact (I.obj i a _ e1 (List.getElem?_eq_getElem hi')).live
theorem Inv.noB {C:Cx} {β:List Addr} {h:Heap} {H:AH} (I:Inv C β h H) (b:Addr) (hb:h.get? b=none):C.base.get? b=none:=by
 cases q:C.base.get? b with
 | none=>rfl
 | some o=>injection hb.symm.trans (I.base b o q)
structure After (C:Cx) (X:Addr→Prop) (β:List Addr) (s:Shared) (β':List Addr) (s':Shared) (H':AH):Prop where
 grow:Grow X β s.heap β' s'.heap
 inv:Inv C β' s'.heap H'
 same:∃ h tk,s'={ s with heap:=h,toks:=tk }
theorem After.refl {C:Cx} {β:List Addr} {s:Shared} {H:AH} (I:Inv C β s.heap H):After C Nix β s β s H:=⟨.refl (fun _ h=>h.elim) _,I,s.heap,s.toks,rfl⟩
theorem After.trans {C:Cx} {X:Addr→Prop} {β β' β'':List Addr} {s s' s'':Shared} {H' H'':AH} (a:After C X β s β' s' H') (b:After C X β' s' β'' s'' H''):After C X β s β'' s'' H'':=by
 refine ⟨a.grow.trans b.grow fun x hx=>?_,b.inv,?_⟩
 ·refine e1a2 a.grow.ext fun ν e _=>?_
  exact a.inv.live x (by rw [e]; exact List.mem_append_left _ hx)
 ·refine e2a1 a.same fun h tk eZ2=>?_; subst eZ2
  refine e2a1 b.same fun h' tk' eZ2=>?_; subst eZ2
  exact ⟨h',tk',rfl⟩
theorem After.weaken {C:Cx} {X:Addr→Prop} {β β':List Addr} {s s':Shared} {H':AH} (a:After C Nix β s β' s' H') (hx:∀ a,X a→a∉β∧∃ o,s.heap.get? a=some o∧Slotty o):After C X β s β' s' H' :=
 ⟨a.grow.weaken hx,a.inv,a.same⟩
noncomputable def OV (C:Cx) (β:List Addr) (h:Heap) (v:Option Value):Option AV→Prop
 | none=>True
 | some d=>∃ x,v=some x∧VR C β h x d
theorem OV.mono0 {C:Cx} {X:Addr→Prop} {β β':List Addr} {h h':Heap} (g:Grow0 X β h β' h') {v:Option Value}:∀ {d:Option AV},OV C β h v d→OV C β' h' v d
 | none,_=>trivial
 | some _,⟨x,e,r⟩=>⟨x,e,r.mono0 g⟩
theorem OV.mono {C:Cx} {X:Addr→Prop} {β β':List Addr} {h h':Heap} (g:Grow X β h β' h') {v:Option Value} {d:Option AV} (r:OV C β h v d):OV C β' h' v d:=r.mono0 g.toGrow0
structure Sco where
 Γ:List (Str×Nat)
 G:List Str
 K:List Str:=[]
 calm:Bool:=true
 L:List Str:=[]
noncomputable def Own (env:Env) (a:Addr):Prop:=a=env.locals∨∃ x,env.cells.lookup x=some a
structure ER (C:Cx) (S:Sco) (env:Env) (β:List Addr) (h:Heap) (σ:Loc):Prop where
 kind:env.scope.kind=.function
 globals:env.globals=mainGlobals
 builtins:env.builtins=builtinsNs
 notL:env.locals∉β
 locB:C.base.get? env.locals=none
 glo:∀ x∈S.G,env.kindOf x=some .globalImplicit
 cap:∀ x∈S.K,env.kindOf x=some .cell∨env.kindOf x=some .free
 loc:∀ x∈S.L,env.kindOf x=some .local
 cell:∀ x c,env.cells.lookup x=some c→(∃ v,h.IsCell c v)∧c∉β∧C.base.get? c=none∧c≠env.locals
 apart:∀ x y c,env.cells.lookup x=some c→env.cells.lookup y=some c→x=y
 slots:∀ x y i,S.Γ.lookup x=some i→S.Γ.lookup y=some i→x=y
 vars:∃ m:Str→Option Value,h.Ns env.locals m∧∀ x i,S.Γ.lookup x=some i →
  (env.kindOf x=some .local∧OV C β h (m x) (σ i)) ∨
  ((env.kindOf x=some .cell∨env.kindOf x=some .free)∧∃ c v,env.cells.lookup x=some c∧h.IsCell c v∧OV C β h v (σ i))
theorem ER.own {C:Cx} {S:Sco} {env:Env} {β:List Addr} {h:Heap} {σ:Loc} (e:ER C S env β h σ):∀ a,Own env a→a∉β∧∃ o,h.get? a=some o∧Slotty o:=by
 rintro a (rfl|⟨x,hx⟩)
 ·refine e1a2 e.vars fun m qZ1 _=>?_; refine e3a3 qZ1 fun o es ep ho hd _=>?_
  exact ⟨e.notL,o,ho,.inl ⟨es,ep,hd⟩⟩
 ·refine e0a3 (e.cell x a hx) fun qZ0 h1 _=>?_; refine e2a2 qZ0 fun v o ho hd=>?_
  exact ⟨h1,o,ho,.inr (.inl ⟨v,hd⟩)⟩
theorem Heap.Ns.kept {h h':Heap} {a:Addr} {m:Str→Option Value} (hn:h.Ns a m) (k:∀ o,h.get? a=some o→∃ o',h'.get? a=some o'∧Kept o o'):h'.Ns a m:=by
 refine e3a3 hn fun o es ep ho hd hr=>?_
 refine e1a2 (k o ho) fun o' ho' hk=>?_
 exact ⟨o',es,ep,ho',by rw [hk.data.2]; exact hd,hr⟩
theorem Heap.IsCell.kept {h h':Heap} {a:Addr} {v:Option Value} (hn:h.IsCell a v) (k:∀ o,h.get? a=some o→∃ o',h'.get? a=some o'∧Kept o o'):h'.IsCell a v:=by
 refine e1a2 hn fun o ho hd=>?_
 refine e1a2 (k o ho) fun o' ho' hk=>?_
 exact ⟨o',ho',by rw [hk.data.2]; exact hd⟩
theorem ER.mono' {C:Cx} {X:Addr→Prop} {S:Sco} {env:Env} {β β':List Addr} {h h':Heap} {σ:Loc} (g:Grow0 X β h β' h') (hX:∀ a,Own env a→¬ X a) (e:ER C S env β h σ):ER C S env β' h' σ:=by
 refine e1a2 e.vars fun m hm hv=>?_
 have k:∀ a,a∉β→Own env a→∀ o,h.get? a=some o→∃ o',h'.get? a=some o'∧Kept o o':=fun a ha hw o ho=>g.keep a o ho ha (hX a hw)
 refine ⟨e.kind,e.globals,e.builtins,?_,e.locB,e.glo,e.cap,e.loc,fun x c hc=>?_,e.apart,e.slots,m,Heap.Ns.kept hm (k _ e.notL (.inl rfl)),fun x i hx=>?_⟩
 ·refine e3a2 (id hm) fun o es ep ho hr=>?_
  exact g.notin ho e.notL
 ·refine e0a4 (e.cell x c hc) fun qZ0 h1 h2 h3=>?_; refine Exists.elim qZ0 fun v hv=>?_
  refine e1a2 (id hv) fun oc hoc hd=>?_
  exact ⟨⟨v,Heap.IsCell.kept hv (k _ h1 (.inr ⟨x,hc⟩))⟩,g.notin hoc h1,h2,h3⟩
 ·rcases hv x i hx with ⟨hk,r⟩|⟨hk,c,v,hc,hcv,r⟩
  ·exact .inl ⟨hk,r.mono0 g⟩
  ·exact .inr ⟨hk,c,v,hc,Heap.IsCell.kept hcv (k _ (e.cell x c hc).2.1 (.inr ⟨x,hc⟩)),r.mono0 g⟩
theorem ER.mono {C:Cx} {S:Sco} {env:Env} {β β':List Addr} {h h':Heap} {σ:Loc} (g:Grow Nix β h β' h') (e:ER C S env β h σ):ER C S env β' h' σ:=e.mono' g.toGrow0 fun _ _=>id
structure Frm (C:Cx) (β:List Addr) (h:Heap) (env:Env):Prop where
 kind:env.scope.kind=.function
 gen:env.scope.isGenerator=false
 co:env.scope.isCoroutine=false
 builtins:env.builtins=builtinsNs
 globals:env.globals=mainGlobals
 loc:env.frame=some env.locals
 notL:env.locals∉β
 locB:C.base.get? env.locals=none
 ns:∃ m,h.Ns env.locals m
noncomputable def Stk (C:Cx) (A:Around) (β:List Addr) (h:Heap):Prop:=∃ l,A.frames=some l∧∀ e∈l,Frm C β h e
theorem Frm.mono {C:Cx} {X:Addr→Prop} {env:Env} {β β':List Addr} {h h':Heap} (g:Grow X β h β' h') (hx:X env.locals→∃ m,h'.Ns env.locals m) (f:Frm C β h env):Frm C β' h' env:=by
 refine Exists.elim f.ns fun m hm=>?_
 refine e3a2 (id hm) fun o es ep ho hr=>?_
 refine ⟨f.kind,f.gen,f.co,f.builtins,f.globals,f.loc,g.notin ho f.notL,f.locB,?_⟩
 by_cases q:X env.locals
 ·exact hx q
 ·exact ⟨m,Heap.Ns.kept hm fun o ho=>g.keep _ o ho f.notL q⟩
theorem Stk.mono {C:Cx} {A:Around} {β β':List Addr} {h h':Heap} (g:Grow Nix β h β' h'):Stk C A β h→Stk C A β' h'
 | ⟨l,hl,k⟩=>⟨l,hl,fun e he=>(k e he).mono g fun x=>x.elim⟩
end Mine
namespace Mine
open PySem PyProof.Rows PySem.Calls
structure Base (C:Cx) (mg mb:Str→Option Value):Prop where
 g:C.base.Ns mainGlobals mg
 b:C.base.Ns builtinsNs mb
 nolimit:C.base.NoLimit
 seer:C.base.NoSeer
 tree:C.prog.given.tree=none
structure Room (n:Nat) (A:Around):Prop where
 depth:A.depth+n+110 < recursionLimit
 units:A.units+8 * n+200 < cLine
structure Pre (C:Cx) (n:Nat) (A:Around) (S:Sco) (env:Env) (β:List Addr) (s:Shared) (σ:Loc) (H:AH):Prop where
 inv:Inv C β s.heap H
 env:ER C S env β s.heap σ
 room:Room n A
 calm:S.calm=true→A.handled=none
 stk:Stk C A β s.heap
 ne:A.frames≠some []
section
variable {C:Cx} {n:Nat} {A:Around} {S:Sco} {env:Env} {β β':List Addr} {s s':Shared} {σ:Loc} {H H':AH}
theorem Pre.after (p:Pre C n A S env β s σ H) (a:After C Nix β s β' s' H'):Pre C n A S env β' s' σ H':=⟨a.inv,p.env.mono a.grow,p.room,p.calm,p.stk.mono a.grow,p.ne⟩
end
noncomputable def Fly (C:Cx) (h h':Heap) (fl:Value) (a:Addr) (c:Nat):Prop :=
 ∃ oe vs,h'.get? a=some oe∧oe.cls=.ref (C.clv c)∧oe.data=.fields vs∧h.get? a=none ∧
  ((vs[1]?=some .none∧fl=.none)∨∃ T oT ts,vs[1]?=some (.ref T)∧h.get? T=none∧T≠a∧h'.get? T=some oT∧oT.cls=.type "traceback"∧oT.data=.fields ts∧ts[3]?=some fl)
noncomputable def Lk (β:List Addr) (H:AH) (a:Addr) (c:Nat) (x:AV):Prop:=(x=.exc c∧a∉β)∨∃ (i:Nat) (d:Option Nat),x=.ref i∧β[i]?=some a∧H[i]?=some (.exo c d false)
noncomputable def XR (C:Cx) (h h':Heap) (β:List Addr) (H:AH) (e:Value) (x:AV):Prop:=∃ a c fl,e=.ref a∧Lk β H a c x∧Fly C h h' fl a c
theorem Lk.not {β:List Addr} {H:AH} {a:Addr} {c:Nat} {x:AV} (l:Lk β H a c x) (nd:β.Nodup):∀ (i:Nat) (c:Nat) (d:Option Nat),β[i]?=some a→H[i]?=some (.exo c d true)→False:=by
 intro i c' d' hi hh
 rcases l with ⟨_,hn⟩|⟨j,d,_,hj,hk⟩
 ·exact hn (List.mem_of_getElem? hi)
 ·refine Exists.elim (List.getElem?_eq_some_iff.mp hi) fun h1 e1=>?_
  refine Exists.elim (List.getElem?_eq_some_iff.mp hj) fun h2 e2=>?_
  have:=(List.getElem_inj nd).mp (e1.trans e2.symm)
  subst this
  rw [hh] at hk; cases hk
theorem Fly.older {C:Cx} {h₀ h h':Heap} {fl:Value} {a:Addr} {c:Nat} (f:Fly C h h' fl a c) (k:∀ b,h.get? b=none→h₀.get? b=none):Fly C h₀ h' fl a c:=by
 refine e2a5 f fun oe vs h1 h2 h3 h4 h5=>?_
 refine ⟨oe,vs,h1,h2,h3,k _ h4,?_⟩
 rcases h5 with h5|⟨T,oT,ts,k1,k2,k3⟩
 ·exact .inl h5
 ·exact .inr ⟨T,oT,ts,k1,k _ k2,k3⟩
theorem XR.older {C:Cx} {h₀ h h':Heap} {β:List Addr} {H:AH} {e:Value} {x:AV} (f:XR C h h' β H e x) (k:∀ b,h.get? b=none→h₀.get? b=none):XR C h₀ h' β H e x:=by
 obtain ⟨a,c,fl,e1,e2,f⟩:=f
 exact ⟨a,c,fl,e1,e2,f.older k⟩
theorem After.fresh {C:Cx} {X:Addr→Prop} {β β':List Addr} {s s':Shared} {H':AH} (a:After C X β s β' s' H') (b:Addr) (hb:s'.heap.get? b=none):s.heap.get? b=none:=by
 cases q:s.heap.get? b with
 | none=>rfl
 | some o =>
  by_cases h1:b∈β
  ·refine e1a2 a.grow.ext fun ν e _=>?_
   refine Exists.elim (a.inv.live b (by rw [e]; exact List.mem_append_left _ h1)) fun o' ho'=>?_
   rw [hb] at ho'; injection ho'
  ·by_cases h2:X b
   ·refine e1a2 (a.grow.xlive b h2) fun o' ho' _=>?_
    rw [hb] at ho'; injection ho'
   ·refine e1a2 (a.grow.keep b o q h1 h2) fun o' ho' _=>?_
    rw [hb] at ho'; injection ho'
noncomputable def Pst {ρ α:Type} (C:Cx) (X:Addr→Prop) (R:List Addr→Heap→ρ→α→Prop) (β:List Addr) (s:Shared) (r:Rs α) (Q:ρ→Shared→Prop) (E:Value→Shared→Prop):Prop :=
 match r with
 | .ok v H'=>∀ x s' β',After C X β s β' s' H'→R β' s'.heap x v→Q x s'
 | .err x H'=>∀ e s' β',After C X β s β' s' H'→XR C s.heap s'.heap β' H' e x→E e s'
 | .bad=>False
section
variable {ρ ρ' α α':Type} {C:Cx} {X:Addr→Prop} {R:List Addr→Heap→ρ→α→Prop} {R':List Addr→Heap→ρ'→α'→Prop} {β β':List Addr} {s s':Shared} {H':AH} {r:Rs α} {Q:ρ→Shared→Prop} {E:Value→Shared→Prop}
theorem Pst.shift (a:After C X β s β' s' H') (h:Pst C X R β s r Q E):Pst C X R β' s' r Q E:=by
 cases r with
 | ok v K=>exact fun x s'' β'' b hx=>h x s'' β'' (a.trans b) hx
 | err _ _=>exact fun e s'' β'' b hx=>h e s'' β'' (a.trans b) (hx.older a.fresh)
 | bad=>exact h
theorem Pst.bind {f:α→AH→Rs α'} {Q':ρ'→Shared→Prop} (h:Pst C X R' β s (r.bind f) Q' E) :
  Pst C X R β s r (fun x s'=>∃ a H' β',r=.ok a H'∧After C X β s β' s' H'∧R β' s'.heap x a∧Pst C X R' β' s' (f a H') Q' E) E:=by
 cases r with
 | ok v K=>exact fun x s' β' a hx=>⟨v,K,β',rfl,a,hx,Pst.shift a h⟩
 | err _ _=>exact h
 | bad=>exact h
theorem Pst.bindE {f:α→AH→Rs α'} {Q':ρ'→Shared→Prop} (hx:∀ a,X a→a∉β∧∃ o,s.heap.get? a=some o∧Slotty o) (h:Pst C X R' β s (r.bind f) Q' E) :
  Pst C Nix R β s r (fun x s'=>∃ a H' β',r=.ok a H'∧After C Nix β s β' s' H'∧R β' s'.heap x a∧Pst C X R' β' s' (f a H') Q' E) E:=by
 cases r with
 | ok v K=>exact fun x s' β' a hr=>⟨v,K,β',rfl,a,hr,Pst.shift (a.weaken hx) h⟩
 | err _ _=>exact fun e s' β' a hr=>h e s' β' (a.weaken hx) hr
 | bad=>exact h
theorem Pst.then {f:α→AH→Rs α'} {Q':ρ'→Shared→Prop} {A:Around} {m:Sem ρ} (h:Pst C X R' β s (r.bind f) Q' E) (g:∀ Q,Pst C X R β s r Q E→wpAny (model C.prog C.w) A m Q E s)
  (k:∀ x s₁ v H₁ β₁,r=.ok v H₁→After C X β s β₁ s₁ H₁→R β₁ s₁.heap x v→Pst C X R' β₁ s₁ (f v H₁) Q' E→Q x s₁):wpAny (model C.prog C.w) A m Q E s :=
 wpAny_mono (g _ (Pst.bind h)) (fun x s₁ ⟨v,H₁,β₁,e,a,r,p⟩=>k x s₁ v H₁ β₁ e a r p) fun _ _ e=>e
theorem Pst.thenE {f:α→AH→Rs α'} {Q':ρ'→Shared→Prop} {A:Around} {m:Sem ρ} (hx:∀ a,X a→a∉β∧∃ o,s.heap.get? a=some o∧Slotty o) (h:Pst C X R' β s (r.bind f) Q' E) (g:∀ Q,Pst C Nix R β s r Q E→wpAny (model C.prog C.w) A m Q E s)
  (k:∀ x s₁ v H₁ β₁,r=.ok v H₁→After C Nix β s β₁ s₁ H₁→R β₁ s₁.heap x v→Pst C X R' β₁ s₁ (f v H₁) Q' E→Q x s₁):wpAny (model C.prog C.w) A m Q E s :=
 wpAny_mono (g _ (Pst.bindE hx h)) (fun x s₁ ⟨v,H₁,β₁,e,a,r,p⟩=>k x s₁ v H₁ β₁ e a r p) fun _ _ e=>e
theorem Pst.ok_here {v:α} {H:AH} {x:ρ} (I:Inv C β s.heap H) (h:Pst C Nix R β s (.ok v H) Q E) (hx:R β s.heap x v):Q x s:=h x s β (.refl I) hx
end
structure SE (C:Cx) (n:Nat) (S:Sco) (e:Expr) (d:DE):Prop where
 go:∀ A env σ H β s Q E,Pre C n A S env β s σ H→Pst C Nix (VR C) β s (d σ H) Q E→wpAny (model C.prog C.w) A (eval e env) Q E s
noncomputable def BR (_:List Addr) (_:Heap) (x:Bool) (b:Bool):Prop:=x=b
structure ST (C:Cx) (n:Nat) (S:Sco) (e:Expr) (d:DT):Prop where
 go:∀ A env σ H β s Q E,Pre C n A S env β s σ H→Pst C Nix BR β s (d σ H) Q E→wpAny (model C.prog C.w) A (isTrue e env (eval e env)) Q E s
structure SEs (C:Cx) (n:Nat) (S:Sco) (es:List Expr) (ds:List DE):Prop where
 go:∀ A env σ H β s Q E pos,Pre C n A S env β s σ H→Pst C Nix (VRs C) β s (dEach ds σ H) Q E→wpAny (model C.prog C.w) A (spliced (backTo pos (starEach es env))) Q E s
section
variable {C:Cx} {n:Nat} {S:Sco} {β:List Addr} {s:Shared} {H:AH} {A:Around} {Q:Value→Shared→Prop} {E:Value→Shared→Prop}
theorem Inv.toks (I:Inv C β s.heap H) (tk:Nat):After C Nix β s β { s with toks:=tk } H:=⟨.refl (fun _ h=>h.elim) _,I,s.heap,tk,rfl⟩
theorem Inv.push (I:Inv C β s.heap H) (o:Obj) (tk:Nat):After C Nix β s β { s with heap:=s.heap.push o,toks:=tk } H:=by
 have g:Grow Nix β s.heap β (s.heap.push o):=⟨⟨⟨[],by simp,fun _ ha=>nomatch ha⟩,fun a o' e _ _=>⟨o',Heap.get?_push_of_some _ e,.refl _⟩,fun _ h=>h.elim⟩,fun _ h=>h.elim⟩
 refine ⟨g,⟨I.len,I.nodup,fun i a ao h1 h2=>?_,fun a o' e=>Heap.get?_push_of_some _ (I.base a o' e),I.fresh⟩,_,tk,rfl⟩
 exact (I.obj i a ao h1 h2).keep g.toGrow0 fun _ hob=>Heap.get?_push_of_some _ hob
theorem Inv.new_notin (I:Inv C β s.heap H):s.heap.objs.size∉β:=fun hm=>by
 refine Exists.elim (I.live _ hm) fun o ho=>?_
 exact Nat.lt_irrefl _ (Heap.lt_size ho)
theorem SE.cstNone {k:Nat} {pos:Pos}:SE C n S (.Constant .none k pos) (dCst .none):=by
 refine ⟨fun A env σ H β s Q E P hp=>?_⟩
 exact wpAny_Constant_none (hp.ok_here P.inv .none)
theorem SE.cstBool {k:Nat} {pos:Pos} {b:Bool}:SE C n S (.Constant (.bool b) k pos) (dCst (.bool b)):=by
 refine ⟨fun A env σ H β s Q E P hp=>?_⟩
 exact wpAny_Constant_bool (hp.ok_here P.inv (.bool b))
theorem SE.cstInt {k:Nat} {pos:Pos} {i:Int}:SE C n S (.Constant (.int i) k pos) (dCst (.int i)):=by
 refine ⟨fun A env σ H β s Q E P hp=>?_⟩
 exact wpAny_Constant_int (hp _ _ _ (P.inv.toks _) (.int i _))
theorem SE.cstStr {k:Nat} {pos:Pos} {x:Str}:SE C n S (.Constant (.str x) k pos) (dCst (.str x)):=by
 refine ⟨fun A env σ H β s Q E P hp=>?_⟩
 exact wpAny_Constant_str (hp _ _ _ (P.inv.toks _) (.str x _))
theorem SE.loc {x:Str} {pos:Pos} {i:Nat} (hx:S.Γ.lookup x=some i) (hd:(x == ("__debug__":Str))=false) (hn:(x == ("__classdict__":Str))=false):SE C n S (.Name x pos) (dLoc i):=by
 refine ⟨fun A env σ H β s Q E P hp=>?_⟩
 refine wpAny_Name ?_ hd
 refine e1a2 P.env.vars fun m hm hv=>?_
 unfold dLoc at hp
 cases hσ:σ i with
 | none=>rw [hσ] at hp; exact hp.elim
 | some d =>
  rw [hσ] at hp
  rcases hv x i hx with ⟨hk,r⟩|⟨hk,c,v,hc,hcell,r⟩
  ·rw [hσ] at r
   refine e1a2 r fun w hw hr=>?_
   exact wpAny_loadName_local P.env.kind hk hm hw (hp.ok_here P.inv hr)
  ·rw [hσ] at r
   refine e1a2 r fun w eZ1 hr=>?_; subst eZ1
   rcases hk with hk|hk
   ·exact wpAny_loadName_cell P.env.kind hk hc hcell (hp.ok_here P.inv hr)
   ·exact wpAny_loadName_free P.env.kind hk hc hcell (hp.ok_here P.inv hr) hn
theorem SE.glb {mg mb:Str→Option Value} (B:Base C mg mb) {x:Str} {pos:Pos} {v:Value} {d:AV} (hx:x∈S.G) (hv:mg x=some v) (hr:∀ β h,VR C β h v d) (hd:(x == ("__debug__":Str))=false):SE C n S (.Name x pos) (dCst d):=by
 refine ⟨fun A env σ H β s Q E P hp=>?_⟩
 refine Name_function_global P.env.kind (P.env.glo x hx) (loadGlobal_global (mg:=mg) ?_ hv (hp.ok_here P.inv (hr _ _))) hd
 rw [P.env.globals]; exact B.g.keeps P.inv.base
theorem SE.blt {mg mb:Str→Option Value} (B:Base C mg mb) {x:Str} {pos:Pos} {b:BI} (hx:x∈S.G) (hg:mg x=none) (hv:mb x=some b.val) (hd:(x == ("__debug__":Str))=false):SE C n S (.Name x pos) (dCst (.bi b)):=by
 refine ⟨fun A env σ H β s Q E P hp=>?_⟩
 refine Name_function_global P.env.kind (P.env.glo x hx) (loadGlobal_builtin (mg:=mg) (mb:=mb) ?_ hg ?_ hv (hp.ok_here P.inv (.bi b rfl))) hd
 ·rw [P.env.globals]; exact B.g.keeps P.inv.base
 ·rw [P.env.builtins]; exact B.b.keeps P.inv.base
theorem SEs.nil:SEs C n S [] []:=by
 refine ⟨fun A env σ H β s Q E pos P hp=>?_⟩
 exact wpAny_items_nil (hp.ok_here P.inv .nil)
noncomputable def Za1:Expr→Bool
 | .Starred _ _=>false
 | _=>true
theorem Za2 {e:Expr} {es:List Expr} {env:Env} (h:Za1 e=true):starEach (e::es) env=(false,eval e env)::starEach es env:=by
 cases e <;> first|rfl|injection h
theorem Za3 {env:Env} {pos:Pos}:∀ {es:List Expr},es.all Za1=true→(backTo pos (starEach es env)).any (·.1)=false
 | [],_=>rfl
 | e::es,h=>by
  refine e0a2' (Bool.and_eq_true_iff.mp (show (Za1 e&&es.all Za1)=true from h)) fun h1 h2=>?_
  rw [Za2 h1]
  exact Za3 h2
theorem SEs.cons {e:Expr} {es:List Expr} {d:DE} {ds:List DE} (h:SE C n S e d) (r:SEs C n S es ds) (he:∀ env,starEach (e::es) env=(false,eval e env)::starEach es env):SEs C n S (e::es) (d::ds):=by
 refine ⟨fun A env σ H β s Q E pos P hp=>?_⟩
 refine wpAny_items_cons (Pst.then hp (fun _ h'=>h.go A env σ H β s _ E P h') ?_) (he env)
 intro x s₁ v H₁ β₁ _ a₁ vx hp₁
 refine Pst.then hp₁ (fun _ h'=>r.go A env σ H₁ β₁ s₁ _ E pos (P.after a₁) h') ?_
 intro xs s₂ vs H₂ β₂ _ a₂ vxs hp₂
 exact hp₂.ok_here a₂.inv (.cons (vx.mono a₂.grow) vxs)
theorem bind_ok {α γ:Type} {r:Rs α} {f:α→AH→Rs γ} {b:γ} {H:AH} (h:r.bind f=.ok b H):∃ a H₁,r=.ok a H₁∧f a H₁=.ok b H:=by
 cases r with
 | ok a H₁=>exact ⟨a,H₁,rfl,h⟩
 | err _ _=>injection h
 | bad=>injection h
theorem Za4:∀ {ds:List DE} {σ:Loc} {H H':AH} {vs:List AV},dEach ds σ H=.ok vs H'→vs.length=ds.length
 | [],_,H,H',vs,h=>by have h:(.ok [] H:Rs (List AV))=.ok vs H':=h; injection h with h _; rw [← h]; rfl
 | d::r,σ,H,H',vs,h=>by
  have h:((d σ H).bind fun v H₁=>(dEach r σ H₁).bind fun vs H₂=>.ok (v::vs) H₂)=.ok vs H':=h
  refine e2a2 (bind_ok h) fun v H₁ _ h=>?_
  refine e2a2 (bind_ok h) fun ws H₂ h2 h=>?_
  injection h with h _
  rw [← h,List.length_cons,List.length_cons,Za4 h2]
theorem SE.tup {es:List Expr} {ds:List DE} {k:Nat} {pos:Pos} (h:SEs C n S es ds) (hl:ds.length≤1048576):SE C n S (.Tuple es k pos) (dTup ds):=by
 refine ⟨fun A env σ H β s Q E P hp=>?_⟩
 refine wpAny_Tuple (Pst.then hp (fun _ h'=>h.go A env σ H β s _ E pos P h') ?_)
 intro xs s₁ vs H₁ β₁ he a₁ vxs hp₁
 have hlen:xs.length≤1048576:=by rw [vxs.length,Za4 he]; exact hl
 refine ⟨Nat.le_trans hlen (by decide),?_⟩
 have a₂:=a₁.inv.push (s:=s₁) { cls:=.type "tuple",data:=.seq xs.toArray } s₁.toks
 exact hp₁ _ _ _ a₂ (.tup (items:=xs.toArray) ⟨_,Heap.get?_push_size _ rfl,rfl,_,rfl⟩ a₁.inv.new_notin (by simpa using vxs.mono a₂.grow))
theorem SE.lst {es:List Expr} {ds:List DE} {pos:Pos} (h:SEs C n S es ds) (hl:ds.length≤1048576):SE C n S (.List es pos) (dLst ds):=by
 refine ⟨fun A env σ H β s Q E P hp=>?_⟩
 refine wpAny_List (Pst.then hp (fun _ h'=>h.go A env σ H β s _ E pos P h') ?_)
 intro xs s₁ vs H₁ β₁ he a₁ vxs hp₁
 have hlen:xs.length≤1048576:=by rw [vxs.length,Za4 he]; exact hl
 refine ⟨Nat.le_trans hlen (by decide),?_⟩
 have a₂:=a₁.inv.push (s:=s₁) { cls:=.type "list",data:=.seq xs.toArray } s₁.toks
 exact hp₁ _ _ _ a₂ (.lst (items:=xs.toArray) ⟨_,Heap.get?_push_size _ rfl,rfl,_,rfl⟩ a₁.inv.new_notin (by simpa using vxs.mono a₂.grow))
theorem Inv.alloc (I:Inv C β s.heap H) {o:Obj} {ao:AO} (tk:Nat) (hf:o.isFreed=false) (ho:∀ β' h',Grow Nix β s.heap β' h'→h'.get? s.heap.objs.size=some o→OR C β' h' s.heap.objs.size ao) :
  After C Nix β s (β++[s.heap.objs.size]) { s with heap:=s.heap.push o,toks:=tk } (H++[ao]):=by
 have hnone:s.heap.get? s.heap.objs.size=none:=by
  cases q:s.heap.get? s.heap.objs.size with
  | none=>rfl
  | some o'=>exact absurd (Heap.lt_size q) (Nat.lt_irrefl _)
 have g:Grow Nix β s.heap (β++[s.heap.objs.size]) (s.heap.push o):=⟨⟨⟨[s.heap.objs.size],rfl,fun a ha=>by rw [List.mem_singleton.mp ha]; exact hnone⟩,fun a o' e _ _=>⟨o',Heap.get?_push_of_some _ e,.refl _⟩,fun _ h=>h.elim⟩,fun _ h=>h.elim⟩
 refine ⟨g,⟨by simp [I.len],?_,fun i a x h1 h2=>?_,fun a o' e=>Heap.get?_push_of_some _ (I.base a o' e),?_⟩,_,tk,rfl⟩
 ·refine List.nodup_append.mpr ⟨I.nodup,by simp,fun a ha b hb=>?_⟩
  rw [List.mem_singleton.mp hb]; rintro rfl; exact I.new_notin ha
 ·by_cases hi:i < β.length
  ·rw [List.getElem?_append_left hi] at h1
   rw [List.getElem?_append_left (I.len ▸ hi)] at h2
   exact (I.obj i a x h1 h2).keep g.toGrow0 fun _ hob=>Heap.get?_push_of_some _ hob
  ·have hlen:i < (β++[s.heap.objs.size]).length:=(List.getElem?_eq_some_iff.mp h1).1
   have hi':i=β.length:=by simp at hlen; omega
   subst hi'
   rw [List.getElem?_append_right (Nat.le_refl _)] at h1
   rw [List.getElem?_append_right (by rw [I.len]; exact Nat.le_refl _),← I.len] at h2
   simp at h1 h2
   subst h1 h2
   exact ho _ _ g (Heap.get?_push_size _ hf)
 ·intro a ha
  rcases List.mem_append.mp ha with h1|h1
  ·exact I.fresh a h1
  ·rw [List.mem_singleton.mp h1]
   cases q:C.base.get? s.heap.objs.size with
   | none=>rfl
   | some o'=>rw [I.base _ _ q] at hnone; injection hnone
theorem SE.newD {pos:Pos}:SE C n S (.Dict [] [] pos) dNewD:=by
 refine ⟨fun A env σ H β s Q E P hp=>?_⟩
 refine wpAny_Dict_empty ?_
 have a₂:=P.inv.alloc (s:=s) (o:={ cls:=.type "dict",data:=.dict #[] }) (ao:=.dict []) s.toks rfl
  (fun β' h' g hg=>⟨[],⟨_,#[],0,hg,⟨rfl,rfl,rfl⟩,rfl,fun _ he=>by simp at he,.nil,.nil⟩,rfl,.nil⟩)
 refine hp _ _ _ a₂ (.ref ?_)
 rw [← P.inv.len]; simp
theorem SE.newS {pos:Pos}:SE C n S (.Dict [] [] pos) dNewS:=by
 refine ⟨fun A env σ H β s Q E P hp=>?_⟩
 refine wpAny_Dict_empty ?_
 have a₂:=P.inv.alloc (s:=s) (o:={ cls:=.type "dict",data:=.dict #[] }) (ao:=.dictS []) s.toks rfl
  (fun β' h' g hg=>⟨[],_,#[],0,hg,⟨rfl,rfl,rfl⟩,rfl,rfl,.nil,rfl,.nil,.nil⟩)
 refine hp _ _ _ a₂ (.ref ?_)
 rw [← P.inv.len]; simp
theorem SE.newL {es:List Expr} {ds:List DE} {pos:Pos} (h:SEs C n S es ds) (hl:ds.length≤1048576):SE C n S (.List es pos) (dNewL ds):=by
 refine ⟨fun A env σ H β s Q E P hp=>?_⟩
 refine wpAny_List (Pst.then hp (fun _ h'=>h.go A env σ H β s _ E pos P h') ?_)
 intro xs s₁ vs H₁ β₁ he a₁ vxs hp₁
 have hlen:xs.length≤1048576:=by rw [vxs.length,Za4 he]; exact hl
 refine ⟨Nat.le_trans hlen (by decide),?_⟩
 have a₂:=a₁.inv.alloc (s:=s₁) (o:={ cls:=.type "list",data:=.seq xs.toArray }) (ao:=.list vs) s₁.toks rfl
  (fun β' h' g hg=>⟨xs.toArray,⟨_,hg⟩,by simpa using vxs.mono g⟩)
 refine hp₁ _ _ _ a₂ (.ref ?_)
 rw [← a₁.inv.len]; simp
section values
variable {x y:Value} {v u:AV}
theorem VR.int_inv {β:List Addr} {h:Heap} {x:Value} {i:Int} (r:VR C β h x (.int i)):∃ t,x=.int i t:=r.inv
theorem Heap.IsTuple.typeIs' {s:Shared} {a:Addr} {items:Array Value} (h:s.heap.IsTuple a items):s.TypeIs (.ref a) "tuple":=let ⟨o,ho,hc,_⟩:=h; ⟨o,ho,hc⟩
theorem Za5 (I:Inv C β s.heap H) {x:Value}:∀ {v:AV} {l:List AV},VR C β s.heap x v→listOf? H v=some l→∃ a items,x=.ref a∧s.heap.IsList a items∧VRs C β s.heap items.toList l:=by
 intro v l r h
 have vi:=r.inv
 cases v with
 | lst k=>obtain rfl:=inj h; refine e2a4 vi fun _ _ eZ2 hl _ hv=>?_; subst eZ2; exact ⟨_,_,rfl,hl,hv⟩
 | ref i =>
  refine e1a2 vi fun a eZ1 hb=>?_; subst eZ1
  simp only [listOf?] at h
  split at h
  ·rename_i l' hi
   obtain rfl:=inj h
   refine e1a2 (I.obj i a _ hb hi) fun items hl hv=>?_
   exact ⟨_,items,rfl,hl.isList,hv⟩
  ·injection h
 | _=>injection h
theorem Za6 (I:Inv C β s.heap H) {a b:Addr} {xs ys:Array Value} {l k:List AV} (hx:s.heap.IsList a xs) (hy:s.heap.IsList b ys) (vx:VRs C β s.heap xs.toList l) (vy:VRs C β s.heap ys.toList k)
  (hl:l.length+k.length≤1048576) (hp:Pst C Nix (VR C) β s (.ok (.lst (l++k)) H) Q E):wpAny (model C.prog C.w) A (binaryOp .Add (.ref a) (.ref b)) Q E s:=by
 refine meaae (id hx) fun qZ0 ho hc n hd=>?_; obtain ⟨cls,dd,data,sl⟩:=qZ0
 refine meaae (id hy) fun qZ0 ho2 hc2 n2 hd2=>?_; obtain ⟨cls2,dd2,data2,sl2⟩:=qZ0
 simp only at hc hd hc2 hd2
 subst hc hd hc2 hd2
 have hsz:xs.size+ys.size≤sizeLine:=by
  have h1:=vx.length; have h2:=vy.length
  simp only [Array.length_toList] at h1 h2
  rw [h1,h2]; exact Nat.le_trans hl (by decide)
 refine concat_meets ⟨_,ho,rfl⟩ ⟨_,ho2,rfl⟩ noFill_list_add seq_list_add PySem.F.slot_list_add PySem.F.entry_list_add (PySem.F.args_list_add_2 _ _) (list_addW a b xs ys n n2 dd dd2 sl sl2 hsz) ⟨ho,ho2,?_⟩
 have a₂:=I.push (s:=s) { cls:=.type "list",data:=.seq (xs++ys) } s.toks
 exact hp _ _ _ a₂ (.lst (items:=xs++ys) ⟨_,Heap.get?_push_size _ rfl,rfl,_,rfl⟩ I.new_notin (by simpa using (vx.append vy).mono a₂.grow))
end values
end
end Mine
namespace Mine
open PySem PyProof.Rows PySem.Calls PySem.SeqAt
set_option linter.unusedVariables false
section
variable {C:Cx} {n:Nat} {S:Sco} {env:Env} {β β':List Addr} {s s' s₁:Shared} {σ σ':Loc} {H H':AH} {A:Around} {E:Value→Shared→Prop} {mg mb:Str→Option Value}
noncomputable def Shk (D:Addr→Prop) (fr:List Addr) (h h':Heap):Prop:=∀ b o,h.get? b=some o→¬ D b→(h'.get? b=some o∨(b∈fr∧∃ sl,h'.get? b=some { o with slots:=sl }))
structure ShkOk (C:Cx) (β:List Addr) (D:Addr→Prop) (fr:List Addr) (h h':Heap):Prop where
 shk:Shk D fr h h'
 rec_:∀ b,D b→∀ o,h.get? b=some o→(∃ vs,o.data=.fields vs)∧o.cls≠.type "range"
 same:∀ b,D b→∀ o,h.get? b=some o→∃ o' vs,h'.get? b=some o'∧o'.cls=o.cls∧o'.data=.fields vs∧o'.dict=o.dict
 base:∀ b,D b→C.base.get? b=none
 dict:∀ b∈fr,b∉β∧∀ o,h.get? b=some o→∃ es ep,o.data=.dict es ep
 frB:∀ b∈fr,C.base.get? b=none
theorem ShkOk.kept {D:Addr→Prop} {fr:List Addr} {h h':Heap} (k:ShkOk C β D fr h h') {b:Addr} {o:Obj} (hb:h.get? b=some o) (hD:¬ D b):∃ o',h'.get? b=some o'∧Kept o o':=by
 rcases k.shk b o hb hD with h1|⟨hm,sl,h1⟩
 ·exact ⟨o,h1,.refl _⟩
 ·refine e2a1 ((k.dict b hm).2 o hb) fun es ep hd=>?_
  exact ⟨_,h1,.inr ⟨rfl,rfl,es,ep,hd⟩⟩
theorem ShkOk.firm {D:Addr→Prop} {fr:List Addr} {h h':Heap} (k:ShkOk C β D fr h h') {b:Addr} {o:Obj} (hb:h.get? b=some o) (hD:¬ D b) (hn:∀ es ep,o.data≠.dict es ep):h'.get? b=some o:=by
 refine e1a2 (k.kept hb hD) fun o' ho' kk=>?_
 rw [kk.same hn] at ho'; exact ho'
theorem ShkOk.keeps {D:Addr→Prop} {fr:List Addr} {h h':Heap} (k:ShkOk C β D fr h h') {a:Addr} {o:Obj} (ho:h.get? a=some o) (hd:(∃ vs n,o.data=.seq vs n)∨o.data=.plain):h'.get? a=some o:=by
 refine k.firm ho (fun q=>?_) (fun es ep q=>?_)
 ·obtain ⟨⟨vs,h1⟩,_⟩:=k.rec_ _ q o ho
  rcases hd with ⟨vs',n,hd⟩|hd
  ·injection hd.symm.trans h1
  ·injection hd.symm.trans h1
 ·rcases hd with ⟨vs',n,hd⟩|hd
  ·injection hd.symm.trans q
  ·injection hd.symm.trans q
theorem VR.shake {D:Addr→Prop} {fr:List Addr} {h h':Heap} (k:ShkOk C β D fr h h') {v:Value} {d:AV} (r:VR C β h v d):VR C β h' v d :=
 VR.rec (motive_1:=fun v d _=>VR C β h' v d) (motive_2:=fun vs ds _=>VRs C β h' vs ds) .none .bool .int .str
  (fun ht hn _ ih=>.tup (by refine meaae ht fun o ho hc n hd=>?_; exact ⟨o,k.keeps ho (.inl ⟨_,_,hd⟩),hc,n,hd⟩) hn ih) (fun ht hn _ ih=>.lst (by refine meaae ht fun o ho hc n hd=>?_; exact ⟨o,k.keeps ho (.inl ⟨_,_,hd⟩),hc,n,hd⟩) hn ih)
  .ref (fun hr hn=>.rng (k.firm hr (fun q=>(k.rec_ _ q _ hr).2 rfl) (fun es ep q=>by injection q)) hn) .fn .cls .bi
  (fun {a c o vs} ho hc hd hn=>by
   by_cases q:D a
   ·refine e2a4 (k.same a q o ho) fun o' ws h1 h2 h3 _=>?_
    exact .exc h1 (h2.trans hc) h3 hn
   ·exact .exc (k.firm ho q (fun es ep q=>by injection hd.symm.trans q)) hc hd hn)
  (fun ho hc hd hx hb hn=>.inst (k.keeps ho (.inr hd)) hc hd hx hb hn) .nil (fun _ _ a r=>.cons a r) r
theorem VRs.shake {D:Addr→Prop} {fr:List Addr} {h h':Heap} (k:ShkOk C β D fr h h') {vs:List Value} {ds:List AV} (r:VRs C β h vs ds):VRs C β h' vs ds:=r.ind (P:=fun vs ds=>VRs C β h' vs ds) .nil fun a _ ih=>.cons (a.shake k) ih
theorem AtR.shake {D:Addr→Prop} {fr:List Addr} {h h':Heap} (k:ShkOk C β D fr h h') {v:Option Value}:∀ {d:Option AV},AtR C β h v d→AtR C β h' v d
 | none,e=>e
 | some _,⟨x,e,r⟩=>⟨x,e,r.shake k⟩
noncomputable def Calm (β:List Addr) (H:AH) (D:Addr→Prop):Prop:=∀ (i:Nat) (a:Addr) (c:Nat) (d:Option Nat),β[i]?=some a→H[i]?=some (.exo c d true)→¬ D a
theorem Inv.shake {D:Addr→Prop} {fr:List Addr} {h h':Heap} (k:ShkOk C β D fr h h') (I:Inv C β h H) (cm:Calm β H D):Inv C β h' H:=by
 refine ⟨I.len,I.nodup,fun i a ao h1 h2=>?_,fun b o hb=>?_,I.fresh⟩
 ·have:=I.obj i a ao h1 h2
  cases ao with
  | list l =>
   refine e1a2 this fun items qZ1 hv=>?_; refine Exists.elim qZ1 fun m hob=>?_
   exact ⟨items,⟨m,k.firm hob (fun q=>by obtain ⟨⟨vs,h1⟩,_⟩:=k.rec_ _ q _ hob; injection h1) (fun es ep q=>by injection q)⟩,hv.shake k⟩
  | dict l =>
   refine e1a3 this fun kvs qZ1 hk hv=>?_; refine e3a4 qZ1 fun o es ep hob hx hd r=>?_
   refine ⟨kvs,⟨o,es,ep,?_,hx,hd,r⟩,hk,hv.shake k⟩
   rcases k.shk a _ hob (fun q=>by obtain ⟨⟨vs,h1⟩,_⟩:=k.rec_ _ q _ hob; rw [hd] at h1; injection h1) with q|⟨hm,_⟩
   ·exact q
   ·exact absurd (List.mem_of_getElem? h1) (k.dict a hm).1
  | dictS l =>
   refine e4a8 this fun xs o es ep hob hx hd he hk hl hv hn=>?_
   refine ⟨xs,o,es,ep,?_,hx,hd,he,hk.shake k,hl,hv.shake k,hn⟩
   rcases k.shk a _ hob (fun q=>by obtain ⟨⟨vs,h1⟩,_⟩:=k.rec_ _ q _ hob; rw [hd] at h1; injection h1) with q|⟨hm,_⟩
   ·exact q
   ·exact absurd (List.mem_of_getElem? h1) (k.dict a hm).1
  | attrs l =>
   refine e1a2 this fun m hm ha=>?_
   refine ⟨m,hm.at fun o hob=>?_,fun n=>(ha n).shake k⟩
   refine e3a3 (id hm) fun o' es ep ho' hd _=>?_
   rw [hob] at ho'; obtain rfl:=inj ho'
   rcases k.shk a _ hob (fun q=>by obtain ⟨⟨vs,h1⟩,_⟩:=k.rec_ _ q _ hob; rw [hd] at h1; injection h1) with q|⟨hm,_⟩
   ·exact q
   ·exact absurd (List.mem_of_getElem? h1) (k.dict a hm).1
  | exo c d f =>
   refine e2a5 this fun o vs hob hc hd hf dl=>?_
   by_cases q:D a
   ·refine e2a4 (k.same a q o hob) fun o' ws g1 g2 g3 g4=>?_
    refine ⟨o',ws,g1,g2.trans hc,g3,fun e=>?_,by rw [g4]; exact dl⟩
    subst e
    exact absurd q (cm i a c d h1 h2)
   ·exact ⟨o,vs,k.firm hob q (fun es ep q=>by rw [hd] at q; injection q),hc,hd,hf,dl⟩
 ·have hD:¬ D b:=fun q=>by rw [k.base b q] at hb; injection hb
  rcases k.shk b o (I.base b o hb) hD with h1|⟨hm,_⟩
  ·exact h1
  ·rw [k.frB b hm] at hb; injection hb
theorem After.shake {X D:Addr→Prop} {fr:List Addr} {h₂:Heap} (k:ShkOk C β' D fr s₁.heap h₂) (af:After C X β s β' s₁ H') (hD:∀ b,D b→s.heap.get? b=none) (cm:Calm β' H' D):After C X β s β' { s₁ with heap:=h₂ } H':=by
 refine e2a1 af.same fun hh tk e=>?_
 refine ⟨⟨⟨af.grow.ext,fun a o ho hn hx=>?_,af.grow.xs⟩,fun a ha=>?_⟩,af.inv.shake k cm,h₂,tk,by rw [e]⟩
 ·refine e1a2 (af.grow.keep a o ho hn hx) fun o' ho' k1=>?_
  refine e1a2 (k.kept ho' (fun q=>by rw [hD a q] at ho; injection ho)) fun o'' ho'' k2=>?_
  exact ⟨o'',ho'',k1.trans k2⟩
 ·refine e1a2 (af.grow.xs a ha) fun o ho _=>?_
  refine e1a3 (af.grow.xlive a ha) fun o' ho' sl nf=>?_
  refine e1a2 (k.kept ho' (fun q=>by rw [hD a q] at ho; injection ho)) fun o'' ho'' k2=>?_
  exact ⟨o'',ho'',k2.slotty sl,fun n=>by rw [k2.data.2]; exact nf n⟩
theorem OV.shake {D:Addr→Prop} {fr:List Addr} {h h':Heap} (k:ShkOk C β D fr h h') {v:Option Value}:∀ {d:Option AV},OV C β h v d→OV C β h' v d
 | none,_=>trivial
 | some _,⟨x,e,r⟩=>⟨x,e,r.shake k⟩
theorem ER.shake {D:Addr→Prop} {fr:List Addr} {h h':Heap} (k:ShkOk C β D fr h h') (e:ER C S env β h σ):ER C S env β h' σ:=by
 have notD:∀ a o,h.get? a=some o→(∀ vs,o.data≠.fields vs)→¬ D a:=fun a o ho hn q=>by refine e0a2' (k.rec_ a q o ho) fun qZ0 _=>?_; obtain ⟨vs,h1⟩:=qZ0; exact hn vs h1
 refine e1a2 e.vars fun m hm hv=>?_
 have kc:∀ {c v},h.IsCell c v→h'.IsCell c v:=fun hc=>Heap.IsCell.kept hc fun o ho=>k.kept ho (notD _ o ho (by refine e1a2 hc fun o' ho' hd=>?_; rw [ho] at ho'; obtain rfl:=inj ho'; intro vs q; rw [hd] at q; injection q))
 refine ⟨e.kind,e.globals,e.builtins,e.notL,e.locB,e.glo,e.cap,e.loc,fun x c hc=>?_,e.apart,e.slots,m,Heap.Ns.kept hm fun o ho=>k.kept ho (notD _ o ho (by refine e3a3 hm fun o' es ep ho' hd _=>?_; rw [ho] at ho'; obtain rfl:=inj ho'; intro vs q; rw [hd] at q; injection q)),fun x i hx=>?_⟩
 ·refine e0a2' (e.cell x c hc) fun qZ0 r=>?_; obtain ⟨v,hv⟩:=qZ0
  exact ⟨⟨v,kc hv⟩,r⟩
 ·rcases hv x i hx with ⟨hk,r⟩|⟨hk,c,v,hc,hcv,r⟩
  ·exact .inl ⟨hk,r.shake k⟩
  ·exact .inr ⟨hk,c,v,hc,kc hcv,r.shake k⟩
theorem Stk.shake {D:Addr→Prop} {fr:List Addr} {h h':Heap} (k:ShkOk C β D fr h h'):Stk C A β h→Stk C A β h'
 | ⟨l,hl,kk⟩=>⟨l,hl,fun e he=>by
   have f:=kk e he
   refine Exists.elim f.ns fun m hm=>?_
   refine ⟨f.kind,f.gen,f.co,f.builtins,f.globals,f.loc,f.notL,f.locB,m,Heap.Ns.kept hm fun o ho=>k.kept ho fun q=>?_⟩
   obtain ⟨⟨vs,h1⟩,_⟩:=k.rec_ _ q o ho
   refine e3a3 hm fun o' es ep ho' hd _=>?_
   rw [ho] at ho'; obtain rfl:=inj ho'; rw [hd] at h1; injection h1⟩
theorem Obj.dict_mapFields (f:Array Value→Array Value) (o:Obj):(o.mapFields f).dict=o.dict:=by
 obtain ⟨a,b,c,d⟩:=o
 cases c <;> rfl
theorem Inv.notTrace {h:Heap} (I:Inv C β h H) {a:Addr} {o:Obj} {vs:Array Value} {T:String} (ho:h.get? a=some o) (hc:o.cls=.type T) (hd:o.data=.fields vs):∀ (i:Nat) (c:Nat) (d:Option Nat),β[i]?=some a→H[i]?=some (.exo c d true)→False:=by
 intro i c d hb hi
 obtain ⟨o',ws,ho',hc',_⟩:=I.obj i a _ hb hi
 rw [ho] at ho'; obtain rfl:=inj ho'
 rw [hc] at hc'; injection hc'
theorem Za7 {outer:List Env} {L e:Addr} {oe:Obj} {vs:Array Value} {head:Value} {hadNext:Bool} {Q:Unit→Shared→Prop} (hfr:A.frames=some (env::outer)) (hl:s.heap.FunFrames C.base (env::outer)) (hf:env.frame=some L)
  (he:s.heap.get? e=some oe) (hd:oe.data=.fields vs) (hsz:1 < vs.size)
  (h:∀ h₂ T,s.heap.get? T=none→T≠e→Shk (fun b=>b=e) ((env::outer).filterMap (·.frame)) s.heap h₂→h₂.get? e=some (oe.mapFields (·.setIfInBounds 1 (.ref T))) →
   (∃ oT ts,h₂.get? T=some oT∧oT.cls=.type "traceback"∧oT.data=.fields ts∧ts[3]?=some (rawInt L))→Q () { s with heap:=h₂ }) :
  wpAny (model C.prog C.w) A (do let a ← frameOf env; let pl ← entryPlaceOf L hadNext; let b ← EntryCells.newEntry head a .none (rawInt L) .none pl; setField (.ref e) 1 b) Q E s:=by
 have hene:e∉(env::outer).filterMap (·.frame):=fun hm=>by
  refine maea (hl.mem hm) fun _ o ho hnf=>?_
  rw [he] at ho; obtain rfl:=inj ho; exact hnf vs hd
 refine wpAny_bind (wpAny_frameOf_fun hfr hl hf fun h₁ hs₁=>?_)
 refine wpAny_bind (wpAny_entryPlaceOf fun pl hpl=>?_)
 unfold EntryCells.newEntry newFields
 refine wpAny_bind (wpAny_newObj_type ?_ (hpl.sizeOk5 _ _ _ _ _))
 generalize hoT:({ cls:=.type "traceback",dict:=none,data:=.fields ([head,.ref L,.none,rawInt L,.none]++(if pl.isEmpty then List.replicate 6 Value.none else pl)).toArray }:Obj)=oT
 have he₁:h₁.get? e=some oe:=(hs₁.2.1 e hene).trans he
 have he₂:=Heap.get?_push_of_some (h:=h₁) oT he₁
 have hTe:h₁.objs.size≠e:=Nat.ne_of_gt (Heap.lt_size he₁)
 have hd₃:=Obj.data_mapFields hd (·.setIfInBounds 1 (Value.ref h₁.objs.size))
 refine wpAny_setField he₂ hd hsz (h _ h₁.objs.size (Heap.get?_none_of_le (by rw [hs₁.1]; exact Nat.le_refl _)) hTe (fun b o hb hbe=>?_) (Heap.get?_update_self _ he₂ (Obj.isFreed_of_fields hd₃)) ?_)
 ·rw [Heap.get?_update_other _ _ (Ne.symm hbe)]
  by_cases hm:b∈(env::outer).filterMap (·.frame)
  ·refine Exists.elim (hs₁.2.2 b o hb) fun sl h1=>?_
   exact .inr ⟨hm,sl,Heap.get?_push_of_some _ h1⟩
  ·exact .inl (Heap.get?_push_of_some _ ((hs₁.2.1 b hm).trans hb))
 ·refine ⟨oT,_,?_,by rw [← hoT],by rw [← hoT],?_⟩
  ·rw [Heap.get?_update_other _ _ (Ne.symm hTe)]
   exact Heap.get?_push_size h₁ (by rw [← hoT]; rfl)
  ·first|(simp; done)|(rcases hpl with rfl|⟨_,_,_,_,_,_,_,rfl⟩ <;> simp)
noncomputable def Trc (C:Cx) (h h':Heap) (fl:Value) (a:Addr) (c:Nat):Prop :=
 ∃ oe vs T oT ts,h'.get? a=some oe∧oe.cls=.ref (C.clv c)∧oe.data=.fields vs∧h.get? a=none ∧
  vs[1]?=some (.ref T)∧h.get? T=none∧T≠a∧h'.get? T=some oT∧oT.cls=.type "traceback"∧oT.data=.fields ts∧ts[3]?=some fl
theorem Trc.fly {h h':Heap} {fl:Value} {a:Addr} {c:Nat} (f:Trc C h h' fl a c):Fly C h h' fl a c:=by
 refine e5a5 f fun oe vs T oT ts h1 h2 h3 h4 r=>?_
 exact ⟨oe,vs,h1,h2,h3,h4,.inr ⟨T,oT,ts,r⟩⟩
noncomputable def DD (a:Addr) (T:Option Addr) (b:Addr):Prop:=b=a∨T=some b
theorem Za8 {D:Addr→Prop} {outer:List Env} {a:Addr} {h h₂:Heap} (hl:h.FunFrames C.base (env::outer)) (hdict:∀ b∈(env::outer).filterMap (·.frame),b∉β∧∀ o,h.get? b=some o→∃ es ep,o.data=.dict es ep)
  (shk:Shk D ((env::outer).filterMap (·.frame)) h h₂) (rec_:∀ b,D b→∀ o,h.get? b=some o→(∃ vs,o.data=.fields vs)∧o.cls≠.type "range") (same:∀ b,D b→∀ o,h.get? b=some o→∃ o' vs,h₂.get? b=some o'∧o'.cls=o.cls∧o'.data=.fields vs∧o'.dict=o.dict)
  (base:∀ b,D b→C.base.get? b=none):ShkOk C β D ((env::outer).filterMap (·.frame)) h h₂:=⟨shk,rec_,same,base,hdict,fun b hb=>(hl.mem hb).1⟩
theorem Za9 {X:Addr→Prop} {outer:List Env} {L a:Addr} {c:Nat} {fl:Value} {Q:Unit→Shared→Prop} (hfr:A.frames=some (env::outer)) (hl:s₁.heap.FunFrames C.base (env::outer)) (hdict:∀ b∈(env::outer).filterMap (·.frame),b∉β'∧∀ o,s₁.heap.get? b=some o→∃ es ep,o.data=.dict es ep)
  (hf:env.frame=some L) (hB:∀ b,s.heap.get? b=none→C.base.get? b=none) (af:After C X β s β' s₁ H') (f:Fly C s.heap s₁.heap fl a c) (hfx:∀ (i:Nat) (c:Nat) (d:Option Nat),β'[i]?=some a→H'[i]?=some (.exo c d true)→False)
  (hq:∀ h₂ D fl',ShkOk C β' D ((env::outer).filterMap (·.frame)) s₁.heap h₂→After C X β s β' { s₁ with heap:=h₂ } H'→Trc C s.heap h₂ fl' a c→Q () { s₁ with heap:=h₂ }):wpAny (model C.prog C.w) A (noteFrame (.ref a) env) Q E s₁:=by
 refine e2a5 f fun oe vs he hc hd hn hv=>?_
 unfold noteFrame
 simp only [hf]
 rcases hv with ⟨h1,_⟩|⟨T,oT,ts,h1,hTn,hTa,hT,hTc,hTd,h3⟩
 ·refine wpAny_bind (wpAny_field he hd h1 ?_)
  rw [if_neg (by decide)]
  have hsz:=(Array.getElem?_eq_some_iff.mp h1).1
  refine Za7 (C:=C) hfr hl hf he hd hsz fun h₂ T' hT' hTe shk ha₂ hTo=>?_
  have hd₃:=Obj.data_mapFields hd (·.setIfInBounds 1 (Value.ref T'))
  have k:ShkOk C β' (fun b=>b=a) ((env::outer).filterMap (·.frame)) s₁.heap h₂:=Za8 (a:=a) hl hdict shk
   (fun b hb o ho=>by subst hb; rw [he] at ho; obtain rfl:=inj ho; exact ⟨⟨vs,hd⟩,by rw [hc]; intro q; injection q⟩)
   (fun b hb o ho=>by subst hb; rw [he] at ho; obtain rfl:=inj ho; exact ⟨_,_,ha₂,Obj.cls_mapFields _ _,hd₃,Obj.dict_mapFields _ _⟩)
   (fun b hb=>by subst hb; exact hB _ hn)
  refine hq h₂ _ (rawInt L) k (af.shake k (fun b hb=>by subst hb; exact hn) fun i b c' d' q1 q2 e=>hfx i c' d' (e ▸ q1) q2) ?_
  refine e2a4 hTo fun oT ts t1 t2 t3 t4=>?_
  exact ⟨_,_,T',oT,ts,ha₂,(Obj.cls_mapFields _ _).trans hc,hd₃,hn,by simp [hsz],af.fresh T' hT',hTe,t1,t2,t3,t4⟩
 ·refine wpAny_bind (wpAny_field he hd h1 ?_)
  rw [if_pos (show (Value.ref T != Value.none)=true from by simp)]
  refine wpAny_bind (wpAny_field hT hTd h3 ?_)
  by_cases hfl:(fl == rawInt L)=true
  ·rw [if_pos hfl]
   have k:ShkOk C β' (fun _=>False) ((env::outer).filterMap (·.frame)) s₁.heap s₁.heap:=Za8 (a:=a) hl hdict (fun b o ho _=>.inl ho) (fun b hb=>hb.elim) (fun b hb=>hb.elim) (fun b hb=>hb.elim)
   exact wpAny_pure (hq s₁.heap _ fl k af ⟨oe,vs,T,oT,ts,he,hc,hd,hn,h1,hTn,hTa,hT,hTc,hTd,h3⟩)
  rw [if_neg hfl]
  refine wpAny_bind (wpAny_setField hT hTd (Array.getElem?_eq_some_iff.mp h3).1 ?_)
  have hsz:=(Array.getElem?_eq_some_iff.mp h1).1
  have other:∀ b,b≠T→(s₁.heap.update T (Obj.mapFields (·.setIfInBounds 3 Value.none))).get? b=s₁.heap.get? b:=fun b hb=>Heap.get?_update_other _ _ (Ne.symm hb)
  have hTd₂:=Obj.data_mapFields hTd (·.setIfInBounds 3 Value.none)
  have self:=Heap.get?_update_self (Obj.mapFields (·.setIfInBounds 3 Value.none)) hT (Obj.isFreed_of_fields hTd₂)
  have noRecord:∀ b o,s₁.heap.get? b=some o→(∀ vs,o.data≠.fields vs)→b≠T:=fun b o hb hnf q=>by
   rw [q,hT] at hb; obtain rfl:=inj hb; exact hnf ts hTd
  have he':=(other a (Ne.symm hTa)).trans he
  have hl':(s₁.heap.update T (Obj.mapFields (·.setIfInBounds 3 Value.none))).FunFrames C.base (env::outer):=hl.of_keeps fun b o hb hnf=>⟨o,(other b (noRecord b o hb hnf)).trans hb,rfl⟩
  refine Za7 (C:=C) (s:={ s₁ with heap:=s₁.heap.update T (Obj.mapFields (·.setIfInBounds 3 Value.none)) }) hfr hl' hf he' hd hsz fun h₂ T' hT' hTe shk ha₂ hTo=>?_
  have hd₃:=Obj.data_mapFields hd (·.setIfInBounds 1 (Value.ref T'))
  have hT'':s₁.heap.get? T'=none:=by
   by_cases q:T'=T
   ·rw [q] at hT'; rw [self] at hT'; injection hT'
   ·rw [← other T' q]; exact hT'
  have k:ShkOk C β' (DD a (some T)) ((env::outer).filterMap (·.frame)) s₁.heap h₂:=Za8 (a:=a) hl hdict
   (fun b o ho hD=>by
    have hba:b≠a:=fun q=>hD (.inl q)
    have hbT:b≠T:=fun q=>hD (.inr (by rw [q]))
    exact shk b o ((other b hbT).trans ho) hba)
   (fun b hb o ho=>by
    rcases hb with rfl|hb
    ·rw [he] at ho; obtain rfl:=inj ho; exact ⟨⟨vs,hd⟩,by rw [hc]; intro q; injection q⟩
    ·obtain rfl:=inj hb; rw [hT] at ho; obtain rfl:=inj ho; exact ⟨⟨ts,hTd⟩,by rw [hTc]; decide⟩)
   (fun b hb o ho=>by
    rcases hb with rfl|hb
    ·rw [he] at ho; obtain rfl:=inj ho; exact ⟨_,_,ha₂,Obj.cls_mapFields _ _,hd₃,Obj.dict_mapFields _ _⟩
    ·obtain rfl:=inj hb
     rw [hT] at ho; obtain rfl:=inj ho
     rcases shk T _ self hTa with q|⟨_,sl,q⟩
     ·exact ⟨_,_,q,Obj.cls_mapFields _ _,hTd₂,Obj.dict_mapFields _ _⟩
     ·exact ⟨_,_,q,Obj.cls_mapFields _ _,hTd₂,Obj.dict_mapFields _ _⟩)
   (fun b hb=>by
    rcases hb with rfl|hb
    ·exact hB _ hn
    ·obtain rfl:=inj hb; exact hB _ hTn)
  refine hq h₂ _ (rawInt L) k (af.shake k (fun b hb=>by
   rcases hb with rfl|hb
   ·exact hn
   ·obtain rfl:=inj hb; exact hTn) fun i b c' d' q1 q2 e=>by
    rcases e with rfl|e
    ·exact hfx i c' d' q1 q2
    ·obtain rfl:=inj e; exact af.inv.notTrace hT hTc hTd i c' d' q1 q2) ?_
  refine e2a4 hTo fun oT ts t1 t2 t3 t4=>?_
  exact ⟨_,_,T',oT,ts,ha₂,(Obj.cls_mapFields _ _).trans hc,hd₃,hn,by simp [hsz],af.fresh T' hT'',hTe,t1,t2,t3,t4⟩
theorem Zba {X:Addr→Prop} {fl:Value} {a:Addr} {c:Nat} {fo:Option Addr} {Q:Unit→Shared→Prop} (hB:∀ b,s.heap.get? b=none→C.base.get? b=none) (af:After C X β s β' s₁ H') (f:Trc C s.heap s₁.heap fl a c)
  (hq:∀ h₂ D,ShkOk C β' D [] s₁.heap h₂→After C X β s β' { s₁ with heap:=h₂ } H'→Trc C s.heap h₂ (fo.elim Value.none fun f=>rawInt f) a c→Q () { s₁ with heap:=h₂ }):wpAny (model C.prog C.w) A (setFlight (.ref a) fo) Q E s₁:=by
 refine e5a11 f fun oe vs T oT ts he hc hd hn h1 hTn hTa hT hTc hTd h3=>?_
 ·have hsz3:3 < ts.size:=(Array.getElem?_eq_some_iff.mp h3).1
  have other:∀ b,b≠T→(s₁.heap.update T (Obj.mapFields (·.setIfInBounds 3 (fo.elim Value.none fun f=>rawInt f)))).get? b=s₁.heap.get? b:=fun b hb=>Heap.get?_update_other _ _ (Ne.symm hb)
  have hTd₂:=Obj.data_mapFields hTd (·.setIfInBounds 3 (fo.elim Value.none fun f=>rawInt f))
  have self:=Heap.get?_update_self (Obj.mapFields (·.setIfInBounds 3 (fo.elim Value.none fun f=>rawInt f))) hT (Obj.isFreed_of_fields hTd₂)
  unfold setFlight
  refine wpAny_bind (wpAny_field he hd h1 ?_)
  rw [if_pos (show (Value.ref T != Value.none)=true from by simp)]
  refine wpAny_setField hT hTd hsz3 ?_
  have k:ShkOk C β' (fun b=>b=T) [] s₁.heap (s₁.heap.update T (Obj.mapFields (·.setIfInBounds 3 (fo.elim Value.none fun f=>rawInt f)))) :=
   ⟨fun b o ho hD=>.inl ((other b hD).trans ho),fun b hb o ho=>by subst hb; rw [hT] at ho; obtain rfl:=inj ho; exact ⟨⟨ts,hTd⟩,by rw [hTc]; decide⟩,
    fun b hb o ho=>by subst hb; rw [hT] at ho; obtain rfl:=inj ho; exact ⟨_,_,self,Obj.cls_mapFields _ _,hTd₂,Obj.dict_mapFields _ _⟩,fun b hb=>by subst hb; exact hB _ hTn,fun b hb=>(nomatch hb),fun b hb=>(nomatch hb)⟩
  refine hq _ _ k (af.shake k (fun b hb=>by subst hb; exact hTn) fun i b c' d' q1 q2 e=>by subst e; exact af.inv.notTrace hT hTc hTd i c' d' q1 q2) ?_
  exact ⟨oe,vs,T,_,_,(other a (Ne.symm hTa)).trans he,hc,hd,hn,h1,hTn,hTa,self,(Obj.cls_mapFields _ _).trans hTc,hTd₂,by simp [hsz3]⟩
theorem Zbb {X:Addr→Prop} {outer:List Env} {L a:Addr} {c:Nat} {fl:Value} {Q:Unit→Shared→Prop} (hfr:A.frames=some (env::outer)) (hl:s₁.heap.FunFrames C.base (env::outer)) (hdict:∀ b∈(env::outer).filterMap (·.frame),b∉β'∧∀ o,s₁.heap.get? b=some o→∃ es ep,o.data=.dict es ep)
  (hf:env.frame=some L) (hB:∀ b,s.heap.get? b=none→C.base.get? b=none) (af:After C X β s β' s₁ H') (f:Fly C s.heap s₁.heap fl a c) (hfx:∀ (i:Nat) (c:Nat) (d:Option Nat),β'[i]?=some a→H'[i]?=some (.exo c d true)→False)
  (hq:∀ h₂,After C X β s β' { s₁ with heap:=h₂ } H'→Fly C s.heap h₂ .none a c→Q () { s₁ with heap:=h₂ }):wpAny (model C.prog C.w) A (leaving env (.ref a)) Q E s₁:=by
 unfold leaving
 refine wpAny_bind (Za9 hfr hl hdict hf hB af f hfx fun h₂ D fl' k a₂ f₂=>?_)
 exact Zba (fo:=none) hB a₂ f₂ fun h₃ D₃ k₃ a₃ f₃=>hq h₃ a₃ f₃.fly
theorem Zbc {h:Heap}:∀ {l:List Env},(∀ e∈l,Frm C β h e)→h.FunFrames C.base l
 | [],_=>trivial
 | e::l,k=>by
  have f:=k e (List.mem_cons_self ..)
  refine e4a3 f.ns fun m o es ep ho hd _=>?_
  exact ⟨by rw [f.kind]; decide,⟨e.locals,o,f.loc,f.locB,ho,fun vs q=>by rw [hd] at q; injection q⟩,Zbc fun x hx=>k x (List.mem_cons_of_mem _ hx)⟩
theorem Zbd {h:Heap} {l:List Env} (k:∀ e∈l,Frm C β h e):∀ b∈l.filterMap (·.frame),b∉β∧∀ o,h.get? b=some o→∃ es ep,o.data=.dict es ep:=by
 intro b hb
 refine e1a2 (List.mem_filterMap.mp hb) fun e he hfe=>?_
 have f:=k e he
 rw [f.loc] at hfe; obtain rfl:=inj hfe
 refine ⟨f.notL,fun o ho=>?_⟩
 refine e4a3 f.ns fun m o' es ep ho' hd _=>?_
 rw [ho] at ho'; obtain rfl:=inj ho'
 exact ⟨es,ep,hd⟩
theorem Zbe {h h':Heap} {l:List Env} (kk:∀ e∈l,Frm C β h e) (g:Grow (Own env) β h β' h'):h'.FunFrames C.base l∧∀ b∈l.filterMap (·.frame),b∉β'∧∀ o,h'.get? b=some o→∃ es ep,o.data=.dict es ep:=by
 have one:∀ e∈l,e.locals∉β'∧∃ o es ep,h'.get? e.locals=some o∧o.data=.dict es ep:=fun e he=>by
  have f:=kk e he
  refine e4a3 f.ns fun m o es ep ho hd _=>?_
  refine ⟨g.notin ho f.notL,?_⟩
  by_cases q:Own env e.locals
  ·obtain ⟨o',ho',_,hd'⟩:=g.xlive _ q
   obtain ⟨es',ep',hd'⟩:=hd' ⟨o,es,ep,ho,hd⟩
   exact ⟨o',es',ep',ho',hd'⟩
  ·refine e1a2 (g.keep _ o ho f.notL q) fun o' ho' k=>?_
   exact ⟨o',es,ep,ho',by rw [k.data.2]; exact hd⟩
 constructor
 ·clear g
  induction l with
  | nil=>trivial
  | cons e l ih =>
   have f:=kk e (List.mem_cons_self ..)
   refine maeeea (one e (List.mem_cons_self ..)) fun _ o es ep ho hd=>?_
   exact ⟨by rw [f.kind]; decide,⟨e.locals,o,f.loc,f.locB,ho,fun vs q=>by rw [hd] at q; injection q⟩,ih (fun x hx=>kk x (List.mem_cons_of_mem _ hx)) fun x hx=>one x (List.mem_cons_of_mem _ hx)⟩
 ·intro b hb
  refine e1a2 (List.mem_filterMap.mp hb) fun e he hfe=>?_
  rw [(kk e he).loc] at hfe; obtain rfl:=inj hfe
  refine maeeea (one e he) fun hn o es ep ho hd=>?_
  exact ⟨hn,fun o' ho'=>by rw [ho] at ho'; obtain rfl:=inj ho'; exact ⟨es,ep,hd⟩⟩
theorem Zbf {outer:List Env} {a:Addr} {c:Nat} {fl:Value} {β₀:List Addr} {s₀:Shared} (hfr:A.frames=some (env::outer)) (kk:∀ e∈env::outer,Frm C β₀ s₀.heap e) (hg:Grow (Own env) β₀ s₀.heap β' s₁.heap)
  (hB:∀ b,s.heap.get? b=none→C.base.get? b=none) (af:After C (Own env) β s β' s₁ H') (f:Fly C s.heap s₁.heap fl a c) {x:AV} (lk:Lk β' H' a c x)
  (hq:∀ h₂,After C (Own env) β s β' { s₁ with heap:=h₂ } H'→XR C s.heap h₂ β' H' (.ref a) x→E (.ref a) { s₁ with heap:=h₂ }) :
  notedBy (model C.prog C.w) A env (fun e s'=>cameBackBy (model C.prog C.w) A env E e s') (.ref a) s₁:=by
 refine e0a2' (Zbe kk hg) fun hl hdict=>?_
 have hf:=(kk env (List.mem_cons_self ..)).loc
 unfold notedBy
 refine Za9 (C:=C) hfr hl hdict hf hB af f (lk.not af.inv.nodup) fun h₂ D fl' k a₂ t₂=>?_
 unfold cameBackBy
 refine e5a6 (id t₂) fun oe vs T oT ts h1 h2 h3 h4 h5 r=>?_
 refine wpAny_bind (wpAny_field h1 h3 h5 ?_)
 rw [if_neg (show ¬ ((Value.ref T == Value.none)=true) from by simp)]
 exact (Zba (fo:=env.frame) hB a₂ t₂ fun h₃ D₃ k₃ a₃ t₃=>hq h₃ a₃ ⟨a,c,_,rfl,lk,t₃.fly⟩)
end
end Mine
namespace Mine
open PySem PyProof.Rows PySem.Calls PySem.SeqAt
section
variable {C:Cx} {n:Nat} {S:Sco} {β:List Addr} {s:Shared} {H:AH} {A:Around} {Q:Value→Shared→Prop} {E:Value→Shared→Prop}
theorem Stk.seer {mg mb:Str→Option Value} (K:Stk C A β s.heap) (ne:A.frames≠some []) (B:Base C mg mb) (I:Inv C β s.heap H):SeerAt (model C.prog C.w) A s.heap:=by
 refine e1a2 K fun l hl k=>?_
 cases l with
 | nil=>exact absurd hl ne
 | cons e o =>
  have f:=k e List.mem_cons_self
  exact SeerAt.of (B.seer.keeps I.base) B.tree hl f.gen f.co f.builtins f.globals
theorem Zbg (I:Inv C β s.heap H) {a b:Addr} {xs ys:Array Value} {l k:List AV} (hx:s.heap.IsTuple a xs) (hy:s.heap.IsTuple b ys) (ha:a∉β) (hb:b∉β) (vx:VRs C β s.heap xs.toList l) (vy:VRs C β s.heap ys.toList k)
  (hl:l.length+k.length≤1048576) (hp:Pst C Nix (VR C) β s (.ok (.tup (l++k)) H) Q E):wpAny (model C.prog C.w) A (binaryOp .Add (.ref a) (.ref b)) Q E s:=by
 refine meaae (id hx) fun qZ0 ho hc n hd=>?_; obtain ⟨cls,dd,data,sl⟩:=qZ0
 refine meaae (id hy) fun qZ0 ho2 hc2 n2 hd2=>?_; obtain ⟨cls2,dd2,data2,sl2⟩:=qZ0
 simp only at hc hd hc2 hd2
 subst hc hd hc2 hd2
 have h1:=vx.length
 have h2:=vy.length
 simp only [Array.length_toList] at h1 h2
 have hsz:xs.size+ys.size≤sizeLine:=by rw [h1,h2]; exact Nat.le_trans hl (by decide)
 by_cases e1:xs.isEmpty=true
 ·have:l=[]:=List.eq_nil_of_length_eq_zero (by rw [← h1]; simpa using e1)
  subst this
  refine concat_meets ⟨_,ho,rfl⟩ ⟨_,ho2,rfl⟩ noFill_tuple_add seq_tuple_add PySem.F.slot_tuple_add PySem.F.entry_tuple_add (PySem.F.args_tuple_add_2 _ _) (tuple_addW0 a b xs ys n n2 dd dd2 sl sl2 e1) ⟨ho,ho2,?_⟩
  exact hp _ s β (.refl I) (.tup hy hb vy)
 ·by_cases e2:ys.isEmpty=true
  ·have:k=[]:=List.eq_nil_of_length_eq_zero (by rw [← h2]; simpa using e2)
   subst this
   rw [List.append_nil] at hp
   refine concat_meets ⟨_,ho,rfl⟩ ⟨_,ho2,rfl⟩ noFill_tuple_add seq_tuple_add PySem.F.slot_tuple_add PySem.F.entry_tuple_add (PySem.F.args_tuple_add_2 _ _) (tuple_addW1 a b xs ys n n2 dd dd2 sl sl2 e1 e2) ⟨ho,ho2,?_⟩
   exact hp _ s β (.refl I) (.tup hx ha vx)
  ·refine concat_meets ⟨_,ho,rfl⟩ ⟨_,ho2,rfl⟩ noFill_tuple_add seq_tuple_add PySem.F.slot_tuple_add PySem.F.entry_tuple_add (PySem.F.args_tuple_add_2 _ _) (tuple_addW2 a b xs ys n n2 dd dd2 sl sl2 e1 e2 hsz) ⟨ho,ho2,?_⟩
   have a₂:=I.push (s:=s) { cls:=.type "tuple",data:=.seq (xs++ys) } s.toks
   exact hp _ _ _ a₂ (.tup (items:=xs++ys) ⟨_,Heap.get?_push_size _ rfl,rfl,_,rfl⟩ I.new_notin (by simpa using (vx.append vy).mono a₂.grow))
noncomputable def BOp.op:BOp→Operator
 | .add=>.Add|.sub=>.Sub|.mul=>.Mult|.fdiv=>.FloorDiv|.mod=>.Mod|.pow=>.Pow|.rep=>.Mult
theorem Zbh {b:Int} (h:b.natAbs < 2 ^ 60):Builtin.Int.intBits b≤64:=by
 unfold Builtin.Int.intBits
 split
 ·decide
 ·have h0:b.natAbs≠0:=by intro e; simp_all
  have:=(Nat.log2_lt h0).mpr h
  exact Nat.lt_of_lt_of_le (by assumption) (by decide)
theorem Zbi {f:Int→Int→Option AV} {x y:Value} {v u:AV} (vx:VR C β s.heap x v) (vy:VR C β s.heap y u) {r:AV} (h:intOp f v u=some r):∃ i t j t',x=.int i t∧y=.int j t'∧f i j=some r:=by
 cases v <;> first|injection h|(cases u <;> first|injection h|skip)
 refine Exists.elim vx.int_inv fun t eZ1=>?_; subst eZ1
 refine Exists.elim vy.int_inv fun t' eZ1=>?_; subst eZ1
 exact ⟨_,t,_,t',rfl,rfl,h⟩
theorem Zbj {r:Option AV} (hp:Pst C Nix (VR C) β s (toR H r) Q E):∃ v,r=some v∧Pst C Nix (VR C) β s (.ok v H) Q E:=by
 cases r with
 | none=>exact hp.elim
 | some v=>exact ⟨v,rfl,hp⟩
theorem Zbk {v u r:AV} (h:addL H v u=some r):∃ l k,listOf? H v=some l∧listOf? H u=some k∧l.length+k.length≤1048576∧r=.lst (l++k):=by
 unfold addL at h
 cases h1:listOf? H v with
 | none=>rw [h1] at h; injection h
 | some l =>
  cases h2:listOf? H u with
  | none=>rw [h1,h2] at h; injection h
  | some k =>
   rw [h1,h2] at h
   have h:(if l.length+k.length≤1048576 then some (AV.lst (l++k)) else none)=some r:=h
   by_cases hl:l.length+k.length≤1048576
   ·rw [if_pos hl] at h; exact ⟨l,k,rfl,rfl,hl,(inj h).symm⟩
   ·rw [if_neg hl] at h; injection h
theorem Zbl {v u r:AV} (h:addOp H v u=some r):(∃ i j,v=.int i∧u=.int j∧r=.int (i+j))∨(∃ l k,v=.tup l∧u=.tup k∧l.length+k.length≤1048576∧r=.tup (l++k)) ∨
  (∃ l k,listOf? H v=some l∧listOf? H u=some k∧l.length+k.length≤1048576∧r=.lst (l++k)):=by
 cases v with
 | int i=>cases u <;> first|exact .inl ⟨_,_,rfl,rfl,(inj h).symm⟩|injection h
 | tup l =>
  cases u with
  | tup k =>
   have h:(if l.length+k.length≤1048576 then some (AV.tup (l++k)) else none)=some r:=h
   by_cases hl:l.length+k.length≤1048576
   ·rw [if_pos hl] at h; exact .inr (.inl ⟨_,_,rfl,rfl,hl,(inj h).symm⟩)
   ·rw [if_neg hl] at h; injection h
  | _=>injection h
 | _=>exact .inr (.inr (Zbk h))
theorem Zbm (items:Array Value):∀ (n:Nat) (acc:Array Value),(List.foldl (fun x1 x2=>x1++x2) acc (List.replicate n items)).toList=acc.toList++(List.replicate n items.toList).flatten
 | 0,acc=>by simp
 | n+1,acc=>by rw [List.replicate_succ,List.foldl_cons,Zbm items n,List.replicate_succ,List.flatten_cons,Array.toList_append,List.append_assoc]
theorem VRs.rep {h:Heap} {vs:List Value} {ds:List AV} (r:VRs C β h vs ds):∀ n:Nat,VRs C β h (List.replicate n vs).flatten (List.replicate n ds).flatten
 | 0=>.nil
 | n+1=>by rw [List.replicate_succ,List.replicate_succ,List.flatten_cons,List.flatten_cons]; exact r.append (VRs.rep r n)
theorem Zbn (I:Inv C β s.heap H) {a:Addr} {xs:Array Value} {l:List AV} {j:Int} {t:Tok} (hx:s.heap.IsList a xs) (vx:VRs C β s.heap xs.toList l)
  (hl:l.length * j.toNat≤1048576∧-1048576≤j∧j≤1048576) (hp:Pst C Nix (VR C) β s (.ok (.lst (List.replicate j.toNat l).flatten) H) Q E):wpAny (model C.prog C.w) A (binaryOp .Mult (.ref a) (.int j t)) Q E s:=by
 refine meaae (id hx) fun qZ0 ho hc n hd=>?_; obtain ⟨cls,dd,data,sl⟩:=qZ0
 simp only at hc hd
 subst hc hd
 have h1:=vx.length
 simp only [Array.length_toList] at h1
 rw [← h1] at hl
 have a₂:=I.push (s:=s) { cls:=.type "list",data:=.seq (List.foldl (fun x1 x2=>x1++x2) #[] (List.replicate (if xs.isEmpty=true then 0 else j.toNat) xs)) } s.toks
 have hq:VRs C β s.heap (List.foldl (fun x1 x2=>x1++x2) #[] (List.replicate (if xs.isEmpty=true then 0 else j.toNat) xs)).toList (List.replicate j.toNat l).flatten:=by
  rw [Zbm]
  by_cases e:xs.isEmpty=true
  ·have e1:xs.toList=[]:=by simpa using e
   have e2:l=[]:=List.eq_nil_of_length_eq_zero (by rw [← h1]; simpa using e)
   rw [e2]
   simpa [e] using VRs.nil
  ·rw [if_neg e]; simpa using vx.rep j.toNat
 refine wpAny_binaryOp_repeat_ref (T:="list") (U:="int") (by decide) ⟨_,ho,rfl⟩ (fun s'=>typeIs_int s' j t) noFill_list_mul F.fills_int_mul F.slot_int_rmul repeat_list F.slot_int_index.lookup
  (call_meets F.slot_int_rmul (typeIs_int s j t) F.entry_int_rmul (F.args_int_rmul_2 _ _) (lm_int_rmul_list_any j t a xs n dd sl)
   ⟨ho,rfl,⟨_,ho,rfl⟩,call_meets F.slot_list_mul ⟨_,ho,rfl⟩ F.entry_list_mul (F.args_list_mul_2 _ _)
    (lm_list_mul_any a xs n dd sl j t (by simp [Builtin.List.listFitsIndex]; omega) (by omega) (by simp [Builtin.List.listTooLong,sizeLine]; omega))
    ⟨ho,hp _ _ _ a₂ (.lst ⟨_,Heap.get?_push_size _ rfl,rfl,_,rfl⟩ I.new_notin (hq.mono a₂.grow))⟩⟩)
theorem Zbo {v u r:AV} (h:repOp H v u=some r):∃ l j,listOf? H v=some l∧u=.int j∧(l.length * j.toNat≤1048576∧-1048576≤j∧j≤1048576)∧r=.lst (List.replicate j.toNat l).flatten:=by
 unfold repOp at h
 split at h
 ·rename_i l j h1
  split at h
  ·rename_i hl; obtain rfl:=inj h; exact ⟨l,j,h1,rfl,hl,rfl⟩
  ·injection h
 ·injection h
theorem Zbp {mg mb:Str→Option Value} (B:Base C mg mb) (I:Inv C β s.heap H) (R:Room n A) (K:Stk C A β s.heap) (ne:A.frames≠some []) {op:BOp} {x y:Value} {v u:AV} (vx:VR C β s.heap x v) (vy:VR C β s.heap y u)
  (hp:Pst C Nix (VR C) β s (toR H (binop H op v u)) Q E):wpAny (model C.prog C.w) A (binaryOp op.op x y) Q E s:=by
 obtain ⟨r,hr,hp⟩:=Zbj hp
 cases op with
 | add =>
  rcases Zbl hr with ⟨i,j,rfl,rfl,rfl⟩|⟨l,k,rfl,rfl,hl,rfl⟩|⟨l,k,h1,h2,hl,rfl⟩
  ·refine Exists.elim vx.int_inv fun t eZ1=>?_; subst eZ1
   refine Exists.elim vy.int_inv fun t' eZ1=>?_; subst eZ1
   exact add_int (hp _ _ _ (I.toks _) (.int _ _))
  ·refine e2a4 (VR.inv vx) fun _ _ eZ2 hx ha hvx=>?_; subst eZ2
   refine e2a4 (VR.inv vy) fun _ _ eZ2 hy hb hvy=>?_; subst eZ2
   exact Zbg I hx hy ha hb hvx hvy hl hp
  ·refine e2a3 (Za5 I vx h1) fun a xs eZ2 hx hvx=>?_; subst eZ2
   refine e2a3 (Za5 I vy h2) fun b ys eZ2 hy hvy=>?_; subst eZ2
   exact Za6 I hx hy hvx hvy hl hp
 | sub =>
  refine e4a3 (Zbi vx vy hr) fun i t j t' eZ4 eZ5 e=>?_; subst eZ4; subst eZ5
  obtain rfl:=inj e
  exact sub_int' (hp _ _ _ (I.toks _) (.int _ _))
 | mul =>
  refine e4a3 (Zbi vx vy hr) fun i t j t' eZ4 eZ5 e=>?_; subst eZ4; subst eZ5
  split at e
  ·rename_i hl
   obtain rfl:=inj e
   exact P.mul_int (hp _ _ _ (I.toks _) (.int _ _)) (hl.elim (fun h=>.of_right (Zbh h)) fun h=>.of_left (Zbh h))
  ·injection e
 | fdiv =>
  refine e4a3 (Zbi vx vy hr) fun i t j t' eZ4 eZ5 e=>?_; subst eZ4; subst eZ5
  split at e
  ·injection e
  ·rename_i hl
   obtain rfl:=inj e
   exact floordiv_int hl (hp _ _ _ (I.toks _) (.int _ _)) (.inr (PylongRoom.of (B.nolimit.keeps I.base) (by have:=R.depth; unfold Builtin.pylongFrames; omega) (K.seer ne B I)))
 | mod =>
  refine e4a3 (Zbi vx vy hr) fun i t j t' eZ4 eZ5 e=>?_; subst eZ4; subst eZ5
  split at e
  ·injection e
  ·rename_i hl
   obtain rfl:=inj e
   exact mod_int' hl (hp _ _ _ (I.toks _) (.int _ _))
 | pow =>
  refine e4a3 (Zbi vx vy hr) fun i t j t' eZ4 eZ5 e=>?_; subst eZ4; subst eZ5
  split at e
  ·rename_i hl
   obtain rfl:=inj e
   exact pow_int_small hl.1 (by omega) (by have:=hl.2.2; exact Nat.lt_of_lt_of_le (by assumption) (by decide)) (hp _ _ _ (I.toks _) (.int _ _))
  ·injection e
 | rep =>
  refine e2a4 (Zbo hr) fun l j h1 eZ3 hl eZ5=>?_; subst eZ3; subst eZ5
  refine e2a3 (Za5 I vx h1) fun a xs eZ2 hx hvx=>?_; subst eZ2
  refine Exists.elim vy.int_inv fun t eZ1=>?_; subst eZ1
  exact Zbn I hx hvx hl hp
end
end Mine
namespace Mine
open PySem PyProof.Rows PySem.Calls PySem.SeqAt
section
variable {C:Cx} {n:Nat} {S:Sco} {β:List Addr} {s:Shared} {H:AH} {A:Around} {Q:Value→Shared→Prop} {E:Value→Shared→Prop}
theorem Zbq {α γ:Type} {f:α→Option γ} {x:α} {l:List α} {ys:List γ} (h:(x::l).mapM f=some ys):∃ y r,f x=some y∧l.mapM f=some r∧ys=y::r:=by
 rw [List.mapM_cons] at h
 cases hx:f x with
 | none=>rw [hx] at h; injection h
 | some y =>
  rw [hx] at h
  cases hl:l.mapM f with
  | none=>rw [hl] at h; injection h
  | some r=>rw [hl] at h; obtain rfl:=inj h; exact ⟨y,r,rfl,rfl,rfl⟩
theorem Zbr {h:Heap} {k:Nat} (ih:∀ {v:Value} {d:AV} {x:PyData},VR C β h v d→data H k d=some x→∃ as,Reads h v x as) {vs:List Value} {l:List AV} (r:VRs C β h vs l):∀ {xs:List PyData},l.mapM (data H k)=some xs→∃ as,ReadsAll h vs xs as :=
 r.ind (P:=fun vs l=>∀ {xs:List PyData},l.mapM (data H k)=some xs→∃ as,ReadsAll h vs xs as) (fun e=>⟨[],inj e ▸ .nil⟩) fun {_ _ _ _} a _ ih2 {xs} e=>by
  refine e2a3 (Zbq e) fun y ys h1 h2 e4=>?_
  rw [e4]
  refine Exists.elim (ih a h1) fun as ha=>?_
  refine Exists.elim (ih2 h2) fun bs hb=>?_
  exact ⟨as++bs,.cons ha hb⟩
theorem VR.reads {h:Heap} (I:Inv C β h H):∀ (k:Nat) {v:Value} {d:AV} {x:PyData},VR C β h v d→data H k d=some x→∃ as,Reads h v x as
 | 0,_,_,_,_,e=>by injection e
 | k+1,v,d,x,r,e=>by
  have ih:=fun {v:Value} {d:AV} {x:PyData}=>VR.reads (v:=v) (d:=d) (x:=x) I k
  have vi:=r.inv
  cases d with
  | none=>obtain rfl:=inj e; cases vi; exact ⟨_,.none⟩
  | bool b=>obtain rfl:=inj e; cases vi; exact ⟨_,.bool b⟩
  | int i=>obtain rfl:=inj e; refine Exists.elim vi fun t eZ1=>?_; subst eZ1; exact ⟨_,.int i t⟩
  | str y=>obtain rfl:=inj e; refine Exists.elim vi fun t eZ1=>?_; subst eZ1; exact ⟨_,.str y t⟩
  | tup l =>
   refine e2a4 vi fun a items eZ2 ht _ hv=>?_; subst eZ2
   have e:(l.mapM (data H k)).map PyData.tuple=some x:=e
   refine e1a2 (Option.map_eq_some_iff.mp e) fun xs h1 eZ2=>?_; subst eZ2
   refine Exists.elim (Zbr (H:=H) ih hv h1) fun as ha=>?_
   refine meaae ht fun o ho hc n hd=>?_
   exact ⟨as,.tuple ho hc hd ha⟩
  | lst l =>
   refine e2a4 vi fun a items eZ2 ht _ hv=>?_; subst eZ2
   have e:(l.mapM (data H k)).map PyData.list=some x:=e
   refine e1a2 (Option.map_eq_some_iff.mp e) fun xs h1 eZ2=>?_; subst eZ2
   refine Exists.elim (Zbr (H:=H) ih hv h1) fun as ha=>?_
   refine meaae ht fun o ho hc n hd=>?_
   exact ⟨_,.list ho hc hd ha⟩
  | ref i =>
   refine e1a2 vi fun a eZ1 hb=>?_; subst eZ1
   have e:(match H[i]? with|some (.list l)=>(l.mapM (data H k)).map PyData.list|_=>Option.none)=some x:=e
   cases q:H[i]? with
   | none=>rw [q] at e; injection e
   | some o=>cases o with
    | list l =>
     rw [q] at e
     refine e1a2 (I.obj i a _ hb q) fun items hpl hv=>?_
     refine meaae hpl.isList fun o ho hc n hd=>?_
     refine e1a2 (Option.map_eq_some_iff.mp e) fun xs h1 eZ2=>?_; subst eZ2
     refine Exists.elim (Zbr (H:=H) ih hv h1) fun as ha=>?_
     exact ⟨_,.list ho hc hd ha⟩
    | dict l=>rw [q] at e; injection e
    | dictS l=>rw [q] at e; injection e
    | attrs l=>rw [q] at e; injection e
    | exo _ _ _=>rw [q] at e; injection e
  | _=>injection e
theorem Zbs {a b:AV} {c:Bool} (h:eqD H a b=some c):∃ x y,data H 12 a=some x∧data H 12 b=some y∧shaped x=true∧shaped y=true∧c=PyData.eqv x y:=by
 unfold eqD at h
 split at h
 ·rename_i x y hx hy
  split at h
  ·rename_i hs
   simp only [Bool.and_eq_true] at hs
   exact ⟨x,y,hx,hy,hs.1,hs.2,(Option.some.inj h).symm⟩
  ·injection h
 ·injection h
open Classical in
noncomputable def rd (h:Heap) (y:Value):PyData:=if q:∃ d,(∃ as,Reads h y d as)∧shaped d=true then choose q else .none
theorem rd_is {h:Heap} {y:Value} {d:PyData} {as:List Addr} (r:Reads h y d as) (hs:shaped d=true):rd h y=d:=by
 have q:∃ d,(∃ as,Reads h y d as)∧shaped d=true:=⟨d,⟨as,r⟩,hs⟩
 unfold rd
 rw [dif_pos q]
 refine e0a2' (Classical.choose_spec q) fun qZ0 hs'=>?_; obtain ⟨bs,hb⟩:=qZ0
 exact Reads.unique _ _ _ _ _ (canLay_of_shaped hs') hb r
theorem Zbt (I:Inv C β s.heap H) (R:Room n A) {x:Value} {d:AV} (vx:VR C β s.heap x d):∀ {vs:List Value} {l:List AV} {b:Bool},VRs C β s.heap vs l→anyEq H d l=some b →
  vs.any (fun y=>PyData.eqv (rd s.heap y) (rd s.heap x))=b∧∀ y∈vs,EqAt A.in1 s y x (PyData.eqv (rd s.heap y) (rd s.heap x))
 | _,_,_,.nil,e=>by obtain rfl:=inj e; exact ⟨rfl,fun _ hy=>nomatch hy⟩
 | _,_,b,@VRs.cons _ _ _ v vs u us a r,e=>by
  simp only [anyEq] at e
  cases h1:eqD H u d with
  | none=>rw [h1] at e; injection e
  | some c=>cases h2:anyEq H d us with
   | none=>rw [h1,h2] at e; injection e
   | some c' =>
    rw [h1,h2] at e
    obtain rfl:=inj e
    refine e2a5 (Zbs h1) fun dx dy e1 e2 s1 s2 eZ6=>?_; subst eZ6
    refine Exists.elim (a.reads I 12 e1) fun as ra=>?_
    refine Exists.elim (vx.reads I 12 e2) fun bs rb=>?_
    refine e0a2' (Zbt I R vx r h2) fun h3 h4=>?_
    refine ⟨by rw [List.any_cons,h3,rd_is ra s1,rd_is rb s2],fun y hy=>?_⟩
    rcases List.mem_cons.mp hy with rfl|hy
    ·rw [rd_is ra s1,rd_is rb s2]
     refine eqAt_reads _ _ _ _ _ _ _ _ ra rb (canLay_of_shaped s1) (canLay_of_shaped s2) (room_of_shaped s1 ?_)
     have:=R.units
     show A.units+1+64 < cLine; omega
    ·exact h4 y hy
noncomputable def COp.op:COp→CmpOp
 | .eq=>.Eq|.ne=>.NotEq|.lt=>.Lt|.le=>.LtE|.gt=>.Gt|.ge=>.GtE|.is=>.Is|.isNot=>.IsNot|.isIn=>.In|.notIn=>.NotIn
theorem Zbu {h:Heap} {x y:Value} {v u:AV} {c:Bool} (vx:VR C β h x v) (vy:VR C β h y u) (e:isOp v u=some c):y=.none∧plainIs x .none=true∧((c=true∧x=.none)∨(c=false∧x≠.none)):=by
 have hu:u=.none:=by
  cases u <;> first|rfl|injection e
 subst hu
 have hy:y=.none:=by
  exact vy.inv
 refine ⟨hy,?_⟩
 cases vx with
 | none=>obtain rfl:=inj e; exact ⟨rfl,.inl ⟨rfl,rfl⟩⟩
 | bi _ _=>injection e
 | _=>obtain rfl:=inj e; exact ⟨rfl,.inr ⟨rfl,by intro q; injection q⟩⟩
theorem Zbv {f:Int→Int→Bool} {x y:Value} {v u:AV} (vx:VR C β s.heap x v) (vy:VR C β s.heap y u) {r:Bool} (h:cmpI f v u=some r):∃ i t j t',x=.int i t∧y=.int j t'∧f i j=r:=by
 cases v <;> first|injection h|(cases u <;> first|(cases h; done)|skip)
 refine Exists.elim vx.int_inv fun t eZ1=>?_; subst eZ1
 refine Exists.elim vy.int_inv fun t' eZ1=>?_; subst eZ1
 exact ⟨_,t,_,t',rfl,rfl,Option.some.inj h⟩
theorem Zbw (I:Inv C β s.heap H) (R:Room n A) {x y:Value} {v u:AV} {c:Bool} (vx:VR C β s.heap x v) (vy:VR C β s.heap y u) (h:inOp H v u=some c) :
  ∃ a items,y=.ref a∧(s.heap.IsTuple a items∨s.heap.IsList a items)∧items.any (fun z=>PyData.eqv (rd s.heap z) (rd s.heap x))=c∧∀ z∈items,EqAt A.in1 s z x (PyData.eqv (rd s.heap z) (rd s.heap x)):=by
 unfold inOp at h
 split at h
 ·refine e2a4 (VR.inv vy) fun _ _ eZ2 ht _ hv=>?_; subst eZ2
  refine e0a2' (Zbt I R vx hv h) fun q1 q2=>?_
  exact ⟨_,_,rfl,.inl ht,by rw [← Array.any_toList]; exact q1,fun z hz=>q2 z (by simpa using hz)⟩
 ·split at h
  ·rename_i l hl
   obtain ⟨a,items,rfl,hl,hv⟩:=Za5 I vy hl
   refine e0a2' (Zbt I R vx hv h) fun q1 q2=>?_
   exact ⟨a,items,rfl,.inr hl,by rw [← Array.any_toList]; exact q1,fun z hz=>q2 z (by simpa using hz)⟩
  ·injection h
theorem Zbx (I:Inv C β s.heap H) (R:Room n A) {op:COp} {x y:Value} {v u:AV} {c:Bool} (vx:VR C β s.heap x v) (vy:VR C β s.heap y u) (h:cmpop H op v u=some c)
  (hp:Q (.bool c) s):wpAny (model C.prog C.w) A (compareOp op.op x y) Q E s:=by
 have hu:A.units+64 < cLine:=by have:=R.units; omega
 cases op with
 | eq =>
  refine e2a5 (Zbs h) fun dx dy e1 e2 s1 s2 eZ6=>?_; subst eZ6
  refine Exists.elim (vx.reads I 12 e1) fun as ra=>?_
  refine Exists.elim (vy.reads I 12 e2) fun bs rb=>?_
  exact compareEq_shaped ra rb s1 s2 hu hp
 | ne =>
  refine e1a2 (Option.map_eq_some_iff.mp h) fun b hb eZ2=>?_; subst eZ2
  refine e2a5 (Zbs hb) fun dx dy e1 e2 s1 s2 eZ6=>?_; subst eZ6
  refine Exists.elim (vx.reads I 12 e1) fun as ra=>?_
  refine Exists.elim (vy.reads I 12 e2) fun bs rb=>?_
  exact compareNe_shaped ra rb s1 s2 hu hp
 | lt=>refine e4a3 (Zbv vx vy h) fun i t j t' eZ4 eZ5 eZ6=>?_; subst eZ4; subst eZ5; subst eZ6; exact P.lt_int hp
 | le=>refine e4a3 (Zbv vx vy h) fun i t j t' eZ4 eZ5 eZ6=>?_; subst eZ4; subst eZ5; subst eZ6; exact P.le_int hp
 | gt=>refine e4a3 (Zbv vx vy h) fun i t j t' eZ4 eZ5 eZ6=>?_; subst eZ4; subst eZ5; subst eZ6; exact P.gt_int hp
 | ge=>refine e4a3 (Zbv vx vy h) fun i t j t' eZ4 eZ5 eZ6=>?_; subst eZ4; subst eZ5; subst eZ6; exact P.ge_int hp
 | is =>
  obtain ⟨rfl,h1,⟨rfl,rfl⟩|⟨rfl,h3⟩⟩:=Zbu vx vy h
  ·exact wpAny_is_self h1 hp
  ·exact wpAny_is_other h1 h3 hp
 | isNot =>
  refine e1a2 (Option.map_eq_some_iff.mp h) fun b hb eZ2=>?_; subst eZ2
  obtain ⟨rfl,h1,⟨rfl,rfl⟩|⟨rfl,h3⟩⟩:=Zbu vx vy hb
  ·exact wpAny_isNot_self h1 hp
  ·exact wpAny_isNot_other h1 h3 hp
 | isIn =>
  obtain ⟨a,items,rfl,ht|hl,q1,q2⟩:=Zbw I R vx vy h
  ·exact in_tupleAt _ ht q2 (by rw [q1]; exact hp)
  ·exact in_listAt _ hl q2 (by rw [q1]; exact hp)
 | notIn =>
  refine e1a2 (Option.map_eq_some_iff.mp h) fun b hb eZ2=>?_; subst eZ2
  obtain ⟨a,items,rfl,ht|hl,q1,q2⟩:=Zbw I R vx vy hb
  ·exact notIn_tupleAt _ ht q2 (by rw [q1]; exact hp)
  ·exact notIn_listAt _ hl q2 (by rw [q1]; exact hp)
end
end Mine
namespace Mine
open PySem PyProof.Rows PySem.Calls PySem.SeqAt
section
variable {C:Cx} {n:Nat} {S:Sco} {β:List Addr} {s:Shared} {H:AH} {A:Around} {Q:Value→Shared→Prop} {E:Value→Shared→Prop} {mg mb:Str→Option Value}
theorem SE.bin (B:Base C mg mb) {op:BOp} {o:Operator} {l r:Expr} {pos:Pos} {a b:DE} (hl:SE C n S l a) (hr:SE C n S r b) (ho:op.op=o):SE C n S (.BinOp l o r pos) (dBin op a b):=by
 subst ho
 refine ⟨fun A env σ H β s Q E P hp=>?_⟩
 refine wpAny_BinOp (Pst.then hp (fun _ h'=>hl.go A env σ H β s _ E P h') ?_)
 intro x s₁ v H₁ β₁ _ a₁ vx hp₁
 refine Pst.then hp₁ (fun _ h'=>hr.go A env σ H₁ β₁ s₁ _ E (P.after a₁) h') ?_
 intro y s₂ u H₂ β₂ _ a₂ vy hp₂
 exact Zbp B a₂.inv P.room (((P.after a₁).after a₂).stk) P.ne (vx.mono a₂.grow) vy hp₂
theorem Zby {r:Option Bool} (I:Inv C β s.heap H) (hp:Pst C Nix (VR C) β s (toR H (r.map .bool)) Q E):∃ b,r=some b∧Q (.bool b) s:=by
 cases r with
 | none=>exact hp.elim
 | some b=>exact ⟨b,rfl,hp.ok_here I (.bool b)⟩
theorem VR.of_bool {h:Heap} {c:Bool} {v:AV} (r:VR C β h (.bool c) v):v=.bool c:=by
 cases r with
 | bool _=>rfl
 | bi k e=>cases k <;> injection e
theorem tv_end {s':Shared} {r:Rs AV} {c:Bool} {Q:Bool→Shared→Prop} (hq:∃ a H' β',r=.ok a H'∧After C Nix β s β' s' H'∧VR C β' s'.heap (.bool c) a∧Pst C Nix BR β' s' (match a with|.bool b=>Rs.ok b H'|_=>.bad) Q E):Q c s':=by
 refine e3a4 hq fun v H' β' _ a vr hp=>?_
 have e:=vr.of_bool
 subst e
 exact hp.ok_here a.inv rfl
theorem Zbz {ρ α:Type} {X:Addr→Prop} {R:List Addr→Heap→ρ→α→Prop} {v:AV} {f:Bool→Rs α} {Q:ρ→Shared→Prop} (hp:Pst C X R β s (match v with|.bool b=>f b|_=>.bad) Q E):∃ b,v=.bool b:=by
 cases v <;> first|exact hp.elim|exact ⟨_,rfl⟩
theorem av_int {ρ α:Type} {X:Addr→Prop} {R:List Addr→Heap→ρ→α→Prop} {v:AV} {f:Int→Rs α} {Q:ρ→Shared→Prop} (hp:Pst C X R β s (match v with|.int b=>f b|_=>.bad) Q E):∃ b,v=.int b:=by
 cases v <;> first|exact hp.elim|exact ⟨_,rfl⟩
theorem SE.cmp {op:COp} {o:CmpOp} {l r:Expr} {pos:Pos} {a b:DE} (hl:SE C n S l a) (hr:SE C n S r b) (ho:op.op=o) (hm:behindInMarks o r=false):SE C n S (.Compare l [o] [r] pos) (dCmp op a b):=by
 subst ho
 refine ⟨fun A env σ H β s Q E P hp=>?_⟩
 refine wpAny_Compare1 (Pst.then hp (fun _ h'=>hl.go A env σ H β s _ E P h') ?_) hm
 intro x s₁ v H₁ β₁ _ a₁ vx hp₁
 refine Pst.then hp₁ (fun _ h'=>hr.go A env σ H₁ β₁ s₁ _ E (P.after a₁) h') ?_
 intro y s₂ u H₂ β₂ _ a₂ vy hp₂
 refine e1a2 (Zby a₂.inv hp₂) fun c hc hq=>?_
 exact Zbx a₂.inv P.room (vx.mono a₂.grow) vy hc hq
theorem ST.cmp {op:COp} {o:CmpOp} {l r:Expr} {pos:Pos} {a b:DE} (hl:SE C n S l a) (hr:SE C n S r b) (ho:op.op=o) (hm:behindInMarks o r=false):ST C n S (.Compare l [o] [r] pos) (tVal (dCmp op a b)):=by
 subst ho
 refine ⟨fun A env σ H β s Q E P hp=>?_⟩
 have hp:=Pst.bind (R:=VR C) hp
 refine wpAny_isTrue_Compare1 (Pst.then hp (fun _ h'=>hl.go A env σ H β s _ E P h') ?_) hm
 intro x s₁ v H₁ β₁ _ a₁ vx hp₁
 refine Pst.then hp₁ (fun _ h'=>hr.go A env σ H₁ β₁ s₁ _ E (P.after a₁) h') ?_
 intro y s₂ u H₂ β₂ _ a₂ vy hp₂
 refine e1a2 (Zby a₂.inv hp₂) fun c hc hq=>?_
 exact Zbx a₂.inv P.room (vx.mono a₂.grow) vy hc (wpAny_truthy_bool (tv_end hq))
theorem Zb0 {x:Value} {b:Bool} {Q:Bool→Shared→Prop} (vx:VR C β s.heap x (.bool b)) (h:Q b s):wpAny (model C.prog C.w) A (truthy x) Q E s:=by
 have e:x=.bool b:=vx.inv
 rw [e]
 exact wpAny_truthy_bool h
theorem ST.val {e:Expr} {a:DE} (h:SE C n S e a) (he:∀ env whole,isTrue e env whole=(do let v ← whole; standAt e.pos; holding [v] (truthy v))):ST C n S e (tVal a):=by
 refine ⟨fun A env σ H β s Q E P hp=>?_⟩
 refine wpAny_isTrue_value (Pst.then hp (fun _ h'=>h.go A env σ H β s _ E P h') ?_) (he _ _)
 intro x s₁ v H₁ β₁ _ a₁ vx hp₁
 refine Exists.elim (Zbz hp₁) fun b eZ1=>?_; subst eZ1
 exact Zb0 vx (hp₁.ok_here a₁.inv rfl)
theorem ST.not {e:Expr} {pos:Pos} {t:DT} (h:ST C n S e t):ST C n S (.UnaryOp .Not e pos) (tNot t):=by
 refine ⟨fun A env σ H β s Q E P hp=>?_⟩
 refine wpAny_isTrue_Not (Pst.then hp (fun _ h'=>h.go A env σ H β s _ E P h') ?_)
 intro x s₁ v H₁ β₁ _ a₁ vx hp₁
 cases vx
 exact hp₁.ok_here a₁.inv rfl
theorem SE.not {e:Expr} {pos:Pos} {a:DE} (h:SE C n S e a):SE C n S (.UnaryOp .Not e pos) (dNot (tVal a)):=by
 refine ⟨fun A env σ H β s Q E P hp=>?_⟩
 have hp:=Pst.bind (R:=BR) hp
 refine wpAny_UnaryOp (Pst.then hp (fun _ h'=>h.go A env σ H β s _ E P h') ?_)
 intro x s₁ v H₁ β₁ _ a₁ vx hp₁
 refine Exists.elim (Zbz hp₁) fun b eZ1=>?_; subst eZ1
 refine e3a4 (hp₁.ok_here a₁.inv rfl) fun v' H' β' _ a' e hp'=>?_
 rw [← show b=v' from e] at hp'
 exact not_of (Zb0 vx (hp'.ok_here a'.inv (.bool _)))
theorem SE.neg {e:Expr} {pos:Pos} {a:DE} (h:SE C n S e a):SE C n S (.UnaryOp .USub e pos) (dNeg a):=by
 refine ⟨fun A env σ H β s Q E P hp=>?_⟩
 refine wpAny_UnaryOp (Pst.then hp (fun _ h'=>h.go A env σ H β s _ E P h') ?_)
 intro x s₁ v H₁ β₁ _ a₁ vx hp₁
 refine Exists.elim (av_int hp₁) fun i eZ1=>?_; subst eZ1
 refine Exists.elim vx.int_inv fun t eZ1=>?_; subst eZ1
 exact PySem.P.neg_int (hp₁ _ _ _ (a₁.inv.toks _) (.int _ _))
structure SBs (C:Cx) (n:Nat) (S:Sco) (op:BoolOp) (es:List Expr) (d:DE):Prop where
 go:∀ A env σ H β s Q E pos,Pre C n A S env β s σ H→Pst C Nix (VR C) β s (d σ H) Q E→wpAny (model C.prog C.w) A (boolOp pos op (evalEach es env)) Q E s
theorem SBs.one {op:BoolOp} {e:Expr} {a:DE} (h:SE C n S e a):SBs C n S op [e] a:=by
 refine ⟨fun A env σ H β s Q E pos P hp=>?_⟩
 exact h.go A env σ H β s Q E P hp
theorem Zb1 {env:Env} {pos:Pos} {op:BoolOp} {e e':Expr} {es:List Expr}:boolOp pos op (evalEach (e::e'::es) env)=(do
  let v ← eval e env
  standAt pos
  let t ← holding [v] (truthy v)
  match op,t with
  | .And,false|.Or,true=>pure v
  | _,_=>boolOp pos op (evalEach (e'::es) env)):=rfl
theorem av_and {ρ α:Type} {X:Addr→Prop} {R:List Addr→Heap→ρ→α→Prop} {v:AV} {f g:Rs α} {Q:ρ→Shared→Prop} (hp:Pst C X R β s (match v with|.bool true=>f|.bool false=>g|_=>.bad) Q E):v=.bool true∨v=.bool false:=by
 cases v with
 | bool b=>cases b <;> first|exact .inl rfl|exact .inr rfl
 | _=>exact hp.elim
theorem av_or {ρ α:Type} {X:Addr→Prop} {R:List Addr→Heap→ρ→α→Prop} {v:AV} {f g:Rs α} {Q:ρ→Shared→Prop} (hp:Pst C X R β s (match v with|.bool false=>f|.bool true=>g|_=>.bad) Q E):v=.bool false∨v=.bool true:=by
 cases v with
 | bool b=>cases b <;> first|exact .inl rfl|exact .inr rfl
 | _=>exact hp.elim
theorem SBs.and {e e':Expr} {es:List Expr} {a b:DE} (h:SE C n S e a) (r:SBs C n S .And (e'::es) b):SBs C n S .And (e::e'::es) (dAnd a b):=by
 refine ⟨fun A env σ H β s Q E pos P hp=>?_⟩
 rw [Zb1]
 refine wpAny_bind (Pst.then hp (fun _ h'=>h.go A env σ H β s _ E P h') ?_)
 intro x s₁ v H₁ β₁ _ a₁ vx hp₁
 refine wpAny_bind (wpAny_standAt (wpAny_bind (wpAny_holding ?_)))
 rcases av_and hp₁ with e|e <;> subst e <;> refine Zb0 vx ?_
 ·exact r.go A env σ H₁ β₁ s₁ Q E pos (P.after a₁) hp₁
 ·exact wpAny_pure (hp₁.ok_here a₁.inv vx)
theorem SBs.or {e e':Expr} {es:List Expr} {a b:DE} (h:SE C n S e a) (r:SBs C n S .Or (e'::es) b):SBs C n S .Or (e::e'::es) (dOr a b):=by
 refine ⟨fun A env σ H β s Q E pos P hp=>?_⟩
 rw [Zb1]
 refine wpAny_bind (Pst.then hp (fun _ h'=>h.go A env σ H β s _ E P h') ?_)
 intro x s₁ v H₁ β₁ _ a₁ vx hp₁
 refine wpAny_bind (wpAny_standAt (wpAny_bind (wpAny_holding ?_)))
 rcases av_or hp₁ with e|e <;> subst e <;> refine Zb0 vx ?_
 ·exact r.go A env σ H₁ β₁ s₁ Q E pos (P.after a₁) hp₁
 ·exact wpAny_pure (hp₁.ok_here a₁.inv vx)
theorem SE.boolOp {op:BoolOp} {es:List Expr} {pos:Pos} {d:DE} (h:SBs C n S op es d):SE C n S (.BoolOp op es pos) d:=by
 refine ⟨fun A env σ H β s Q E P hp=>?_⟩
 exact h.go A env σ H β s Q E pos P hp
structure STs (C:Cx) (n:Nat) (S:Sco) (op:BoolOp) (es:List Expr) (d:DT):Prop where
 go:∀ A env σ H β s Q E,Pre C n A S env β s σ H→Pst C Nix BR β s (d σ H) Q E→wpAny (model C.prog C.w) A (allTrue op es env) Q E s
theorem STs.andOne {e:Expr} {a:DT} (h:ST C n S e a):STs C n S .And [e] a:=by
 refine ⟨fun A env σ H β s Q E P hp=>?_⟩
 refine wpAny_allTrue_And_cons (h.go A env σ H β s _ E P ?_)
 cases hd:a σ H with
 | ok v K =>
  rw [hd] at hp
  intro x s' β' af hx
  have hq:=hp x s' β' af hx
  cases x with
  | true=>exact wpAny_allTrue_And_nil hq
  | false=>exact hq
 | err _ _=>rw [hd] at hp; exact hp
 | bad=>rw [hd] at hp; exact hp
theorem STs.orOne {e:Expr} {a:DT} (h:ST C n S e a):STs C n S .Or [e] a:=by
 refine ⟨fun A env σ H β s Q E P hp=>?_⟩
 refine wpAny_allTrue_Or_cons (h.go A env σ H β s _ E P ?_)
 cases hd:a σ H with
 | ok v K =>
  rw [hd] at hp
  intro x s' β' af hx
  have hq:=hp x s' β' af hx
  cases x with
  | false=>exact wpAny_allTrue_Or_nil hq
  | true=>exact hq
 | err _ _=>rw [hd] at hp; exact hp
 | bad=>rw [hd] at hp; exact hp
theorem STs.and {e:Expr} {es:List Expr} {a b:DT} (h:ST C n S e a) (r:STs C n S .And es b):STs C n S .And (e::es) (tAnd a b):=by
 refine ⟨fun A env σ H β s Q E P hp=>?_⟩
 refine wpAny_allTrue_And_cons (Pst.then hp (fun _ h'=>h.go A env σ H β s _ E P h') ?_)
 intro x s₁ v H₁ β₁ _ a₁ vx hp₁
 cases vx
 cases x with
 | true=>exact r.go A env σ H₁ β₁ s₁ Q E (P.after a₁) hp₁
 | false=>exact hp₁.ok_here a₁.inv rfl
theorem STs.or {e:Expr} {es:List Expr} {a b:DT} (h:ST C n S e a) (r:STs C n S .Or es b):STs C n S .Or (e::es) (tOr a b):=by
 refine ⟨fun A env σ H β s Q E P hp=>?_⟩
 refine wpAny_allTrue_Or_cons (Pst.then hp (fun _ h'=>h.go A env σ H β s _ E P h') ?_)
 intro x s₁ v H₁ β₁ _ a₁ vx hp₁
 cases vx
 cases x with
 | false=>exact r.go A env σ H₁ β₁ s₁ Q E (P.after a₁) hp₁
 | true=>exact hp₁.ok_here a₁.inv rfl
theorem ST.boolOp {op:BoolOp} {es:List Expr} {pos:Pos} {d:DT} (h:STs C n S op es d):ST C n S (.BoolOp op es pos) d:=by
 refine ⟨fun A env σ H β s Q E P hp=>?_⟩
 exact wpAny_isTrue_BoolOp (h.go A env σ H β s Q E P hp)
theorem Zb2 {value slice:Expr} {o i:Value} {T id:String} (hT:s.TypeIs o T) (hl:typeLookup (.type T) "__getitem__"=pure (some (.builtin id))) (h:wpAny (model C.prog C.w) A (getItem o i) Q E s)
  (hs:subscripted slice false o i=operate [o,i] (getItem o i)):wpAny (model C.prog C.w) A (subscriptTail value slice o i) Q E s:=by
 unfold subscriptTail
 refine wpAny_bind ?_
 rw [getitemInPython_of_ne hT.not_modules]
 refine wpAny_bind (wpAny_specialOf hT hl ?_)
 have fin:wpAny (model C.prog C.w) A (subscripted slice false o i) (fun r s₃=>wpAny (model C.prog C.w) A (letTemporaryGo value o r >>= fun _=>pure r) Q E s₃) E s:=by
  rw [hs]
  exact wpAny_operating (wpAny_mono h (fun r s₃ h₃=>wpAny_bind (wpAny_letTemporaryGo (wpAny_pure h₃))) fun _ _ x=>x)
 first
  | exact wpAny_pure (wpAny_bind fin)
  | exact wpAny_bind (wpAny_pure (wpAny_bind fin))
  | exact wpAny_bind fin
theorem Zb3 {l:List AV} {k:Int} {v:AV} (h:itemAt l k=some v):-1048576≤k∧k≤1048576∧∃ j,seqIndex? k l.length=some j∧l[j]?=some v:=by
 unfold itemAt at h
 split at h
 ·rename_i hk
  refine ⟨hk.1,hk.2,?_⟩
  split at h
  ·rename_i h0
   have:=(List.getElem?_eq_some_iff.mp h).1
   refine ⟨k.toNat,?_,h⟩
   unfold seqIndex?
   simp only [show ¬ k < 0 by omega,if_false,h0,decide_true,Bool.true_and,decide_eq_true_eq]
   rw [if_pos (by omega)]
  ·split at h
   ·rename_i h0 h1
    have:=(List.getElem?_eq_some_iff.mp h).1
    refine ⟨(k+l.length).toNat,?_,h⟩
    unfold seqIndex?
    simp only [show k < 0 by omega,if_true,h1,decide_true,Bool.true_and,decide_eq_true_eq]
    rw [if_pos (by omega)]
   ·injection h
 ·injection h
theorem Zb4 {a:Addr} {items:Array Value} {l:List AV} {k:Int} {t:Tok} {v:AV} (ht:s.heap.IsTuple a items) (hv:VRs C β s.heap items.toList l) (h:itemAt l k=some v) (hq:∀ x,VR C β s.heap x v→Q x s) :
  wpAny (model C.prog C.w) A (getItem (.ref a) (.int k t)) Q E s:=by
 refine maaea (Zb3 h) fun h1 h2 j hj hx=>?_
 refine e1a2 (hv.get hx) fun x hx' hr=>?_
 have hlen:=hv.length
 rw [Array.length_toList] at hlen
 exact PyProof.Rows.getItem_tuple ht (by omega) (by exact Int.lt_of_le_of_lt (by assumption) (by decide)) (by rw [hlen]; exact hj) (by simpa using hx') (hq x hr)
theorem Zb5 {a:Addr} {items:Array Value} {l:List AV} {k:Int} {t:Tok} {v:AV} (ht:s.heap.IsList a items) (hv:VRs C β s.heap items.toList l) (h:itemAt l k=some v) (hq:∀ x,VR C β s.heap x v→Q x s) :
  wpAny (model C.prog C.w) A (getItem (.ref a) (.int k t)) Q E s:=by
 have hlen:=hv.length
 rw [Array.length_toList] at hlen
 unfold itemAt at h
 split at h
 ·rename_i hk
  split at h
  ·rename_i h0
   refine e1a2 (hv.get h) fun x hx' hr=>?_
   exact wpAny_getItem_list ht h0 (by omega) (by simpa using hx') (hq x hr)
  ·split at h
   ·rename_i h0 h1
    refine e1a2 (hv.get h) fun x hx' hr=>?_
    exact wpAny_getItem_list_neg ht (by omega) (by rw [hlen]; omega) (by omega) (by rw [hlen]; simpa using hx') (hq x hr)
   ·injection h
 ·injection h
theorem Zb6 {α:Type} {o:Option (List AV)} {f:List AV→Option α} {r:α} (h:(match o with|some l=>f l|none=>none)=some r):∃ l,o=some l∧f l=some r:=by
 cases o with
 | none=>injection h
 | some l=>exact ⟨l,rfl,h⟩
theorem Zb7 {H:AH} {a i r:AV} (h:subop H a i=some r):∃ k,i=.int k∧((∃ l,a=.tup l∧itemAt l k=some r)∨∃ l,listOf? H a=some l∧itemAt l k=some r):=by
 cases i with
 | int k =>
  refine ⟨k,rfl,?_⟩
  cases a with
  | tup l=>exact .inl ⟨l,rfl,h⟩
  | _=>exact .inr (Zb6 h)
 | _=>injection h
theorem SE.sub {e i:Expr} {pos:Pos} {a b:DE} (h:SE C n S e a) (k:SE C n S i b) (hs:∀ o v,subscripted i false o v=operate [o,v] (getItem o v)):SE C n S (.Subscript e i pos) (dSub a b):=by
 refine ⟨fun A env σ H β s Q E P hp=>?_⟩
 refine Subscript_ (Pst.then hp (fun _ h'=>h.go A env σ H β s _ E P h') ?_)
 intro x s₁ v H₁ β₁ _ a₁ vx hp₁
 refine Pst.then hp₁ (fun _ h'=>k.go A env σ H₁ β₁ s₁ _ E (P.after a₁) h') ?_
 intro y s₂ u H₂ β₂ _ a₂ vy hp₂
 have vx:=vx.mono a₂.grow
 refine e1a2 (Zbj hp₂) fun r hr hp₃=>?_
 refine e1a2 (Zb7 hr) fun i eZ1 q=>?_; subst eZ1
 refine Exists.elim vy.int_inv fun t eZ1=>?_; subst eZ1
 rcases q with ⟨l,rfl,hr⟩|⟨l,hl,hr⟩
 ·refine e2a4 vx.inv fun ad items eZ2 ht _ hv=>?_; subst eZ2
  exact Zb2 (Heap.IsTuple.typeIs' ht) slot_tuple_getitem.lookup (Zb4 ht hv hr fun x hx=>hp₃.ok_here a₂.inv hx) (hs _ _)
 ·obtain ⟨ad,items,rfl,hl,hv⟩:=Za5 a₂.inv vx hl
  exact Zb2 hl.typeIs slot_list_getitem.lookup (Zb5 hl hv hr fun x hx=>hp₃.ok_here a₂.inv hx) (hs _ _)
end
end Mine
namespace Mine
open PySem PyProof.Rows PySem.Calls PySem.SeqAt
section
variable {C:Cx} {n:Nat} {S:Sco} {β:List Addr} {s:Shared} {H:AH} {A:Around} {Q:Value→Shared→Prop} {E:Value→Shared→Prop} {mg mb:Str→Option Value}
theorem Inv.keeps (I:Inv C β s.heap H) {h':Heap} (tk:Nat) (hk:∀ b o,s.heap.get? b=some o→h'.get? b=some o):After C Nix β s β { s with heap:=h',toks:=tk } H:=by
 have g:Grow Nix β s.heap β h':=⟨⟨⟨[],by simp,fun _ ha=>nomatch ha⟩,fun a o e _ _=>⟨o,hk a o e,.refl _⟩,fun _ h=>h.elim⟩,fun _ h=>h.elim⟩
 refine ⟨g,⟨I.len,I.nodup,fun i a ao h1 h2=>?_,fun a o e=>hk _ _ (I.base a o e),I.fresh⟩,h',tk,rfl⟩
 exact (I.obj i a ao h1 h2).keep g.toGrow0 fun _ hob=>hk _ _ hob
noncomputable def Kd.name:Kd→String
 | .none=>"NoneType"|.bool=>"bool"|.int=>"int"|.str=>"str"|.tuple=>"tuple"|.list=>"list"|.dict=>"dict"
noncomputable def allBI:List BI:=[.len,.range,.isinstance,.all,.int,.str,.list,.tuple,.bool,.dict,.valueError]
theorem BI.mem (t:BI):t∈allBI:=by cases t <;> decide
noncomputable def kdChk (k:Kd):Bool:=allBI.all fun t=>match isiK k t with
 | some b=>PySem.W.kitOne [] (.type k.name) t.val == some b
 | none=>true
theorem kd_ok (k:Kd):kdChk k=true:=by cases k <;> kernel_rfl
theorem kd_one {k:Kd} {t:BI} {b:Bool} (h:isiK k t=some b):PySem.W.kitOne [] (.type k.name) t.val=some b:=by
 have:=List.all_eq_true.mp (kd_ok k) t t.mem
 rw [h] at this
 exact beq_iff_eq.mp this
theorem nil_in (h:Heap):PySem.W.Frag.In [] h:=fun _ _ e=>nomatch e
theorem kd_kit (I:Inv C β s.heap H) {x:Value} {v:AV} {k:Kd} (vx:VR C β s.heap x v) (h:kdOf H v=some k):∃ P:Heap→Prop,PySem.W.KitX [] x (.type k.name) P∧P s.heap∧x≠.builtin "__main__.__loader__#opaque":=by
 have vi:=vx.inv
 have lst:∀ {a:Addr} {items:Array Value},s.heap.IsList a items→∃ P:Heap→Prop,PySem.W.KitX [] (.ref a) (.type "list") P∧P s.heap∧(Value.ref a≠.builtin "__main__.__loader__#opaque"):=fun ⟨o,ho,hc,_⟩=>⟨_,PySem.W.kitx_list,⟨o,ho,hc⟩,by intro q; injection q⟩
 cases v with
 | none=>obtain rfl:=inj h; cases vi; exact ⟨_,PySem.W.kitx_none,trivial,by intro q; injection q⟩
 | bool b=>obtain rfl:=inj h; cases vi; exact ⟨_,PySem.W.kitx_bool,trivial,by intro q; injection q⟩
 | int i=>obtain rfl:=inj h; refine Exists.elim vi fun t eZ1=>?_; subst eZ1; exact ⟨_,PySem.W.kitx_int,trivial,by intro q; injection q⟩
 | str y=>obtain rfl:=inj h; refine Exists.elim vi fun t eZ1=>?_; subst eZ1; exact ⟨_,PySem.W.kitx_str,trivial,by intro q; injection q⟩
 | tup l=>obtain rfl:=inj h; refine e2a3 vi fun a items eZ2 qZ3 _=>?_; subst eZ2; refine e1a3 qZ3 fun o ho hc _=>?_; exact ⟨_,PySem.W.kitx_tuple,⟨o,ho,hc⟩,by intro q; injection q⟩
 | lst l=>obtain rfl:=inj h; refine e2a3 vi fun a items eZ2 hl _=>?_; subst eZ2; exact lst hl
 | ref i =>
  refine e1a2 vi fun a eZ1 hb=>?_; subst eZ1
  simp only [kdOf] at h
  cases q:H[i]? with
  | none=>rw [q] at h; injection h
  | some o=>cases o with
   | list l =>
    rw [q] at h
    obtain rfl:=inj h
    refine e1a2 (I.obj i a _ hb q) fun items hl hv=>?_
    exact lst hl.isList
   | dict l =>
    rw [q] at h
    obtain rfl:=inj h
    obtain ⟨kvs,⟨o,es,ep,ho,hx,_⟩,_⟩:=I.obj i a _ hb q
    exact ⟨_,PySem.W.kitx_dict,⟨_,ho,hx.1⟩,by intro q; injection q⟩
   | dictS l =>
    rw [q] at h
    obtain rfl:=inj h
    obtain ⟨xs,o,es,ep,ho,hx,_⟩:=I.obj i a _ hb q
    exact ⟨_,PySem.W.kitx_dict,⟨_,ho,hx.1⟩,by intro q; injection q⟩
   | attrs l=>rw [q] at h; injection h
   | exo _ _ _=>rw [q] at h; injection h
 | _=>injection h
theorem isi_ok (I:Inv C β s.heap H) {x:Value} {v:AV} {t:BI} {b:Bool} (vx:VR C β s.heap x v) (h:isiOp H v t=some b) (hp:∀ tk,Q (.bool b) { s with toks:=tk }) :
  wpAny (model C.prog C.w) A (call (.builtin "isinstance") [x,t.val]) Q E s:=by
 unfold isiOp at h
 cases hk:kdOf H v with
 | none=>rw [hk] at h; injection h
 | some k =>
  rw [hk] at h
  refine e1a3 (kd_kit I vx hk) fun P Z p hx=>?_
  exact PySem.W.kia_one Z (nil_in _) p (kd_one h) hx hp
theorem Zb8:∀ {l:List AV} {b:Bool},allTrue? l=some b→∃ bs:List Bool,l=bs.map .bool∧b=bs.all id
 | [],b,h=>by obtain rfl:=inj h; exact ⟨[],rfl,rfl⟩
 | v::r,b,h=>by
  cases v with
  | bool c =>
   simp only [allTrue?] at h
   refine e1a2 (Option.map_eq_some_iff.mp h) fun d hd eZ2=>?_; subst eZ2
   refine e1a2 (Zb8 hd) fun bs eZ1 eZ2=>?_; subst eZ1; subst eZ2
   exact ⟨c::bs,rfl,rfl⟩
  | _=>injection h
theorem Zb9 {h:Heap}:∀ {vs:List Value} {bs:List Bool},VRs C β h vs (bs.map .bool)→∀ (i:Nat) (v:Value),vs[i]?=some v→∃ b,bs[i]?=some b∧v=.bool b:=by
 intro vs bs
 induction bs generalizing vs with
 | nil=>intro r i v e; rw [r.nil_inv] at e; injection e
 | cons b bs ih =>
  intro r i v e
  obtain ⟨x,ws,rfl,a,r⟩:=r.cons_inv
  cases i with
  | zero=>exact ⟨b,rfl,(inj e).symm.trans a.inv⟩
  | succ i=>exact ih r i v e
theorem Zca (bs:List Bool):((List.range bs.length).all fun i=>(bs[i]?).getD true)=bs.all id:=by
 rw [Bool.eq_iff_iff,List.all_eq_true,List.all_eq_true]
 constructor
 ·intro h b hb
  obtain ⟨i,hi,rfl⟩:=List.getElem_of_mem hb
  have:=h i (List.mem_range.mpr hi)
  simpa [hi] using this
 ·intro h i hi
  have hi:=List.mem_range.mp hi
  have:=h bs[i] (List.getElem_mem hi)
  simpa [hi] using this
theorem Zcb {h':Heap} {o:Obj} (hk:∀ b x,b∉[s.heap.objs.size]→(s.heap.push o).get? b=some x→h'.get? b=some x):∀ b x,s.heap.get? b=some x→h'.get? b=some x :=
 fun b x e=>hk b x (fun hm=>by rw [List.mem_singleton.mp hm] at e; exact Nat.lt_irrefl _ (Heap.lt_size e)) (Heap.get?_push_of_some _ e)
theorem Zcc (b:Int):Builtin.Range.rangeSize 0 b 1=(b.toNat:Int):=by
 unfold Builtin.Range.rangeSize
 simp only [show (1:Int) > 0 by decide,if_true,Int.ediv_one]
 split <;> omega
theorem Zcd {b:Int} (h:-1048576≤b∧b≤1048576):Builtin.Range.small 0 b 1=true:=by
 have hs:=Zcc b
 have f:∀ i:Int,-2000000≤i→i≤2000000→Builtin.Range.rangeFitsLong i=true:=by
  intro i h1 h2
  simp only [Builtin.Range.rangeFitsLong,Bool.and_eq_true,decide_eq_true_eq]
  omega
 unfold Builtin.Range.small
 rw [hs,f 0 (by exact Int.natCast_nonneg _) (by exact Int.natCast_nonneg _),f b (by omega) (by omega),f 1 (by exact Int.natCast_nonneg _) (by exact Int.natCast_nonneg _),f (b.toNat:Int) (by exact Int.natCast_nonneg _) (by omega),if_pos (by decide),f (b+(1 - 1)) (by omega) (by omega)]
 simp
theorem Zce {h:Heap}:∀ {vs:List Value} {l:List AV},vs.length=l.length→(∀ (i:Nat) v d,vs[i]?=some v→l[i]?=some d→VR C β h v d)→VRs C β h vs l
 | [],[],_,_=>.nil
 | [],_::_,e,_=>by simp at e
 | _::_,[],e,_=>by simp at e
 | v::vs,d::l,e,k=>.cons (k 0 v d rfl rfl) (Zce (by simpa using e) fun i x y h1 h2=>k (i+1) x y (by simpa using h1) (by simpa using h2))
theorem Zcf {β:List Addr} {h:Heap} {acc:Array Value} {b:Int} (hit:ItemsOf (fun i v=>∃ t,v=.int (0+i * 1) t) acc b.toNat):VRs C β h acc.toList (rangeL b):=by
 refine Zce (by simp [rangeL,hit.1]) fun i v d h1 h2=>?_
 refine Exists.elim (hit.2 i v (by simpa using h1)) fun t eZ1=>?_; subst eZ1
 have hi:i < b.toNat:=by have:=(List.getElem?_eq_some_iff.mp h2).1; simpa [rangeL] using this
 simp [rangeL,hi] at h2
 subst h2
 have:(0:Int)+(i:Int) * 1=(i:Int):=by omega
 rw [this]; exact .int _ _
theorem seq_at (I:Inv C β s.heap H) {x:Value} {v:AV} {l:List AV} (vx:VR C β s.heap x v) (h:listOf? H v=some l∨v=.tup l) :
  ∃ a T o items m,x=.ref a∧(T="list"∨T="tuple")∧s.heap.get? a=some o∧o.cls=.type T∧o.data=.seq items m∧VRs C β s.heap items.toList l:=by
 rcases h with h|rfl
 ·refine e2a3 (Za5 I vx h) fun a items eZ2 qZ3 hv=>?_; subst eZ2; refine meaae qZ3 fun o ho hc m hd=>?_
  exact ⟨a,"list",o,items,m,rfl,.inl rfl,ho,hc,hd,hv⟩
 ·refine e2a4 vx.inv fun a items eZ2 qZ3 _ hv=>?_; subst eZ2; refine meaae qZ3 fun o ho hc m hd=>?_
  exact ⟨a,"tuple",o,items,m,rfl,.inr rfl,ho,hc,hd,hv⟩
theorem Zcg {v r:AV} (h:lenOp H v=some r):∃ l:List AV,(listOf? H v=some l∨v=.tup l)∧l.length≤1048576∧r=.int l.length:=by
 unfold lenOp at h
 split at h
 ·rename_i l
  split at h
  ·rename_i hl; exact ⟨l,.inr rfl,hl,(Option.some.inj h).symm⟩
  ·injection h
 ·split at h
  ·rename_i l hl
   split at h
   ·rename_i hn; exact ⟨l,.inl hl,hn,(Option.some.inj h).symm⟩
   ·injection h
  ·injection h
theorem len_ok (I:Inv C β s.heap H) {x:Value} {v r:AV} (vx:VR C β s.heap x v) (h:lenOp H v=some r) (hp:Pst C Nix (VR C) β s (.ok r H) Q E):wpAny (model C.prog C.w) A (call (.builtin "len") [x]) Q E s:=by
 refine e1a3 (Zcg h) fun l hl hn eZ3=>?_; subst eZ3
 refine e5a6 (seq_at I vx hl) fun a T o items m eZ5 hT ho hc hd hv=>?_; subst eZ5
 have hlen:=hv.length
 rw [Array.length_toList] at hlen
 rw [← hlen] at hp
 rcases hT with rfl|rfl
 ·exact len_list ⟨o,ho,hc,m,hd⟩ (by omega) (hp _ _ _ (I.toks _) (.int _ _))
 ·exact len_tuple ⟨o,ho,hc,m,hd⟩ (by omega) (hp _ _ _ (I.toks _) (.int _ _))
theorem Zch (I:Inv C β s.heap H) {x:Value} {v r:AV} (vx:VR C β s.heap x v) (h:Zat v=some r) (hp:Pst C Nix (VR C) β s (.ok r H) Q E):wpAny (model C.prog C.w) A (call (.type "range") [x]) Q E s:=by
 cases v with
 | int b =>
  simp only [Zat] at h
  split at h
  ·obtain rfl:=inj h
   refine Exists.elim vx.inv fun t eZ1=>?_; subst eZ1
   exact call_range_1 (hp _ _ _ (I.push _ _) (.rng (Heap.get?_push_size _ rfl) I.new_notin))
  ·injection h
 | _=>injection h
theorem all_ok (I:Inv C β s.heap H) (hh:A.handled=none) {x:Value} {v r:AV} (vx:VR C β s.heap x v) (h:allOp H v=some r) (hp:Pst C Nix (VR C) β s (.ok r H) Q E):wpAny (model C.prog C.w) A (call (.builtin "all") [x]) Q E s:=by
 unfold allOp at h
 cases hl:listOf? H v with
 | none=>rw [hl] at h; injection h
 | some l =>
  rw [hl] at h
  refine e1a2 (Option.map_eq_some_iff.mp h) fun b hb eZ2=>?_; subst eZ2
  refine e1a2 (Zb8 hb) fun bs eZ1 eZ2=>?_; subst eZ1; subst eZ2
  obtain ⟨a,items,rfl,hl,hv⟩:=Za5 I vx hl
  have hlt:a < s.heap.objs.size:=by refine e1a2 hl fun _ e _=>?_; exact Heap.lt_size e
  refine call_all_walk (wpAny_pyIter_list hl ?_)
  refine ⟨s.heap.objs.size,[s.heap.objs.size,a],[s.heap.objs.size],items.size,_,_,fun i=>(bs[i]?).getD true,rfl,Walks.list (A:=A.in1) hh _ a (Nat.ne_of_lt hlt) items,
   ⟨⟨_,Heap.get?_push_size _ rfl,rfl,rfl⟩,hl.push _⟩,fun i v s' Q' E' hP hQ=>?_,fun h' tk hk=>?_⟩
  ·refine e1a2 (Zb9 hv i v (by simpa using hP)) fun b e eZ2=>?_; subst eZ2
   simp only [e,Option.getD_some] at hQ
   exact wpAny_truthy_bool hQ
  ·have e:((List.range items.size).all fun i=>(bs[i]?).getD true)=bs.all id:=by
    rw [← Array.length_toList,hv.length,List.length_map]; exact Zca bs
   rw [e]
   exact hp _ _ _ (I.keeps tk (Zcb hk)) (.bool _)
theorem int_ok (I:Inv C β s.heap H) {x:Value} {v r:AV} (vx:VR C β s.heap x v) (h:intOf v=some r) (hp:Pst C Nix (VR C) β s (.ok r H) Q E):wpAny (model C.prog C.w) A (call (.type "int") [x]) Q E s:=by
 cases v with
 | bool b =>
  obtain rfl:=inj h
  have e:=vx.inv
  cases e
  exact call_int_bool (hp _ _ _ (I.toks _) (.int _ _))
 | _=>injection h
theorem str_ok (I:Inv C β s.heap H) {x:Value} {v r:AV} (vx:VR C β s.heap x v) (h:strOf v=some r) (hp:Pst C Nix (VR C) β s (.ok r H) Q E):wpAny (model C.prog C.w) A (call (.type "str") [x]) Q E s:=by
 cases v with
 | int i =>
  simp only [strOf] at h
  split at h
  ·rename_i hi
   obtain rfl:=inj h
   refine Exists.elim vx.inv fun t eZ1=>?_; subst eZ1
   refine PySem.P.str_of_int ?_ (hp _ _ _ (I.toks _) (.str _ _))
   by_cases h0:i.natAbs=0
   ·rw [h0]; decide
   ·have:=(Nat.log2_lt h0).mpr hi
    exact Nat.lt_of_lt_of_le (by assumption) (by decide)
  ·injection h
 | _=>injection h
theorem Zci {v r:AV} (h:listOp H v=some r):(∃ l:List AV,(listOf? H v=some l∨v=.tup l)∧l.length≤1048576∧r=.lst l)∨∃ b,v=.rng b∧(-1048576≤b∧b≤1048576)∧r=.lst (rangeL b):=by
 unfold listOp at h
 split at h
 ·rename_i l
  split at h
  ·rename_i hl; exact .inl ⟨l,.inr rfl,hl,(Option.some.inj h).symm⟩
  ·injection h
 ·split at h
  ·rename_i b hb; exact .inr ⟨b,rfl,hb,(Option.some.inj h).symm⟩
  ·injection h
 ·split at h
  ·rename_i l hl
   split at h
   ·rename_i hn; exact .inl ⟨l,.inl hl,hn,(Option.some.inj h).symm⟩
   ·injection h
  ·injection h
theorem Zcj (I:Inv C β s.heap H) (hh:A.handled=none) {x:Value} {v r:AV} (vx:VR C β s.heap x v) (h:listOp H v=some r) (hp:Pst C Nix (VR C) β s (.ok r H) Q E):wpAny (model C.prog C.w) A (call (.type "list") [x]) Q E s:=by
 rcases Zci h with ⟨l,hl,hn,rfl⟩|⟨b,rfl,hb,rfl⟩
 ·refine e5a6 (seq_at I vx hl) fun a T o items m eZ5 hT ho hc hd hv=>?_; subst eZ5
  have hlen:=hv.length
  rw [Array.length_toList] at hlen
  refine call_list_seq a hT ho hc hd (fun h' c' hk hnew=>?_) (by rw [hlen]; exact Nat.le_trans hn (by decide))
  have af:=I.keeps s.toks hk
  exact hp _ _ _ af (.lst (items:=items) ⟨_,hnew,rfl,_,rfl⟩ I.new_notin (hv.mono af.grow))
 ·refine e4a3 vx.inv fun a _ _ _ eZ4 hr' _=>?_; subst eZ4
  refine call_list_range (n:=b.toNat) hh hr' (Zcd hb) (Zcc b) (by have:=hb.2; omega) (fun h' tk acc' c' hk hnew hit=>?_)
  have af:=I.keeps tk hk
  exact hp _ _ _ af (.lst (items:=acc') ⟨_,hnew,rfl,_,rfl⟩ I.new_notin (Zcf hit))
theorem Zck (I:Inv C β s.heap H) {x:Value} {v r:AV} (vx:VR C β s.heap x v) (h:tupOp H v=some r) (hp:Pst C Nix (VR C) β s (.ok r H) Q E):wpAny (model C.prog C.w) A (call (.type "tuple") [x]) Q E s:=by
 unfold tupOp at h
 cases hl:listOf? H v with
 | none=>rw [hl] at h; injection h
 | some l =>
  rw [hl] at h
  simp only at h
  split at h
  ·rename_i hle
   obtain rfl:=inj h
   obtain ⟨a,items,rfl,hl,hv⟩:=Za5 I vx hl
   have hlen:=hv.length
   rw [Array.length_toList] at hlen
   refine call_tuple_list hl (fun h' hk=>?_) (by rw [hlen]; exact Nat.le_trans hle (by decide))
   have af:=I.keeps s.toks hk
   have af2:=af.inv.push (s:={ s with heap:=h' }) { cls:=.type "tuple",data:=.seq items } s.toks
   exact hp _ _ _ (af.trans af2) (.tup (items:=items) ⟨_,Heap.get?_push_size _ rfl,rfl,_,rfl⟩ af.inv.new_notin ((hv.mono af.grow).mono af2.grow))
  ·injection h
theorem Zcl (I:Inv C β s.heap H) (hh:A.handled=none) {k:BI} {xs:List Value} {vs:List AV} (vx:VRs C β s.heap xs vs)
  (hp:Pst C Nix (VR C) β s (toR H (appBI H k vs)) Q E):wpAny (model C.prog C.w) A (call k.val xs) Q E s:=by
 refine e1a2 (Zbj hp) fun r hr hq=>?_
 clear hp
 match vs,vx,hr with
 | [],_,hr=>injection hr
 | [v],vx,hr =>
   refine e1a2 vx.one_inv fun x eZ1 a=>?_; subst eZ1
   cases k
   case len=>exact len_ok I a hr hq
   case range=>exact Zch I a hr hq
   case all=>exact all_ok I hh a hr hq
   case int=>exact int_ok I a hr hq
   case list=>exact Zcj I hh a hr hq
   case tuple=>exact Zck I a hr hq
   case str=>exact str_ok I a hr hq
   all_goals injection hr
 | _::u::_::_,_,hr=>cases u <;> injection hr
 | [v,u],vx,hr =>
    refine e2a3 vx.two_inv fun x y e a b=>?_
    subst e
    cases u with
    | bi t =>
     have e:=b.inv
     cases e
     cases k
     case isinstance =>
      refine e1a2 (Option.map_eq_some_iff.mp (show (isiOp H v t).map AV.bool=some r from hr)) fun c hc eZ2=>?_; subst eZ2
      exact isi_ok I a hc fun tk=>hq _ _ _ (I.toks tk) (.bool c)
     all_goals injection hr
    | _=>injection hr
end
end Mine
namespace Mine
open PySem PyProof.Rows PySem.Calls PySem.SeqAt
noncomputable def FlR (C:Cx) (β:List Addr) (h:Heap):Flow→Fl→Prop
 | .next,.next=>True
 | .ret x,.ret v=>VR C β h x v
 | _,_=>False
noncomputable def FR (C:Cx) (S:Sco) (env:Env) (β:List Addr) (h:Heap) (f:Flow) (p:Fl×Loc):Prop:=FlR C β h f p.1∧ER C S env β h p.2
noncomputable def NoFree (A:Around) (env:Env):Prop:=(∀ x,env.kindOf x≠some .free)∧∃ outer,A.frames=some (env::outer)
structure SS (C:Cx) (n:Nat) (S:Sco) (st:Stmt) (d:DS):Prop where
 go:∀ A env σ H β s Q E,NoFree A env→Pre C n A S env β s σ H→Pst C (Own env) (FR C S env) β s (d σ H) Q E→wpAny (model C.prog C.w) A (exec st env) Q E s
structure SSs (C:Cx) (n:Nat) (S:Sco) (sts:List Stmt) (d:DS):Prop where
 go:∀ A env σ H β s Q E,NoFree A env→Pre C n A S env β s σ H→Pst C (Own env) (FR C S env) β s (d σ H) Q E→wpAny (model C.prog C.w) A (execs sts env) Q E s
section
variable {C:Cx} {n:Nat} {S:Sco} {env:Env} {β β':List Addr} {s s':Shared} {σ σ':Loc} {H H':AH} {A:Around} {Q:Flow→Shared→Prop} {E:Value→Shared→Prop} {mg mb:Str→Option Value}
theorem Stk.monoS {h h':Heap} (K:Stk C A β h) (g:Grow (Own env) β h β' h') (e:ER C S env β h σ) (e':ER C S env β' h' σ'):Stk C A β' h':=by
 refine e1a2 K fun l hl k=>?_
 refine ⟨l,hl,fun x hx=>(k x hx).mono g fun hq=>?_⟩
 rcases hq with hq|⟨z,hz⟩
 ·rw [hq]; refine e1a2 e'.vars fun m hm _=>?_; exact ⟨m,hm⟩
 ·refine e4a3 ((k x hx).ns) fun m o es ep ho hd _=>?_
  obtain ⟨⟨v,o',ho',hd'⟩,_⟩:=e.cell z _ hz
  rw [ho] at ho'; obtain rfl:=inj ho'
  rw [hd] at hd'; injection hd'
theorem Pre.afterS (p:Pre C n A S env β s σ H) (a:After C (Own env) β s β' s' H') (e:ER C S env β' s'.heap σ'):Pre C n A S env β' s' σ' H' :=
 ⟨a.inv,e,p.room,p.calm,p.stk.monoS a.grow p.env e,p.ne⟩
theorem Pre.own (p:Pre C n A S env β s σ H):∀ a,Own env a→a∉β∧∃ o,s.heap.get? a=some o∧Slotty o:=p.env.own
theorem SSs.nil:SSs C n S [] sNil:=by
 refine ⟨fun A env σ H β s Q E F P hp=>?_⟩
 exact wpAny_execs_nil (hp _ s β ((After.refl P.inv).weaken P.own) ⟨trivial,P.env⟩)
theorem SSs.cons {st:Stmt} {sts:List Stmt} {a b:DS} (h:SS C n S st a) (r:SSs C n S sts b):SSs C n S (st::sts) (sSeq a b):=by
 refine ⟨fun A env σ H β s Q E F P hp=>?_⟩
 refine wpAny_execs_cons (wpAny_mono (h.go A env σ H β s _ E F P (Pst.bind hp)) ?_ fun _ _ e=>e)
 intro f s₁ hZ; refine e3a4 hZ fun qZ0 H₁ β₁ _ a₁ qZ5 hp₁=>?_; obtain ⟨fl,σ₁⟩:=qZ0; refine e0a2' qZ5 fun hf he=>?_
 cases fl with
 | next =>
  cases f with
  | next=>exact r.go A env σ₁ H₁ β₁ s₁ Q E F (P.afterS a₁ he) hp₁
  | _=>exact hf.elim
 | ret v =>
  cases f with
  | ret x=>exact hp₁ _ s₁ β₁ ((After.refl a₁.inv).weaken he.own) ⟨hf,he⟩
  | _=>exact hf.elim
theorem SSs.one {st:Stmt} {a:DS} (h:SS C n S st a):SSs C n S [st] a:=by
 refine ⟨fun A env σ H β s Q E F P hp=>?_⟩
 refine wpAny_execs_cons (h.go A env σ H β s _ E F P ?_)
 cases hd:a σ H with
 | ok p K =>
  rw [hd] at hp
  intro f s' β' af hr
  have hq:=hp f s' β' af hr
  cases f with
  | next=>exact wpAny_execs_nil hq
  | _=>exact hq
 | err _ _=>rw [hd] at hp; exact hp
 | bad=>rw [hd] at hp; exact hp
theorem SS.ret {e:Expr} {pos:Pos} {a:DE} (h:SE C n S e a):SS C n S (.Return (some e) pos) (sRet a):=by
 refine ⟨fun A env σ H β s Q E F P hp=>?_⟩
 refine wpAny_Return_some (Pst.thenE P.own hp (fun _ h'=>h.go A env σ H β s _ E P h') ?_)
 intro x s₁ v H₁ β₁ _ a₁ vx hp₁
 exact hp₁ _ s₁ β₁ ((After.refl a₁.inv).weaken (P.after a₁).own) ⟨vx,(P.after a₁).env⟩
theorem SS.ifs {t:Expr} {b o:List Stmt} {pos:Pos} {c:DT} {x y:DS} (ht:ST C n S t c) (hb:SSs C n S b x) (ho:SSs C n S o y):SS C n S (.If t b o pos) (sIf c x y):=by
 refine ⟨fun A env σ H β s Q E F P hp=>?_⟩
 refine wpAny_If (Pst.thenE P.own hp (fun _ h'=>ht.go A env σ H β s _ E P h') ?_)
 intro b' s₁ v H₁ β₁ _ a₁ vx hp₁
 cases vx
 cases b' with
 | true=>exact hb.go A env σ H₁ β₁ s₁ Q E F (P.after a₁) hp₁
 | false=>exact ho.go A env σ H₁ β₁ s₁ Q E F (P.after a₁) hp₁
theorem SS.expr {e:Expr} {pos:Pos} {a:DE} (h:SE C n S e a) (hs:∀ env,swapsWith e none pos.line env=pure false):SS C n S (.Expr e pos) (sExpr a):=by
 refine ⟨fun A env σ H β s Q E F P hp=>?_⟩
 refine wpAny_Expr_any (wpAny_mono (h.go A env σ H β s _ E P (Pst.bindE P.own hp)) ?_ fun _ _ e=>e) ?_ (hs env)
 ·intro x s₁ hZ; refine e3a4 hZ fun v H₁ β₁ _ a₁ vx hp₁=>?_
  exact hp₁ _ s₁ β₁ ((After.refl a₁.inv).weaken (P.after a₁).own) ⟨trivial,(P.after a₁).env⟩
 ·unfold interactive
  simp [P.env.kind]
theorem Inv.ownStore {h':Heap} {a:Addr} (I:Inv C β s.heap H) (e:ER C S env β s.heap σ) (ha:Own env a) (hs:Heap.SameBut a s.heap h') (hl:∃ o,h'.get? a=some o∧Slotty o∧(Dk s.heap a→∃ es ep,o.data=.dict es ep)) (tk:Nat) :
  After C (Own env) β s β { s with heap:=h',toks:=tk } H:=by
 have hna:a∉β:=(e.own a ha).1
 have hba:C.base.get? a=none:=by
  rcases ha with rfl|⟨x,hx⟩
  ·exact e.locB
  ·exact (e.cell x a hx).2.2.1
 have g:Grow (Own env) β s.heap β h':=⟨⟨⟨[],by simp,fun _ h=>nomatch h⟩,fun b o ho _ hx=>⟨o,by rw [hs.2 b (fun q=>hx (q ▸ ha))]; exact ho,.refl _⟩,fun b hb=>(e.own b hb).2⟩,fun b hb=>by
  by_cases q:b=a
  ·rw [q]
   refine e1a3 hl fun o h1 h2 h3=>?_
   exact ⟨o,h1,h2,h3⟩
  ·rw [hs.2 b q]
   refine e1a2 ((e.own b hb).2) fun o h1 h2=>?_
   exact ⟨o,h1,h2,fun ⟨o',es,ep,q1,q2⟩=>by rw [h1] at q1; obtain rfl:=inj q1; exact ⟨es,ep,q2⟩⟩⟩
 refine ⟨g,⟨I.len,I.nodup,fun i b ao h1 h2=>?_,fun b o hb=>?_,I.fresh⟩,h',tk,rfl⟩
 ·have hne:b≠a:=fun q=>hna (q ▸ List.mem_of_getElem? h1)
  exact (I.obj i b ao h1 h2).keep g.toGrow0 fun _ hob=>by rw [hs.2 b hne]; exact hob
 ·have hne:b≠a:=fun q=>by rw [q,hba] at hb; injection hb
  rw [hs.2 b hne]; exact I.base b o hb
theorem Zcm {x:Str} {i:Nat} {y:Value} {v:AV} {Q:Unit→Shared→Prop} (I:Inv C β s.heap H) (e:ER C S env β s.heap σ) (hx:S.Γ.lookup x=some i) (hk:env.kindOf x≠some .free) (vx:VR C β s.heap y v)
  (hq:∀ s',After C (Own env) β s β s' H→ER C S env β s'.heap (upd σ i v)→Q () s'):wpAny (model C.prog C.w) A (storeName env x y) Q E s:=by
 refine e1a2 e.vars fun m hm hv=>?_
 have hji:∀ {z:Str} {j:Nat},z≠x→S.Γ.lookup z=some j→j≠i:=fun q hz q'=>q (e.slots _ x i (by rw [← q']; exact hz) hx)
 rcases hv x i hx with ⟨hl,r⟩|⟨hc,c,w,hcl,hcw,r⟩
 ·refine wpAny_storeName_local hl hm (fun h' hn hs=>?_) (by rw [e.kind]; rfl)
  have af:=I.ownStore e (.inl rfl) hs (by refine e3a3 hn fun o es ep ho hd _=>?_; exact ⟨o,ho,.inl ⟨es,ep,hd⟩,fun _=>⟨es,ep,hd⟩⟩) (s.toks+1)
  refine hq _ af ⟨e.kind,e.globals,e.builtins,e.notL,e.locB,e.glo,e.cap,e.loc,fun z c hz=>?_,e.apart,e.slots,_,hn,fun z j hz=>?_⟩
  ·refine e0a4 (e.cell z c hz) fun qZ0 h1 h2 h3=>?_; refine e2a2 qZ0 fun w o ho hd=>?_
   exact ⟨⟨w,o,by show h'.get? c=_; rw [hs.2 c h3]; exact ho,hd⟩,h1,h2,h3⟩
  ·rcases hv z j hz with ⟨hl',r'⟩|⟨hc',c',w',hcl',hcw',r'⟩
   ·refine .inl ⟨hl',?_⟩
    by_cases q:z=x
    ·subst q
     rw [hx] at hz; obtain rfl:=inj hz
     rw [upd_self,if_pos rfl]
     exact ⟨y,rfl,vx.mono af.grow⟩
    ·rw [if_neg q,upd_ne _ _ (hji q hz)]
     exact r'.mono af.grow
   ·have q:z≠x:=fun q=>by subst q; rw [hl] at hc'; rcases hc' with h|h <;> cases h
    refine .inr ⟨hc',c',w',hcl',?_,?_⟩
    ·refine e1a2 hcw' fun o ho hd=>?_
     exact ⟨o,by show h'.get? c'=_; rw [hs.2 c' (e.cell z c' hcl').2.2.2]; exact ho,hd⟩
    ·rw [upd_ne _ _ (hji q hz)]
     exact r'.mono af.grow
 ·rcases hc with hc|hc
  ·refine wpAny_storeName_cell e.kind hc hcl hcw fun h' hn hs=>?_
   have hcL:=(e.cell x c hcl).2.2.2
   have af:=I.ownStore e (.inr ⟨x,hcl⟩) hs (by refine e1a2 hn fun o ho hd=>?_; exact ⟨o,ho,.inr (.inl ⟨_,hd⟩),fun ⟨o₁,es,ep,q1,q2⟩=>by refine e1a2 hcw fun o₂ q3 q4=>?_; rw [q3] at q1; obtain rfl:=inj q1; rw [q4] at q2; injection q2⟩) s.toks
   have hm':h'.Ns env.locals m:=by
    refine e3a2 hm fun o es ep ho hr=>?_
    exact ⟨o,es,ep,by rw [hs.2 _ (Ne.symm hcL)]; exact ho,hr⟩
   refine hq _ af ⟨e.kind,e.globals,e.builtins,e.notL,e.locB,e.glo,e.cap,e.loc,fun z c' hz=>?_,e.apart,e.slots,m,hm',fun z j hz=>?_⟩
   ·refine e0a4 (e.cell z c' hz) fun qZ0 h1 h2 h3=>?_; refine e2a2 qZ0 fun w o ho hd=>?_
    by_cases q:c'=c
    ·subst q; exact ⟨⟨_,hn⟩,h1,h2,h3⟩
    ·exact ⟨⟨w,o,by show h'.get? c'=_; rw [hs.2 c' q]; exact ho,hd⟩,h1,h2,h3⟩
   ·rcases hv z j hz with ⟨hl',r'⟩|⟨hc',c',w',hcl',hcw',r'⟩
    ·have q:z≠x:=fun q=>by subst q; rw [hc] at hl'; cases hl'
     rw [upd_ne _ _ (hji q hz)]
     exact .inl ⟨hl',r'.mono af.grow⟩
    ·by_cases q:z=x
     ·subst q
      rw [hx] at hz; obtain rfl:=inj hz
      rw [hcl] at hcl'; obtain rfl:=inj hcl'
      rw [upd_self]
      exact .inr ⟨hc',c,_,hcl,hn,y,rfl,vx.mono af.grow⟩
     ·rw [upd_ne _ _ (hji q hz)]
      refine .inr ⟨hc',c',w',hcl',?_,r'.mono af.grow⟩
      refine e1a2 hcw' fun o ho hd=>?_
      exact ⟨o,by show h'.get? c'=_; rw [hs.2 c' (fun q'=>q (e.apart z x c (q' ▸ hcl') hcl))]; exact ho,hd⟩
  ·exact absurd hc hk
theorem SS.asg {x:Str} {p:Pos} {e:Expr} {pos:Pos} {i:Nat} {a:DE} (h:SE C n S e a) (hx:S.Γ.lookup x=some i) (hs:∀ env,swapsWith e (some (.Name x p)) pos.line env=pure false):SS C n S (.Assign [.Name x p] e pos) (sAsg i a):=by
 refine ⟨fun A env σ H β s Q E F P hp=>?_⟩
 refine wpAny_Assign_Name (Pst.thenE P.own hp (fun _ h'=>h.go A env σ H β s _ E P h') ?_) (hs env)
 intro y s₁ v H₁ β₁ _ a₁ vx hp₁
 exact Zcm a₁.inv (P.after a₁).env hx (F.1 x) vx fun s' af er=>hp₁ _ s' β₁ af ⟨trivial,er⟩
end
end Mine
namespace Mine
open PySem PyProof.Rows PySem.Calls PySem.SeqAt
section
variable {C:Cx} {n:Nat} {S:Sco} {env:Env} {β β':List Addr} {s s':Shared} {σ σ':Loc} {H H':AH} {A:Around} {E:Value→Shared→Prop} {mg mb:Str→Option Value}
structure Itr (C:Cx) (A:Around) (β:List Addr) (h:Heap) (src:AH→Option (List AV)) (I:Addr) (fp:List Addr) (St:Nat→Heap→Prop):Prop where
 item:∀ i (s:Shared) (X:Addr→Prop) β' H l d (Q:Option Value→Shared→Prop) (E:Value→Shared→Prop),Inv C β' s.heap H→Grow X β h β' s.heap→St i s.heap→src H=some l→l[i]?=some d →
  (∀ v h' tk,VR C β' s.heap v d→St (i+1) h'→(∀ b o,b∉[I]→s.heap.get? b=some o→h'.get? b=some o)→Q (some v) { s with heap:=h',toks:=tk })→wpAny (model C.prog C.w) A (pyNext (.ref I)) Q E s
 done:∀ i (s:Shared) (X:Addr→Prop) β' H l (Q:Option Value→Shared→Prop) (E:Value→Shared→Prop),Inv C β' s.heap H→Grow X β h β' s.heap→St i s.heap→src H=some l→l.length=i →
  (∀ h' tk,(∀ b o,b∉[I]→s.heap.get? b=some o→h'.get? b=some o)→Q none { s with heap:=h',toks:=tk })→wpAny (model C.prog C.w) A (pyNext (.ref I)) Q E s
 self:∀ i (s:Shared) (Q:Value→Shared→Prop) (E:Value→Shared→Prop),St i s.heap→Q (.ref I) s→wpAny (model C.prog C.w) A (pyIter (.ref I)) Q E s
 frame:∀ i h h',St i h→(∀ b∈fp,∀ o,h.get? b=some o→h'.get? b=some o)→St i h'
 new:h.get? I=none
 foot:∀ b∈fp,b≠I→b∉β∧(∃ o,h.get? b=some o)∧∀ i h' o,St i h'→h'.get? b=some o→∃ vs m,o.data=.seq vs m
 obj:∀ i h',St i h'→∃ o T,h'.get? I=some o∧o.cls=.type T∧(∃ vs,o.data=.fields vs)∧T∈["list_iterator","tuple_iterator","range_iterator"]
theorem Itr.of {β:List Addr} {h:Heap} {l:List AV} {J:Addr} {fp:List Addr} {P:Nat→Value→Prop} {St:Nat→Heap→Prop} (walks:Walks C.prog C.w A J fp [J] l.length P St) (new:h.get? J=none) (vals:∀ i v d,P i v→l[i]?=some d→VR C β h v d)
  (foot:∀ b∈fp,b≠J→b∉β∧(∃ o,h.get? b=some o)∧∀ i h' o,St i h'→h'.get? b=some o→∃ vs m,o.data=.seq vs m)
  (obj:∀ i h',St i h'→∃ o T,h'.get? J=some o∧o.cls=.type T∧(∃ vs,o.data=.fields vs)∧T∈["list_iterator","tuple_iterator","range_iterator"]):Itr C A β h (fun _=>some l) J fp St where
 item:=fun i s X β' H l' d Q E _ g st hl hd hq=>by
  obtain rfl:=inj hl
  exact walks.item i s Q E (List.getElem?_eq_some_iff.mp hd).1 st fun v h' tk hP st' hk=>hq v h' tk ((vals i v d hP hd).mono g) st' hk
 done:=fun i s X β' H l' Q E _ g st hl hi hq=>by
  obtain rfl:=inj hl
  subst hi
  exact walks.done s Q E st hq
 self:=walks.self
 frame:=walks.frame
 new:=new
 foot:=foot
 obj:=obj
theorem Zcn {x:Value} {v:AV} {l:List AV} {Q:Value→Shared→Prop} (I:Inv C β s.heap H) (hh:A.handled=none) (vx:VR C β s.heap x v) (hi:iter? v=some l)
  (hq:∀ J fp St s₂,After C Nix β s β s₂ H→Itr C A β s.heap (fun _=>some l) J fp St→St 0 s₂.heap→J∉β→Q (.ref J) s₂):wpAny (model C.prog C.w) A (pyIter x) Q E s:=by
 have hnew:s.heap.get? s.heap.objs.size=none:=by
  cases q:s.heap.get? s.heap.objs.size with
  | none=>rfl
  | some o'=>exact absurd (Heap.lt_size q) (Nat.lt_irrefl _)
 cases vx with
 | @tup a items l' ht hn hv =>
  obtain rfl:=inj hi
  have hlen:=hv.length
  rw [Array.length_toList] at hlen
  have hne:a≠s.heap.objs.size:=by refine e1a2 ht fun o ho _=>?_; exact Nat.ne_of_lt (Heap.lt_size ho)
  refine wpAny_pyIter_tuple ht ?_
  have af:=I.push (s:=s) { cls:=.type "tuple_iterator",data:=.fields #[.ref a,.int 0 0] } s.toks
  refine hq _ _ _ _ af (Itr.of (hlen ▸ Walks.tuple hh s.heap.objs.size a hne items) hnew (fun i v d h1 h2=>?_) (fun b hb hbI=>?_) (fun i h' st=>?_)) ⟨⟨_,Heap.get?_push_size _ rfl,rfl,rfl⟩,?_⟩ I.new_notin
  ·refine e1a2 (hv.get h2) fun v' h3 h4=>?_
   rw [Array.getElem?_toList,h1] at h3; obtain rfl:=inj h3; exact h4
  ·simp only [List.mem_cons,List.not_mem_nil,or_false] at hb
   rcases hb with rfl|rfl
   ·exact absurd rfl hbI
   ·exact ⟨hn,(by refine e1a2 ht fun o ho _=>?_; exact ⟨o,ho⟩),fun i h' o st ho=>by refine maeaae st fun _ o' ho' _ m hd=>?_; rw [ho] at ho'; obtain rfl:=inj ho'; exact ⟨_,m,hd⟩⟩
  ·refine e0a2' st fun qZ0 _=>?_; obtain ⟨o,ho,hc,hd⟩:=qZ0; exact ⟨o,_,ho,hc,⟨_,hd⟩,by simp⟩
  ·refine e1a2 ht fun o ho r=>?_; exact ⟨o,Heap.get?_push_of_some _ ho,r⟩
 | @lst a items l' ht hn hv =>
  obtain rfl:=inj hi
  have hlen:=hv.length
  rw [Array.length_toList] at hlen
  have hne:a≠s.heap.objs.size:=by refine e1a2 ht fun o ho _=>?_; exact Nat.ne_of_lt (Heap.lt_size ho)
  refine wpAny_pyIter_list ht ?_
  have af:=I.push (s:=s) { cls:=.type "list_iterator",data:=.fields #[.ref a,.int 0 0] } s.toks
  refine hq _ _ _ _ af (Itr.of (hlen ▸ Walks.list hh s.heap.objs.size a hne items) hnew (fun i v d h1 h2=>?_) (fun b hb hbI=>?_) (fun i h' st=>?_)) ⟨⟨_,Heap.get?_push_size _ rfl,rfl,rfl⟩,?_⟩ I.new_notin
  ·refine e1a2 (hv.get h2) fun v' h3 h4=>?_
   rw [Array.getElem?_toList,h1] at h3; obtain rfl:=inj h3; exact h4
  ·simp only [List.mem_cons,List.not_mem_nil,or_false] at hb
   rcases hb with rfl|rfl
   ·exact absurd rfl hbI
   ·exact ⟨hn,(by refine e1a2 ht fun o ho _=>?_; exact ⟨o,ho⟩),fun i h' o st ho=>by refine maeaae st fun _ o' ho' _ m hd=>?_; rw [ho] at ho'; obtain rfl:=inj ho'; exact ⟨_,m,hd⟩⟩
  ·refine e0a2' st fun qZ0 _=>?_; obtain ⟨o,ho,hc,hd⟩:=qZ0; exact ⟨o,_,ho,hc,⟨_,hd⟩,by simp⟩
  ·refine e1a2 ht fun o ho r=>?_; exact ⟨o,Heap.get?_push_of_some _ ho,r⟩
 | @rng a b t u w hr hn =>
  simp only [iter?] at hi
  split at hi
  ·rename_i hb
   obtain rfl:=inj hi
   have hsz:=Zcc b
   refine wpAny_pyIter_range hr (Zcd hb) ?_
   have af:=I.push (s:=s) { cls:=.type "range_iterator",data:=.fields #[rawInt 0,rawInt (Builtin.Range.rangeSize 0 b 1),rawInt 1] } s.toks
   have hlen:(rangeL b).length=b.toNat:=by simp [rangeL]
   refine hq _ _ _ _ af (Itr.of (Walks.range hh s.heap.objs.size 0 1 (rangeL b).length) hnew (fun i v d h1 h2=>?_) (fun b' hb' hbI=>?_) (fun i h' st=>?_)) ?_ I.new_notin
   ·refine Exists.elim h1 fun t eZ1=>?_; subst eZ1
    have hi:i < b.toNat:=by have:=(List.getElem?_eq_some_iff.mp h2).1; simpa [rangeL] using this
    simp [rangeL,hi] at h2
    subst h2
    have:(0:Int)+(i:Int) * 1=(i:Int):=by omega
    rw [this]; exact .int _ _
   ·simp only [List.mem_cons,List.not_mem_nil,or_false] at hb'
    exact absurd hb' hbI
   ·exact ⟨_,_,st,rfl,⟨_,rfl⟩,by simp⟩
   ·show IsRangeIter _ _ _ _ _
    rw [hlen,show ((0:Int)+((0:Nat):Int) * 1)=0 by simp,show ((b.toNat:Int) - ((0:Nat):Int))=(b.toNat:Int) by simp,← hsz]
    exact Heap.get?_push_size _ rfl
  ·injection hi
 | _=>injection hi
theorem Zco {x:Value} {k:Nat} {l:List AV} {Q:Value→Shared→Prop} (I:Inv C β s.heap H) (hh:A.handled=none) (vx:VR C β s.heap x (.ref k)) (hl:listOf? H (.ref k)=some l)
  (hq:∀ J fp St s₂,After C Nix β s β s₂ H→Itr C A β s.heap (fun H=>listOf? H (.ref k)) J fp St→St 0 s₂.heap→J∉β→Q (.ref J) s₂):wpAny (model C.prog C.w) A (pyIter x) Q E s:=by
 have hnew:s.heap.get? s.heap.objs.size=none:=by
  cases q:s.heap.get? s.heap.objs.size with
  | none=>rfl
  | some o'=>exact absurd (Heap.lt_size q) (Nat.lt_irrefl _)
 refine e2a3 (Za5 I vx hl) fun a items eZ2 ht hv=>?_; subst eZ2
 have hka:β[k]?=some a:=by
  refine e1a2 (VR.inv vx) fun _ e9 h=>?_
  cases e9
  exact h
 have hne:a≠s.heap.objs.size:=by refine e1a2 ht fun o ho _=>?_; exact Nat.ne_of_lt (Heap.lt_size ho)
 refine wpAny_pyIter_list ht ?_
 have af:=I.push (s:=s) { cls:=.type "list_iterator",data:=.fields #[.ref a,.int 0 0] } s.toks
 refine hq _ [s.heap.objs.size] (fun i h=>h.IsListIter s.heap.objs.size a i) _ af ⟨?_,?_,?_,?_,hnew,?_,?_⟩ ⟨_,Heap.get?_push_size _ rfl,rfl,rfl⟩ I.new_notin
 ·intro i s' X β' H' l' d Q E I' g st hl' hd hq
  have vx':VR C β' s'.heap (.ref a) (.ref k):=(VR.ref hka).mono g
  refine e2a3 (Za5 I' vx' hl') fun a' items' e ht' hv'=>?_
  cases e
  refine e1a2 (hv'.get hd) fun v hv1 hv2=>?_
  refine wpAny_pyNext_list_item st ht' (x:=v) (by simpa using hv1) fun h' hit' hs'=>?_
  exact hq v h' s'.toks hv2 hit' fun b o hb e=>hs'.extBut b o (fun h=>hb (by simp [h])) e
 ·intro i s' X β' H' l' Q E I' g st hl' hi hq
  have vx':VR C β' s'.heap (.ref a) (.ref k):=(VR.ref hka).mono g
  refine e2a3 (Za5 I' vx' hl') fun a' items' e ht' hv'=>?_
  cases e
  have hlen:=hv'.length
  rw [Array.length_toList] at hlen
  exact wpAny_pyNext_list_end hh st ht' (by simp; omega) fun h' he'=>hq h' s'.toks fun b o hb e=>he' b o (fun h=>hb (by simp [h])) e
 ·intro i s' Q E st hQ
  exact wpAny_pyIter_listiter st hQ
 ·intro i h h' st hk
  exact st.at fun o e=>hk _ (by simp) o e
 ·intro b hb hbI
  simp only [List.mem_cons,List.not_mem_nil,or_false] at hb
  exact absurd hb hbI
 ·intro i h' st
  refine e1a3 st fun o ho hc hd=>?_
  exact ⟨o,_,ho,hc,⟨_,hd⟩,by simp⟩
theorem Itr.grow {src:AH→Option (List AV)} {J:Addr} {fp:List Addr} {St:Nat→Heap→Prop} {h₀ h h':Heap} {β₀:List Addr} {i j:Nat} (T:Itr C A β₀ h₀ src J fp St) (h1:St i h) (h2:St j h') (hk:∀ b o,b∉[J]→h.get? b=some o→h'.get? b=some o) :
  Grow (fun a=>a=J) β h β h':=by
 have sl:∀ {i h},St i h→∃ o,h.get? J=some o∧Slotty o:=fun st=>by
  refine e2a4 (T.obj _ _ st) fun o T' ho hc qZ4 hT=>?_; refine Exists.elim qZ4 fun vs hd=>?_
  refine ⟨o,ho,.inr (.inr ⟨vs,hd,?_,T',hc⟩)⟩
  rw [hc]
  simp only [List.mem_cons,List.not_mem_nil,or_false] at hT
  rcases hT with rfl|rfl|rfl <;> decide
 exact ⟨⟨⟨[],by simp,fun _ h=>nomatch h⟩,fun a o ho _ hx=>⟨o,hk a o (by simpa using hx) ho,.refl _⟩,fun a ha=>by rw [ha]; exact sl h1⟩,fun a ha=>by
  rw [ha]
  refine e1a2 (sl h2) fun o ho hs=>?_
  refine e2a4 (T.obj _ _ h1) fun o₁ T' ho₁ hc qZ4 hT=>?_; refine Exists.elim qZ4 fun vs hd=>?_
  exact ⟨o,ho,hs,fun ⟨o₂,es,ep,q1,q2⟩=>by rw [ho₁] at q1; obtain rfl:=inj q1; rw [hd] at q2; injection q2⟩⟩
theorem Itr.grow0 {src:AH→Option (List AV)} {J:Addr} {fp:List Addr} {St:Nat→Heap→Prop} {h₀ h h':Heap} {β₀:List Addr} {i:Nat} (T:Itr C A β₀ h₀ src J fp St) (h1:St i h) (hk:∀ b o,b∉[J]→h.get? b=some o→h'.get? b=some o) :
  Grow0 (fun a=>a=J) β h β h' :=
 ⟨⟨[],by simp,fun _ h=>nomatch h⟩,fun a o ho _ hx=>⟨o,hk a o (by simpa using hx) ho,.refl _⟩,fun a ha=>by rw [ha]; exact (T.grow (β:=β) h1 h1 fun _ _ _ e=>e).xs J rfl⟩
theorem Inv.grow {X:Addr→Prop} {h h':Heap} (I:Inv C β h H) (g:Grow0 X β h β h') (hb:∀ a∈β,∀ o,h.get? a=some o→h'.get? a=some o) (hbase:∀ a o,C.base.get? a=some o→h.get? a=some o→h'.get? a=some o):Inv C β h' H :=
 ⟨I.len,I.nodup,fun i a ao h1 h2=>(I.obj i a ao h1 h2).keep g (hb a (List.mem_of_getElem? h1)),fun a o e=>hbase a o e (I.base a o e),I.fresh⟩
noncomputable def TG (C:Cx) (S:Sco) (e:Expr) (t:Tg):Prop :=
 ∀ (A:Around) (env:Env) (σ σ':Loc) (H:AH) (β:List Addr) (s:Shared) (y:Value) (v:AV) (Q:Unit→Shared→Prop) (E:Value→Shared→Prop),A.handled=none→NoFree A env→Inv C β s.heap H→ER C S env β s.heap σ→VR C β s.heap y v→t.bind v σ=some σ' →
  (∀ s',After C (Own env) β s β s' H→ER C S env β s'.heap σ'→Q () s')→wpAny (model C.prog C.w) A (assign e env y) Q E s
noncomputable def LG (e:Expr):Prop:=∀ (prog:Program) (w:World) (A:Around) (J:Addr) (y:Value) (s:Shared) (Q:Unit→Shared→Prop) (E:Value→Shared→Prop),(∃ o T,s.heap.get? J=some o∧o.cls=.type T∧(∃ vs,o.data=.fields vs)∧T∈["list_iterator","tuple_iterator","range_iterator"])→Q () s →
  wpAny (model prog w) A (letOwnedTupleGo e (.ref J) y) Q E s
theorem LG.name {x:Str} {p:Pos}:LG (.Name x p):=fun _ _ _ _ _ _ _ _ _ hq=>wpAny_pure hq
theorem TG.one {x:Str} {p:Pos} {i:Nat} (hx:S.Γ.lookup x=some i):TG C S (.Name x p) (.one i):=by
 try refine ⟨?_⟩
 intro A env σ σ' H β s y v Q E _ F I er vx hb hq
 obtain rfl:=inj hb
 exact wpAny_assign_Name (Zcm I er hx (F.1 x) vx hq)
theorem After.poke {X:Addr→Prop} {h':Heap} {J:Addr} {tk:Nat} (af:After C X β s β' s' H') (g:Grow0 (fun a=>a=J) β' s'.heap β' h') (hk:∀ b o,b∉[J]→s'.heap.get? b=some o→h'.get? b=some o) (hJ:s.heap.get? J=none) (hJβ:J∉β')
  (hB:C.base.get? J=none):After C X β s β' { s' with heap:=h',toks:=tk } H':=by
 have hXJ:¬ X J:=fun h=>by refine e1a2 (af.grow.xs J h) fun o ho _=>?_; rw [hJ] at ho; injection ho
 have ne:∀ {a},a≠J→a∉[J]:=fun h=>by simpa using h
 refine e2a1 af.same fun hh tk' e=>?_
 refine ⟨⟨⟨af.grow.ext,fun a o ho hn hx=>?_,af.grow.xs⟩,fun a ha=>?_⟩,?_,h',tk,by rw [e]⟩
 ·refine e1a2 (af.grow.keep a o ho hn hx) fun o' ho' k=>?_
  exact ⟨o',hk a o' (ne (fun q=>by rw [q,hJ] at ho; injection ho)) ho',k⟩
 ·refine e1a3 (af.grow.xlive a ha) fun o' ho' sl nf=>?_
  exact ⟨o',hk a o' (ne (fun q=>hXJ (q ▸ ha))) ho',sl,nf⟩
 ·exact af.inv.grow g (fun a ha o ho=>hk a o (ne (fun q=>hJβ (q ▸ ha))) ho) fun a o hb ho=>hk a o (ne (fun q=>by rw [q,hB] at hb; injection hb)) ho
theorem Itr.stays {X:Addr→Prop} {src:AH→Option (List AV)} {J:Addr} {fp:List Addr} {St:Nat→Heap→Prop} {h₀ h h':Heap} {β₀ β₁:List Addr} {i:Nat} (T:Itr C A β₀ h₀ src J fp St) (st:St i h) (g:Grow0 X β h β₁ h') (hX:¬ X J) (hJ:J∉β)
  (hl:∀ b o,h₀.get? b=some o→b∉β₀→b∉β):St i h':=by
 refine T.frame i h h' st fun b hb o ho=>?_
 by_cases q:b=J
 ·subst q
  refine e2a4 (T.obj i h st) fun o' T' ho' _ qZ4 _=>?_; refine Exists.elim qZ4 fun vs hd=>?_
  rw [ho] at ho'; obtain rfl:=inj ho'
  exact g.fields ho hJ hd (.inr hX)
 ·refine e0a3 (T.foot b hb q) fun h1 qZ1 h2=>?_; refine Exists.elim qZ1 fun o' ho'=>?_
  refine e2a1 (h2 i h o st ho) fun vs m hd=>?_
  exact g.seq ho (hl b o' ho' h1) hd
theorem Zcp {t:Tg} {b:DS} {src:AH→Option (List AV)} {i:Nat} {σ:Loc} {H:AH} (h:src H=none):∀ {N:Nat},forSrc t b src N i σ H=.bad
 | 0=>rfl
 | N+1=>by unfold forSrc; rw [h]
theorem Zcq {elt:DE} {ifs:DT} {k:Nat} {σ:Loc} {m:Nat} {src:AH→Option (List AV)} {i:Nat} {H:AH} (h:src H=none):∀ {N:Nat},Zav elt ifs k σ m src N i H=.bad
 | 0=>rfl
 | N+1=>by unfold Zav; rw [h]
structure LI (C:Cx) (S:Sco) (env:Env) (β:List Addr) (s:Shared) (St:Nat→Heap→Prop) (J:Addr) (k:Nat) (σ':Loc) (H':AH) (β':List Addr) (s':Shared):Prop where
 af:After C (Own env) β s β' s' H'
 er:ER C S env β' s'.heap σ'
 st:St k s'.heap
 jn:J∉β'
theorem Zcr {target:Expr} {t:Tg} {body:List Stmt} {b:DS} {src:AH→Option (List AV)} {J:Addr} {fp:List Addr} {St:Nat→Heap→Prop} {Q:Flow→Shared→Prop}
  (hS:S.calm=true) (ht:TG C S target t) (hlg:LG target) (hb:SSs C n S body b) (F:NoFree A env) (P₁:Pre C n A S env β s σ H) {s₂:Shared} (a₂:After C Nix β s β s₂ H) (T:Itr C A β s.heap src J fp St) (N:Nat) (st:St 0 s₂.heap) (hJ:J∉β)
  (hp:Pst C (Own env) (FR C S env) β s (forSrc t b src N 0 σ H) Q E) :
  codeAny (model C.prog C.w) A (.forLoop target (.ref J) body [] env) (fun r s'=>match r with|.ok f=>Q f s'|.error e=>cameBackBy (model C.prog C.w) A env E e s') s₂:=by
 have hOJ:¬ Own env J:=fun h=>by
  refine maea (P₁.own J h) fun _ o ho _=>?_
  rw [T.new] at ho; injection ho
 have hBJ:=P₁.inv.noB J T.new
 generalize hR0:forSrc t b src N 0 σ H=R0 at hp
 refine codeAny_forLoop_any (fun m s'=>∃ k σ' H' β',LI C S env β s St J k σ' H' β' s'∧R0=forSrc t b src m k σ' H') ?_ N
  ⟨0,σ,H,β,⟨a₂.weaken P₁.own,(P₁.after a₂).env,st,hJ⟩,hR0.symm⟩
 clear hR0
 intro m s' hZ; refine e4a2 hZ fun k σ' H' β' li heq=>?_
 have af:=li.af
 have er:=li.er
 have stk:=li.st
 have hJβ:=li.jn
 clear li
 cases m with
 | zero=>simp only [forSrc] at heq; rw [heq] at hp; exact hp.elim
 | succ m =>
 simp only [forSrc] at heq
 cases hsrc:src H' with
 | none=>rw [hsrc] at heq; rw [heq] at hp; exact hp.elim
 | some l =>
 rw [hsrc] at heq
 dsimp only at heq
 cases hd:l[k]? with
 | some d =>
  rw [hd] at heq
  dsimp only at heq
  refine T.item k s' _ _ _ _ d _ _ af.inv af.grow stk hsrc hd fun v h' tk hv st' hkeep=>?_
  have g₁:=T.grow0 (β:=β') stk hkeep
  have af₁:=af.poke (tk:=tk) g₁ hkeep T.new hJβ hBJ
  have er₁:=er.mono' g₁ fun a ha q=>hOJ (q ▸ ha)
  have hv:=hv.mono0 g₁
  refine hlg _ _ _ _ _ _ _ _ (T.obj _ _ st') ?_
  cases hbind:t.bind d σ' with
  | none=>rw [hbind] at heq; rw [heq] at hp; exact hp.elim
  | some σ₁ =>
   rw [hbind] at heq
   dsimp only at heq
   refine ht A env σ' σ₁ H' β' _ v d _ _ (P₁.calm hS) F af₁.inv er₁ hv hbind fun s₃ af₃ er₃=>?_
   have st₃:=T.stays st' af₃.grow.toGrow0 hOJ hJβ fun b o ho hn=>af₁.grow.notin ho hn
   have pre₃:Pre C n A S env β' s₃ σ₁ H':=P₁.afterS (af₁.trans af₃) er₃
   refine hb.go A env σ₁ H' β' s₃ _ _ F pre₃ ?_
   cases hr:b σ₁ H' with
   | ok p H₂ =>
    rw [hr] at heq
    obtain ⟨fl,σ₂⟩:=p
    intro f s₄ β₄ af₄ ⟨hf,er₄⟩
    have af₅:=(af₁.trans af₃).trans af₄
    cases fl with
    | next =>
     cases f with
     | next =>
      refine ⟨m,Nat.lt_succ_self _,k+1,σ₂,H₂,β₄,⟨af₅,er₄,T.stays st₃ af₄.grow.toGrow0 hOJ hJβ fun b o ho hn=>(af₁.trans af₃).grow.notin ho hn,?_⟩,heq⟩
      obtain ⟨o,_,ho,_⟩:=T.obj _ _ st₃
      exact af₄.grow.notin ho hJβ
     | _=>exact hf.elim
    | ret w =>
     cases f with
     | ret x=>rw [heq] at hp; exact hp _ s₄ β₄ af₅ ⟨hf,er₄⟩
     | _=>exact hf.elim
   | err x H₂ =>
    rw [hr,Rs.bind_err] at heq
    rw [heq] at hp
    intro e s₄ β₄ af₄ hx
    refine e3a3 hx fun ea c fl eZ3 lk fly=>?_; subst eZ3
    have af₅:=(af₁.trans af₃).trans af₄
    refine mae F fun _ outer hfr=>?_
    refine e1a2 pre₃.stk fun l' hl' kk=>?_
    rw [hfr] at hl'
    obtain rfl:=inj hl'
    have hB:=P₁.inv.noB
    exact Zbf hfr kk af₄.grow hB af₅ (fly.older (af₁.trans af₃).fresh) lk fun h₂ a₂ x₂=>hp _ _ β₄ a₂ x₂
   | bad=>rw [hr] at heq; rw [heq] at hp; exact hp
 | none =>
  rw [hd] at heq
  dsimp only at heq
  by_cases hlk:l.length=k
  case neg=>rw [if_neg hlk] at heq; rw [heq] at hp; exact hp.elim
  rw [if_pos hlk] at heq
  refine T.done k s' _ _ _ _ _ _ af.inv af.grow stk hsrc hlk fun h' tk hkeep=>?_
  have g₁:=T.grow0 (β:=β') stk hkeep
  have af₁:=af.poke (tk:=tk) g₁ hkeep T.new hJβ hBJ
  have er₁:=er.mono' g₁ fun a ha q=>hOJ (q ▸ ha)
  rw [heq] at hp
  exact wpAny_execs_nil (hp _ _ β' af₁ ⟨trivial,er₁⟩)
theorem SS.for_ {target iter:Expr} {body:List Stmt} {pos:Pos} {t:Tg} {d:DE} {b:DS} (ht:TG C S target t) (hlg:LG target) (hi:SE C n S iter d) (hb:SSs C n S body b) (hS:S.calm=true) (hs:∀ env x,foldedSetIterable iter env x=pure x) :
  SS C n S (.For target iter body [] pos) (sFor t d b):=by
 refine ⟨fun A env σ H β s Q E F P hp=>?_⟩
 refine wpAny_For (Pst.thenE P.own hp (fun _ h'=>hi.go A env σ H β s _ E P h') ?_) (hs env)
 intro x s₁ v H₁ β₁ _ a₁ vx hp₁
 cases hl:iter? v with
 | none =>
  rw [hl] at hp₁
  dsimp only at hp₁
  cases v with
  | ref k =>
   dsimp only at hp₁
   cases hL:listOf? H₁ (.ref k) with
   | none=>rw [Zcp hL] at hp₁; exact hp₁.elim
   | some l=>exact Zco a₁.inv (P.calm hS) vx hL fun J fp St s₂ a₂ T st hJ=>Zcr hS ht hlg hb F (P.after a₁) a₂ T 20000 st hJ hp₁
  | _=>exact hp₁.elim
 | some l =>
  rw [hl] at hp₁
  dsimp only at hp₁
  refine Zcn a₁.inv (P.calm hS) vx hl fun J fp St s₂ a₂ T st hJ=>?_
  refine Zcr hS ht hlg hb F (P.after a₁) a₂ T (l.length+1) st hJ ?_
  rw [Zaz _ _ _ _ (by exact Nat.le_refl _) (by exact Nat.zero_le _)]
  exact hp₁
theorem Zcs {test:Expr} {c:DT} {body:List Stmt} {b:DS} {Q:Flow→Shared→Prop} (hc:ST C n S test c) (hb:SSs C n S body b) (F:NoFree A env) (P₁:Pre C n A S env β s σ H) (N:Nat)
  (hp:Pst C (Own env) (FR C S env) β s (Za0 c b N σ H) Q E) :
  codeAny (model C.prog C.w) A (.whileLoop test body [] env) (fun r s'=>match r with|.ok f=>Q f s'|.error e=>cameBackBy (model C.prog C.w) A env E e s') s:=by
 generalize hR0:Za0 c b N σ H=R0 at hp
 refine codeAny_whileLoop (fun m s'=>∃ σ' H' β',After C (Own env) β s β' s' H'∧ER C S env β' s'.heap σ'∧R0=Za0 c b m σ' H') ?_ N ⟨σ,H,β,(After.refl P₁.inv).weaken P₁.own,P₁.env,hR0.symm⟩
 clear hR0
 intro m s' hZ; refine e3a3 hZ fun σ' H' β' af er heq=>?_
 have pre:Pre C n A S env β' s' σ' H':=P₁.afterS af er
 cases m with
 | zero=>simp only [Za0] at heq; rw [heq] at hp; exact hp.elim
 | succ m =>
  simp only [Za0] at heq
  refine hc.go A env σ' H' β' s' _ _ pre ?_
  cases ht:c σ' H' with
  | ok v H₁ =>
   rw [ht,Rs.bindB_ok] at heq
   intro x s₁ β₁ af₁ hx
   have hx:x=v:=hx
   subst hx
   have pre₁:=pre.after af₁
   have af₁':=af.trans (af₁.weaken pre.own)
   cases x with
   | true =>
    simp only [if_true] at heq ⊢
    refine hb.go A env σ' H₁ β₁ s₁ _ _ F pre₁ ?_
    cases hr:b σ' H₁ with
    | ok p H₂ =>
     rw [hr,Rs.bindB_ok] at heq
     obtain ⟨fl,σ₂⟩:=p
     intro f s₄ β₄ af₄ ⟨hf,er₄⟩
     have af₅:=af₁'.trans af₄
     cases fl with
     | next =>
      cases f with
      | next=>exact ⟨m,Nat.lt_succ_self _,σ₂,H₂,β₄,af₅,er₄,heq⟩
      | _=>exact hf.elim
     | ret w =>
      cases f with
      | ret x=>rw [heq] at hp; exact hp _ s₄ β₄ af₅ ⟨hf,er₄⟩
      | _=>exact hf.elim
    | err x H₂=>rw [hr] at heq; rw [heq] at hp; exact (show False from hp).elim
    | bad=>rw [hr] at heq; rw [heq] at hp; exact hp
   | false =>
    simp only [Bool.false_eq_true,if_false] at heq ⊢
    rw [heq] at hp
    exact wpAny_execs_nil (hp _ s₁ β₁ af₁' ⟨trivial,pre₁.env⟩)
  | err x H₂=>rw [ht] at heq; rw [heq] at hp; exact (show False from hp).elim
  | bad=>rw [ht] at heq; rw [heq] at hp; exact hp
theorem SS.while_ {test:Expr} {body:List Stmt} {pos:Pos} {c:DT} {b:DS} (hc:ST C n S test c) (hb:SSs C n S body b):SS C n S (.While test body [] pos) (sWhile c b):=by
 refine ⟨fun A env σ H β s Q E F P hp=>?_⟩
 exact wpAny_While (Zcs hc hb F P 20000 hp)
end
end Mine
namespace Mine
open PySem PyProof.Rows PySem.Calls PySem.SeqAt
section
variable {C:Cx} {n:Nat} {S:Sco} {env:Env} {β β':List Addr} {s s':Shared} {σ σ':Loc} {H H':AH} {A:Around} {E:Value→Shared→Prop} {mg mb:Str→Option Value}
theorem Zct {x:AV} {f:List AV→Option (List AV)} (h:setAt H x f=some H'):∃ i l l',x=.ref i∧H[i]?=some (.list l)∧f l=some l'∧H'=H.set i (.list l'):=by
 unfold setAt at h
 split at h
 ·split at h
  ·rename_i l hi
   refine e1a2 (Option.map_eq_some_iff.mp h) fun l' h1 eZ2=>?_; subst eZ2
   exact ⟨_,l,l',rfl,hi,h1,rfl⟩
  ·injection h
 ·injection h
theorem Inv.setList (I:Inv C β s.heap H) {i:Nat} {a:Addr} {h':Heap} {items:Array Value} {l l':List AV} (hb:β[i]?=some a) (hi:H[i]?=some (.list l)) (hs:Heap.SameBut a s.heap h') (hp:h'.PlainList a items) (hv:VRs C β s.heap items.toList l') (tk:Nat) :
  After C Nix β s β { s with heap:=h',toks:=tk } (H.set i (.list l')):=by
 have ha:a∈β:=List.mem_of_getElem? hb
 have g:Grow Nix β s.heap β h':=⟨⟨⟨[],by simp,fun _ h=>nomatch h⟩,fun b o ho hn _=>⟨o,by rw [hs.2 b (fun q=>hn (q ▸ ha))]; exact ho,.refl _⟩,fun _ h=>h.elim⟩,fun _ h=>h.elim⟩
 refine ⟨g,⟨by rw [List.length_set]; exact I.len,I.nodup,fun j b ao h1 h2=>?_,fun b o hbo=>?_,I.fresh⟩,h',tk,rfl⟩
 ·by_cases q:j=i
  ·subst q
   rw [hb] at h1; obtain rfl:=inj h1
   rw [List.getElem?_set_self (List.getElem?_eq_some_iff.mp hi).1] at h2
   obtain rfl:=inj h2
   exact ⟨items,hp,hv.mono g⟩
  ·rw [List.getElem?_set_ne (Ne.symm q)] at h2
   have hne:b≠a:=fun e=>by
    subst e
    have h3:=(List.getElem?_eq_some_iff.mp h1)
    have h4:=(List.getElem?_eq_some_iff.mp hb)
    exact q ((List.getElem_inj I.nodup).mp (h3.2.trans h4.2.symm))
   exact (I.obj j b ao h1 h2).keep g.toGrow0 fun _ hob=>by rw [hs.2 b hne]; exact hob
 ·have hne:b≠a:=fun q=>by have:=I.fresh a ha; rw [← q,hbo] at this; injection this
  rw [hs.2 b hne]; exact I.base b o hbo
theorem Zcu {H:AH} {v:AV} (h:isL H v=true):∃ i l,v=.ref i∧H[i]?=some (.list l):=by
 unfold isL at h
 split at h
 ·split at h
  ·rename_i l hl; exact ⟨_,l,rfl,hl⟩
  ·injection h
 ·injection h
theorem Zcv {Q:Value→Shared→Prop} {r:Option AH} (hp:Pst C Nix (VR C) β s (toH r) Q E):∃ H',r=some H'∧Pst C Nix (VR C) β s (.ok .none H') Q E:=by
 cases r with
 | none=>exact hp.elim
 | some v=>exact ⟨v,rfl,hp⟩
noncomputable def MethOk (C:Cx) (n:Nat) (id:String) (f:List AV→List AV→Option (List AV)):Prop :=
 ∀ {A:Around} {β:List Addr} {s:Shared} {H:AH} {a:Addr} {items:Array Value} {l l':List AV} {ys:List Value} {us:List AV} {Q:Value→Shared→Prop} {E:Value→Shared→Prop},Inv C β s.heap H→Room n A→s.heap.PlainList a items→VRs C β s.heap items.toList l→VRs C β s.heap ys us →
  f us l=some l'→(∀ h' items' tk,Heap.SameBut a s.heap h'→h'.PlainList a items'→VRs C β s.heap items'.toList l'→Q .none { s with heap:=h',toks:=tk })→wpAny (model C.prog C.w) A (call (.builtin id) (.ref a::ys)) Q E s
theorem SE.meth {o:Expr} {name:Str} {apos pos:Pos} {e:Expr} {args:List Expr} {id:String} {ds:List DE} {d:DE} {f:List AV→List AV→Option (List AV)}
  (slot:Slot "list" name id) (hty:typeOf (.builtin id)=pure (.type "method_descriptor")) (hcall:MethOk C n id f) (ho:SE C n S o d) (ha:SEs C n S (e::args) ds)
  (hbase:∀ env,attributeBase o name env (eval o env)=eval o env)
  (hfew:∀ env,((backTo pos (starEach (e::args) env)).all (fun x=>!x.1)&&(backToKw pos (keywordEach [] env)).all (fun x=>x.1.isSome)&&decide ((e::args).length+([]:List Keyword).length+(if ([]:List Keyword).isEmpty then 0 else 1) < 30))=true)
  (hstar:∀ env,starEach (e::args) env=(false,eval e env)::starEach args env)
  (hplain:∀ env,(backTo pos (starEach (e::args) env)).any (·.1)=false)
  (hline:(apos.endLine == pos.line)=true) :
  SE C n S (.Call (.Attribute o name apos) (e::args) [] pos) (dMeth f d ds):=by
 refine ⟨fun A env σ H β s Q E P hp=>?_⟩
 refine wpAny_Call_method (hbase env) (hfew env) hline PySem.F.plainAttrs_list slot hty (Pst.then hp (fun _ h'=>ho.go A env σ H β s _ E P h') ?_)
 intro x s₁ v H₁ β₁ _ a₁ vx hp₁
 split at hp₁
 ·rename_i hL
  refine e2a2 (Zcu hL) fun i l eZ2 hl=>?_; subst eZ2
  refine e1a2 vx.inv fun a e0 hb=>?_
  subst e0
  refine e1a2 (a₁.inv.obj i a _ hb hl) fun items qZ1 hv=>?_; refine Exists.elim qZ1 fun m hpl=>?_
  refine ⟨⟨_,hpl,rfl⟩,fun b hb'=>by cases hb'; exact ⟨_,hpl,rfl⟩,?_⟩
  have key:wpAny (model C.prog C.w) A (spliced (backTo pos (starEach (e::args) env))) (fun vs s₂=>wpAny (model C.prog C.w) A (call (.builtin id) ([.ref a]++vs)) Q E s₂) E s₁:=by
   refine Pst.then hp₁ (fun _ h'=>ha.go A env σ H₁ β₁ s₁ _ E pos (P.after a₁) h') ?_
   intro ys s₂ us H₂ β₂ _ a₂ vy hp₂
   refine e1a2 (Zcv hp₂) fun H₃ hset hp₃=>?_
   refine e3a4 (Zct hset) fun i' l₂ l₂' e1 hl₂ hf eZ6=>?_; subst eZ6
   cases e1
   refine e1a2 a₂.grow.ext fun ν eZ1 _=>?_; subst eZ1
   have hb₂:(β₁++ν)[i]?=some a:=by rw [List.getElem?_append_left (List.getElem?_eq_some_iff.mp hb).1]; exact hb
   refine e1a2 (a₂.inv.obj i a _ hb₂ hl₂) fun items₂ hpl₂ hv₂=>?_
   exact hcall a₂.inv P.room hpl₂ hv₂ vy hf fun h' items' tk hs hp' hv'=>hp₃ _ _ _ (a₂.inv.setList hb₂ hl₂ hs hp' hv' tk) .none
  have hany:=hplain env
  rw [hstar env] at key hany ⊢
  exact callWith_builtin hany (evalArgs_plain key)
 ·exact hp₁.elim
theorem Zcw:MethOk C n "list.append" appM:=by
 intro A β s H a items l l' ys us Q E I R hpl hv vy hf hq
 unfold appM at hf
 split at hf
 ·rename_i v
  obtain ⟨y,rfl,hy⟩:∃ y,ys=[y]∧VR C β s.heap y v:=by
   exact vy.one_inv
  unfold appF at hf
  split at hf
  ·rename_i hle
   obtain rfl:=inj hf
   have hlen:=hv.length
   rw [Array.length_toList] at hlen
   refine wpAny_list_append_plain hpl (fun h' hp' hs=>hq h' _ s.toks hs hp' ?_) (by rw [hlen]; exact Nat.le_trans hle (by decide))
   simpa using hv.append (.cons hy .nil)
  ·injection hf
 ·injection hf
theorem Zcx:MethOk C n "list.insert" insM:=by
 intro A β s H a items l l' ys us Q E I R hpl hv vy hf hq
 unfold insM at hf
 split at hf
 ·rename_i p v
  obtain ⟨x,y,rfl,hx,hy⟩:∃ x y,ys=[x,y]∧VR C β s.heap x p∧VR C β s.heap y v:=by
   exact vy.two_inv
  unfold insF at hf
  split at hf
  ·rename_i j
   split at hf
   ·rename_i hle
    obtain rfl:=inj hf
    refine Exists.elim hx.int_inv fun t eZ1=>?_; subst eZ1
    have hlen:=hv.length
    rw [Array.length_toList] at hlen
    obtain ⟨m,hpl⟩:=hpl
    have hfit:¬ (!Builtin.List.listFitsIndex j)=true:=by
     have h1:Builtin.List.listFitsIndex j=true:=by
      simp only [Builtin.List.listFitsIndex,Bool.and_eq_true,decide_eq_true_eq]
      omega
     rw [h1]; decide
    refine call_meets PySem.F.slot_list_insert ⟨_,hpl,rfl⟩ PySem.F.entry_list_insert (PySem.F.args_list_insert_3 _ _ _) (AutoSeq1.list_insert_list_int_val_1 a items m j t y hfit (by rw [hlen]; exact Nat.le_trans hle.1 (by decide))) ⟨hpl,?_⟩
    refine hq _ _ s.toks (Heap.SameBut.update ..) ⟨_,Heap.get?_update_self _ hpl rfl⟩ ?_
    have hk:(if j < 0 then (j+(items.size:Int)).toNat else min j.toNat items.size)=j.toNat:=by
     rw [if_neg (by omega),hlen]; omega
    have e:((items.extract 0 j.toNat).push y++items.extract j.toNat).toList=items.toList.take j.toNat++y::items.toList.drop j.toNat:=by
     simp [Array.toList_extract]
     exact List.take_of_length_le (by simp)
    show VRs C β s.heap ((items.extract 0 (if j < 0 then (j+(items.size:Int)).toNat else min j.toNat items.size)).push y++items.extract (if j < 0 then (j+(items.size:Int)).toNat else min j.toNat items.size)).toList _
    rw [hk,e]
    exact (hv.take _).append (.cons hy (hv.drop _))
   ·injection hf
  ·injection hf
 ·injection hf
theorem Zcy {a:Addr} {items:Array Value} {l l':List AV} {x y:Value} {p v:AV} {Q:Unit→Shared→Prop} (hpl:s.heap.PlainList a items) (hv:VRs C β s.heap items.toList l) (hx:VR C β s.heap x p) (hy:VR C β s.heap y v) (hf:stoF p v l=some l')
  (hq:∀ h' items',Heap.SameBut a s.heap h'→h'.PlainList a items'→VRs C β s.heap items'.toList l'→Q () { s with heap:=h' }):wpAny (model C.prog C.w) A (setItem (.ref a) x y) Q E s:=by
 unfold stoF at hf
 split at hf
 ·rename_i j
  split at hf
  ·rename_i hle
   obtain rfl:=inj hf
   refine Exists.elim hx.int_inv fun t eZ1=>?_; subst eZ1
   have hlen:=hv.length
   rw [Array.length_toList] at hlen
   have hl:=hpl.isList
   refine Exists.elim (id hpl) fun m ho=>?_
   have hfit:Builtin.List.listFitsIndex j=true:=by
    simp only [Builtin.List.listFitsIndex,Bool.and_eq_true,decide_eq_true_eq]
    omega
   have hidx:seqIndex? j items.size=some (if 0≤j then j.toNat else (j+l.length).toNat):=by
    unfold seqIndex?
    rw [hlen]
    by_cases h0:0≤j
    ·simp only [show ¬ j < 0 by omega,if_false,h0,decide_true,Bool.true_and,decide_eq_true_eq,if_true]
     rw [if_pos (by omega)]
    ·simp only [show j < 0 by omega,if_true,h0,if_false,show 0≤j+(l.length:Int) by omega,decide_true,Bool.true_and,decide_eq_true_eq]
     rw [if_pos (by omega)]
   generalize hK:(if 0≤j then j.toNat else (j+l.length).toNat)=K at hidx hq
   have hK':K < items.size:=by rw [← hK,hlen]; split <;> omega
   have hget:items[K]?=some items[K]:=Array.getElem?_eq_getElem hK'
   have fin:Q () { s with heap:=s.heap.update a (Obj.mapSeq (·.setIfInBounds K y)) }:=by
    refine hq _ (items.setIfInBounds K y) (Heap.SameBut.update ..) ⟨_,Heap.get?_update_self _ ho rfl⟩ ?_
    simpa using hv.set K hy
   unfold setItem
   try with_reducible refine wpAny_holding ?_
   first|refine wpAny_bind (wpAny_pure ?_)|skip
   refine wpAny_bind (wpAny_sequenceKey hl.typeIs (by decide) ?_)
   refine wpAny_bind (wpAny_callSpecial?_slot (name:=Str.ofString "__setitem__") hl.typeIs slot_list_setitem
    (wpAny_call_entry slot_list_setitem hl.typeIs entry_list_setitem ?_ (args_list_setitem _ _ _)))
   show wpAny _ _ (Builtin.List.listSubscript? (.int j t) >>= _) _ _ s
   refine wpAny_bind (wpAny_listSubscript_int hfit ?_)
   cases j with
   | ofNat k =>
    have hkK:k=K:=by rw [← hK]; simp
    subst hkK
    show wpAny _ _ ((seqItemAt a k >>= fun r=>pure (r.map (k,·))) >>= _) _ _ s
    refine wpAny_bind (wpAny_bind (wpAny_seqItemAt ho rfl (wpAny_pure ?_)))
    rw [hget]
    show wpAny _ _ (setSeqItemAt a k y >>= _) _ _ s
    refine wpAny_bind (wpAny_setSeqItemAt ho rfl ?_)
    first
     | exact wpAny_bind (wpAny_pure (wpAny_pure ⟨.none,rfl,wpAny_pure fin⟩))
     | exact wpAny_pure ⟨.none,rfl,wpAny_pure fin⟩
   | negSucc k =>
    show wpAny _ _ ((Builtin.List.listItems (.ref a) >>= fun xs=>pure ((seqIndex? (Int.negSucc k) xs.size).bind fun i=>xs[i]?.map (i,·))) >>= _) _ _ s
    refine wpAny_bind (wpAny_bind ?_)
    show wpAny _ _ (seqItems? (.ref a) >>= _) _ _ s
    refine wpAny_bind (wpAny_seqItems ho rfl (wpAny_pure (wpAny_pure ?_)))
    rw [hidx]
    simp only [Option.bind_some,hget,Option.map_some]
    show wpAny _ _ (setSeqItemAt a K y >>= _) _ _ s
    refine wpAny_bind (wpAny_setSeqItemAt ho rfl ?_)
    first
     | exact wpAny_bind (wpAny_pure (wpAny_pure ⟨.none,rfl,wpAny_pure fin⟩))
     | exact wpAny_pure ⟨.none,rfl,wpAny_pure fin⟩
  ·injection hf
 ·injection hf
theorem SS.store {o i e:Expr} {p pos:Pos} {a b c:DE} (ho:SE C n S o a) (hi:SE C n S i b) (he:SE C n S e c) (hs:∀ env,swapsWith e (some (.Subscript o i p)) pos.line env=pure false):SS C n S (.Assign [.Subscript o i p] e pos) (sStore a b c):=by
 refine ⟨fun A env σ H β s Q E F P hp=>?_⟩
 refine wpAny_Assign_Subscript (Pst.thenE P.own hp (fun _ h'=>he.go A env σ H β s _ E P h') ?_) (hs env)
 intro y s₁ v H₁ β₁ _ a₁ vy hp₁
 have P₁:=P.after a₁
 refine Pst.thenE P₁.own hp₁ (fun _ h'=>ho.go A env σ H₁ β₁ s₁ _ E P₁ h') ?_
 intro x s₂ u H₂ β₂ _ a₂ vx hp₂
 have P₂:=P₁.after a₂
 refine Pst.thenE P₂.own hp₂ (fun _ h'=>hi.go A env σ H₂ β₂ s₂ _ E P₂ h') ?_
 intro k s₃ q H₃ β₃ _ a₃ vk hp₃
 have P₃:=P₂.after a₃
 have vx:=vx.mono a₃.grow
 have vy:=(vy.mono a₂.grow).mono a₃.grow
 cases hset:setAt H₃ u (stoF q v) with
 | none=>rw [hset] at hp₃; exact hp₃.elim
 | some H₄ =>
  rw [hset] at hp₃
  refine e3a4 (Zct hset) fun j l l' eZ3 hl hf eZ6=>?_; subst eZ3; subst eZ6
  refine e1a2 vx.inv fun ad e0 hb=>?_
  subst e0
  refine e1a2 (a₃.inv.obj j ad _ hb hl) fun items hpl hv=>?_
  refine Zcy hpl hv vk vy hf fun h' items' hsb hp' hv'=>?_
  have af:=a₃.inv.setList hb hl hsb hp' hv' s₃.toks
  exact hp₃ _ _ _ (af.weaken P₃.own) ⟨trivial,(P₃.after af).env⟩
end
end Mine
namespace Mine
open PySem PyProof.Rows PySem.Calls PySem.SeqAt
noncomputable def FS (C:Cx) (Φ:Fns) (n:Nat):Prop :=
 ∀ (A:Around) (k:Nat) (xs:List Value) (vs:List AV) (H:AH) (β:List Addr) (s:Shared) (Q:Value→Shared→Prop) (E:Value→Shared→Prop),Room n A→A.handled=none→Stk C A β s.heap→Inv C β s.heap H→VRs C β s.heap xs vs→Pst C Nix (VR C) β s (Φ k vs H) Q E →
  (∃ o fd,C.base.get? (C.fnv k)=some o∧o.data=.func fd)∧wpAny (model C.prog C.w) A (call (.ref (C.fnv k)) xs) Q E s
theorem FS.up {C:Cx} {Φ:Fns} {n:Nat} (h:FS C Φ n):FS C Φ (n+1):=fun A k xs vs H β s Q E R=>h A k xs vs H β s Q E ⟨by have:=R.depth; exact Nat.le_of_lt (by assumption),by have:=R.units; omega⟩
section
variable {C:Cx} {n:Nat} {S:Sco} {env:Env} {β β':List Addr} {s s':Shared} {σ σ':Loc} {H H':AH} {A:Around} {E:Value→Shared→Prop} {mg mb:Str→Option Value} {Φ:Fns}
theorem Zcz {v:AV} {G:Prop} (a:Zau v=false→G) (b:(∃ k,v=.fn k)∨(∃ b,v=.bi b)→G):G:=by
 cases v with
 | fn k=>exact b (.inl ⟨k,rfl⟩)
 | bi n=>exact b (.inr ⟨n,rfl⟩)
 | _=>exact a rfl
theorem Zc0 {e:Expr} {args:List Expr} {pos:Pos} {env:Env} {f:Addr} (hany:(backTo pos (starEach (e::args) env)).any (·.1)=false) (hstar:starEach (e::args) env=(false,eval e env)::starEach args env)
  (key:wpAny (model C.prog C.w) A (spliced (backTo pos (starEach (e::args) env))) (fun ys s₂=>(∃ o fd,C.base.get? f=some o∧o.data=.func fd)∧s₂.heap.get? f=C.base.get? f∧wpAny (model C.prog C.w) A (call (.ref f) ys) Q E s₂) E s) :
  wpAny (model C.prog C.w) A (callWith pos (.ref f) [] (backTo pos (starEach (e::args) env)) (backToKw pos (keywordEach [] env))) Q E s:=by
 rw [hstar] at key ⊢
 by_cases hx:∃ o fd,C.base.get? f=some o∧o.data=.func fd
 ·refine e2a2 hx fun o fd ho hd=>?_
  exact callWith_function (o:=o) (fd:=fd) (evalArgs_plain (wpAny_mono key (fun ys s₂ h=>by
   exact ⟨⟨by rw [h.2.1]; exact ho,hd⟩,h.2.2⟩) fun _ _ e=>e))
 ·exact callWith_function (o:=default) (fd:=default) (evalArgs_plain (wpAny_mono key (fun ys s₂ h=>absurd h.1 hx) fun _ _ e=>e))
theorem Zc1 {e:Expr} {args:List Expr} {pos:Pos} {env:Env} {b:BI} (hany:(backTo pos (starEach (e::args) env)).any (·.1)=false) (hstar:starEach (e::args) env=(false,eval e env)::starEach args env)
  (key:wpAny (model C.prog C.w) A (spliced (backTo pos (starEach (e::args) env))) (fun ys s₂=>wpAny (model C.prog C.w) A (call b.val ys) Q E s₂) E s) :
  wpAny (model C.prog C.w) A (callWith pos b.val [] (backTo pos (starEach (e::args) env)) (backToKw pos (keywordEach [] env))) Q E s:=by
 rw [hstar] at key hany ⊢
 cases b
 case len=>exact callWith_builtin hany (evalArgs_plain key)
 case all=>exact callWith_builtin hany (evalArgs_plain key)
 case isinstance=>exact callWith_builtin hany (evalArgs_plain key)
 all_goals exact PyProof.Rows.callWith_type hany (evalArgs_plain key)
theorem SE.callF {func e:Expr} {args:List Expr} {pos:Pos} {d:DE} {ds:List DE} (hF:FS C Φ n) (hf:SE C n S func d) (ha:SEs C n S (e::args) ds)
  (he:∀ env,eval (.Call func (e::args) [] pos) env=(do callWith pos (← eval func env) [] (backTo pos (starEach (e::args) env)) (backToKw pos (keywordEach [] env))))
  (hstar:∀ env,starEach (e::args) env=(false,eval e env)::starEach args env)
  (hplain:∀ env,(backTo pos (starEach (e::args) env)).any (·.1)=false) (hS:S.calm=true) :
  SE C n S (.Call func (e::args) [] pos) (dCall Φ d ds):=by
 refine ⟨fun A env σ H β s Q E P hp=>?_⟩
 refine Call_ (Pst.then hp (fun _ h'=>hf.go A env σ H β s _ E P h') ?_) (he env)
 intro x s₁ v H₁ β₁ _ a₁ vx hp₁
 refine Zcz (v:=v) (fun e=>?_) fun q=>?_
 ·rw [e] at hp₁; exact hp₁.elim
 rcases q with ⟨k,rfl⟩|⟨b,rfl⟩
 ·have hargs:=ha.go A env σ H₁ β₁ s₁ _ E pos (P.after a₁) (Pst.bind hp₁)
  have e0:x=.ref (C.fnv k):=vx.inv
  rw [e0]
  refine Zc0 (hplain env) (hstar env) (wpAny_mono hargs ?_ fun _ _ e=>e)
  intro ys s₂ hZ; refine e3a4 hZ fun us H₂ β₂ _ a₂ vy hp₂=>?_
  refine e0a2' (hF A k ys us H₂ β₂ s₂ Q E P.room (P.calm hS) ((P.after a₁).after a₂).stk a₂.inv vy hp₂) fun q hw=>?_
  exact ⟨q,by refine e2a2 q fun o fd ho _=>?_; rw [ho]; exact a₂.inv.base _ _ ho,hw⟩
 ·have hargs:=ha.go A env σ H₁ β₁ s₁ _ E pos (P.after a₁) (Pst.bind hp₁)
  have e0:x=b.val:=vx.inv
  rw [e0]
  refine Zc1 (hplain env) (hstar env) (wpAny_mono hargs ?_ fun _ _ e=>e)
  intro ys s₂ hZ; refine e3a4 hZ fun us H₂ β₂ _ a₂ vy hp₂=>?_
  exact Zcl a₂.inv (P.calm hS) vy hp₂
theorem Zc2 {h:Heap} {m k:Nat} {ν:List Addr} (ih:∀ {v:Value} {d x:AV},VR C (β++ν) h v d→freeze m H k d=some x→VR C β h v x) {vs:List Value} {l:List AV} (r:VRs C (β++ν) h vs l):∀ {xs:List AV},l.mapM (freeze m H k)=some xs→VRs C β h vs xs :=
 r.ind (P:=fun vs l=>∀ {xs:List AV},l.mapM (freeze m H k)=some xs→VRs C β h vs xs) (fun e=>inj e ▸ .nil) fun {_ _ _ _} a _ ih2 {xs} e=>by
  refine e2a3 (Zbq e) fun y ys h1 h2 e4=>?_
  rw [e4]
  exact .cons (ih a h1) (ih2 h2)
theorem Zc3 {h:Heap} {ν:List Addr} (I:Inv C (β++ν) h H):∀ (k:Nat) {v:Value} {d x:AV},VR C (β++ν) h v d→freeze β.length H k d=some x→VR C β h v x
 | 0,_,_,_,_,e=>by injection e
 | k+1,v,d,x,r,e=>by
  have ih:=fun {v:Value} {d x:AV}=>Zc3 (v:=v) (d:=d) (x:=x) I k
  have vi:=r.inv
  cases d with
  | none=>obtain rfl:=inj e; cases vi; exact .none
  | bool b=>obtain rfl:=inj e; cases vi; exact .bool b
  | int i=>obtain rfl:=inj e; refine Exists.elim vi fun t eZ1=>?_; subst eZ1; exact .int i t
  | str y=>obtain rfl:=inj e; refine Exists.elim vi fun t eZ1=>?_; subst eZ1; exact .str y t
  | tup l =>
   refine e2a4 vi fun a items eZ2 ht hn hv=>?_; subst eZ2
   have e:(l.mapM (freeze β.length H k)).map AV.tup=some x:=e
   refine e1a2 (Option.map_eq_some_iff.mp e) fun xs h1 eZ2=>?_; subst eZ2
   exact .tup ht (fun q=>hn (List.mem_append_left _ q)) (Zc2 ih hv h1)
  | lst l =>
   refine e2a4 vi fun a items eZ2 ht hn hv=>?_; subst eZ2
   have e:(l.mapM (freeze β.length H k)).map AV.lst=some x:=e
   refine e1a2 (Option.map_eq_some_iff.mp e) fun xs h1 eZ2=>?_; subst eZ2
   exact .lst ht (fun q=>hn (List.mem_append_left _ q)) (Zc2 ih hv h1)
  | ref i =>
   refine e1a2 vi fun a eZ1 hb=>?_; subst eZ1
   simp only [freeze] at e
   split at e
   ·rename_i hi
    obtain rfl:=inj e
    rw [List.getElem?_append_left hi] at hb
    exact .ref hb
   ·rename_i hi
    split at e
    ·rename_i l hl
     refine e1a2 (Option.map_eq_some_iff.mp e) fun xs h1 eZ2=>?_; subst eZ2
     refine e1a2 (I.obj i a _ hb hl) fun items hpl hv=>?_
     refine .lst hpl.isList (fun q=>?_) (Zc2 ih hv h1)
     obtain ⟨j,hj,e⟩:=List.getElem_of_mem q
     have h3:=List.getElem?_eq_some_iff.mp hb
     have h4:(β++ν)[j]'(by simp; omega)=a:=by rw [List.getElem_append_left hj]; exact e
     have:j=i:=(List.getElem_inj I.nodup).mp (h4.trans h3.2.symm)
     omega
    ·injection e
  | rng b=>obtain rfl:=inj e; refine e4a3 vi fun _ _ _ _ eZ4 hr hn=>?_; subst eZ4; exact .rng hr fun q=>hn (List.mem_append_left _ q)
  | fn k=>obtain rfl:=inj e; cases vi; exact .fn k
  | cls k=>obtain rfl:=inj e; cases vi; exact .cls k
  | bi b=>obtain rfl:=inj e; exact .bi b vi
  | _=>injection e
theorem After.leave {s₁:Shared} (hk:∀ b o,s.heap.get? b=some o→s₁.heap.get? b=some o) (hs:∃ h tk,s₁={ s with heap:=h,toks:=tk }) (hnew:∀ a,Own env a→s.heap.get? a=none) (af:After C (Own env) β s₁ β' s' H'):After C Nix β s β' s' H':=by
 refine e1a2 af.grow.ext fun ν hν hf=>?_
 refine ⟨⟨⟨⟨ν,hν,fun a ha=>?_⟩,fun a o ho hn _=>af.grow.keep a o (hk a o ho) hn fun q=>?_,fun _ h=>h.elim⟩,fun _ h=>h.elim⟩,af.inv,?_⟩
 ·cases q:s.heap.get? a with
  | none=>rfl
  | some o=>have:=hk a o q; rw [hf a ha] at this; injection this
 ·rw [hnew a q] at ho; injection ho
 ·refine e2a1 hs fun h tk eZ2=>?_; subst eZ2
  refine e2a1 af.same fun h' tk' eZ2=>?_; subst eZ2
  exact ⟨h',tk',rfl⟩
noncomputable def Old (m:Nat):Nat→AV→Bool
 | 0,_=>false
 | n+1,v=>match v with
  | .tup l=>l.all (Old m n)
  | .lst l=>l.all (Old m n)
  | .ref i=>decide (i < m)
  | .inst _ j=>decide (j < m)
  | _=>true
theorem Zc4 {h:Heap} {ν:List Addr} {n:Nat} (ih:∀ {v:Value} {d:AV},VR C (β++ν) h v d→Old β.length n d=true→VR C β h v d) {vs:List Value} {l:List AV} (r:VRs C (β++ν) h vs l):l.all (Old β.length n)=true→VRs C β h vs l :=
 r.ind (P:=fun vs l=>l.all (Old β.length n)=true→VRs C β h vs l) (fun _=>.nil) fun a _ ih2 e=>by
  rw [List.all_cons,Bool.and_eq_true] at e
  exact .cons (ih a e.1) (ih2 e.2)
theorem Zc5 {h:Heap} {ν:List Addr}:∀ (n:Nat) {v:Value} {d:AV},VR C (β++ν) h v d→Old β.length n d=true→VR C β h v d
 | 0,_,_,_,e=>nomatch e
 | n+1,v,d,r,e=>by
  have vi:=r.inv
  cases d with
  | none=>cases vi; exact .none
  | bool b=>cases vi; exact .bool b
  | int i=>refine Exists.elim vi fun t eZ1=>?_; subst eZ1; exact .int i t
  | str x=>refine Exists.elim vi fun t eZ1=>?_; subst eZ1; exact .str x t
  | tup l=>refine e2a4 vi fun _ _ eZ2 ht hn r'=>?_; subst eZ2; exact .tup ht (fun q=>hn (List.mem_append_left _ q)) (Zc4 (Zc5 n) r' e)
  | lst l=>refine e2a4 vi fun _ _ eZ2 ht hn r'=>?_; subst eZ2; exact .lst ht (fun q=>hn (List.mem_append_left _ q)) (Zc4 (Zc5 n) r' e)
  | ref i=>refine e1a2 vi fun _ eZ1 hb=>?_; subst eZ1; exact .ref (by rw [List.getElem?_append_left (of_decide_eq_true e)] at hb; exact hb)
  | rng b=>refine e4a3 vi fun _ _ _ _ eZ4 hr hn=>?_; subst eZ4; exact .rng hr fun q=>hn (List.mem_append_left _ q)
  | fn k=>cases vi; exact .fn k
  | cls k=>cases vi; exact .cls k
  | bi b=>exact .bi b vi
  | exc c=>refine e3a5 vi fun _ _ _ eZ3 ho hc hd hn=>?_; subst eZ3; exact .exc ho hc hd fun q=>hn (List.mem_append_left _ q)
  | inst c j =>
   refine e3a7 vi fun _ _ _ eZ3 ho hc hd hx hb hn=>?_; subst eZ3
   exact .inst ho hc hd hx (by rw [List.getElem?_append_left (of_decide_eq_true e)] at hb; exact hb) fun q=>hn (List.mem_append_left _ q)
theorem Zc6 {h:Heap} {v:Value} {d:AV} (r:VR C β h v d):∃ n,∀ k,n≤k→Old β.length k d=true:=by
 have one:∀ {d:AV},(∀ k,Old β.length (k+1) d=true)→∃ n,∀ k,n≤k→Old β.length k d=true:=fun h=>⟨1,fun k hk=>match k,hk with
  | k+1,_=>h k⟩
 have two:∀ {d:AV} {p:Nat→Bool},(∀ k,Old β.length (k+1) d=p k)→(∃ n,∀ k,n≤k→p k=true)→∃ n,∀ k,n≤k→Old β.length k d=true:=fun h q=>by
  refine Exists.elim q fun n hn=>?_
  exact ⟨n+1,fun k hk=>match k,hk with
   | k+1,hk=>(h k).trans (hn k (Nat.le_of_succ_le_succ hk))⟩
 exact VR.rec (motive_1:=fun _ d _=>∃ n,∀ k,n≤k→Old β.length k d=true) (motive_2:=fun _ l _=>∃ n,∀ k,n≤k→l.all (Old β.length k)=true) (one fun _=>rfl) (fun _=>one fun _=>rfl) (fun _ _=>one fun _=>rfl) (fun _ _=>one fun _=>rfl)
  (fun _ _ _ ih=>two (fun _=>rfl) ih) (fun _ _ _ ih=>two (fun _=>rfl) ih) (fun hb=>one fun _=>decide_eq_true (List.getElem?_eq_some_iff.mp hb).1) (fun _ _=>one fun _=>rfl) (fun _=>one fun _=>rfl) (fun _=>one fun _=>rfl) (fun _ _=>one fun _=>rfl) (fun _ _ _ _=>one fun _=>rfl)
  (fun _ _ _ _ hb _=>one fun _=>decide_eq_true (List.getElem?_eq_some_iff.mp hb).1) ⟨0,fun _ _=>rfl⟩
  (fun _ _ i1 i2=>by
   refine Exists.elim i1 fun n hn=>?_
   refine Exists.elim i2 fun m hm=>?_
   exact ⟨n+m,fun k hk=>by rw [List.all_cons,hn k (Nat.le_trans (Nat.le_add_right _ _) hk),hm k (Nat.le_trans (Nat.le_add_left _ _) hk)]; rfl⟩) r
theorem Zc7 {h:Heap} {vs:List Value} {l:List AV} (r:VRs C β h vs l):∃ n,∀ k,n≤k→l.all (Old β.length k)=true :=
 r.ind (P:=fun _ l=>∃ n,∀ k,n≤k→l.all (Old β.length k)=true) ⟨0,fun _ _=>rfl⟩ fun a _ i2=>by
  refine Exists.elim (Zc6 a) fun n hn=>?_
  refine Exists.elim i2 fun m hm=>?_
  exact ⟨n+m,fun k hk=>by rw [List.all_cons,hn k (Nat.le_trans (Nat.le_add_right _ _) hk),hm k (Nat.le_trans (Nat.le_add_left _ _) hk)]; rfl⟩
theorem After.drop {ν:List Addr} {H₁:AH} (I:Inv C β s.heap H) (af:After C Nix β s (β++ν) s' H₁) (hH:H₁.take H.length=H):After C Nix β s β s' H:=by
 refine ⟨⟨⟨⟨[],by simp,fun _ h=>nomatch h⟩,fun a o ho hn _=>af.grow.keep a o ho hn id,fun _ h=>h.elim⟩,fun _ h=>h.elim⟩,⟨I.len,I.nodup,fun i a ao h1 h2=>?_,af.inv.base,I.fresh⟩,af.same⟩
 have hi:=(List.getElem?_eq_some_iff.mp h1).1
 have hi':i < H.length:=I.len ▸ hi
 have e1:(β++ν)[i]?=some a:=by rw [List.getElem?_append_left hi]; exact h1
 have e2:H₁[i]?=some ao:=by rw [← h2,← hH,List.getElem?_take,if_pos hi']
 have hnew:=af.inv.obj i a ao e1 e2
 have hold:=I.obj i a ao h1 h2
 cases ao with
 | list l =>
  refine e1a2 hnew fun items hpl hv=>?_
  refine e1a2 hold fun items' _ hv'=>?_
  refine Exists.elim (Zc7 hv') fun n hn=>?_
  exact ⟨items,hpl,Zc4 (Zc5 n) hv (hn n (Nat.le_refl n))⟩
 | dict l =>
  refine e1a3 hnew fun kvs hD hk hv=>?_
  refine e1a3 hold fun _ _ _ hv'=>?_
  refine Exists.elim (Zc7 hv') fun m hm=>?_
  exact ⟨kvs,hD,hk,Zc4 (Zc5 m) hv (hm m (Nat.le_refl m))⟩
 | dictS l =>
  refine e4a8 hnew fun xs o es ep ho hx hd he hk hl hv hn=>?_
  refine e4a8 hold fun xs' _ _ _ _ _ _ _ hk' hl' hv' _=>?_
  have e:(xs.map fun x=>stAV x.1)=xs'.map fun x=>stAV x.1:=by
   have:=congrArg (List.map stAV) (hl.trans hl'.symm)
   rw [List.map_map,List.map_map] at this
   exact this
  rw [e] at hk
  refine Exists.elim (Zc7 hk') fun n hn'=>?_
  refine Exists.elim (Zc7 hv') fun m hm=>?_
  refine ⟨xs,o,es,ep,ho,hx,hd,he,?_,hl,Zc4 (Zc5 m) hv (hm m (Nat.le_refl m)),hn⟩
  rw [e]
  exact Zc4 (Zc5 n) hk (hn' n (Nat.le_refl n))
 | attrs l =>
  refine e1a2 hnew fun m hm ha=>?_
  refine e1a2 hold fun m' _ ha'=>?_
  refine ⟨m,hm,fun n=>?_⟩
  have h1:=ha n
  have h2:=ha' n
  cases hl:l.lookup n with
  | none=>rw [hl] at h1; exact h1
  | some d =>
   rw [hl] at h1 h2
   refine e1a2 h1 fun x e r=>?_
   refine e1a2 h2 fun x' _ r'=>?_
   refine Exists.elim (Zc6 r') fun k hk=>?_
   exact ⟨x,e,Zc5 k r (hk k (Nat.le_refl k))⟩
 | exo c d f =>
  refine e2a5 hnew fun o vs ho hc hd hf dl=>?_
  refine e2a5 hold fun o' vs' _ _ _ _ dl'=>?_
  refine ⟨o,vs,ho,hc,hd,hf,?_⟩
  cases d with
  | none=>exact dl
  | some j =>
   refine e1a2 dl fun y e r=>?_
   refine e1a2 dl' fun y' _ r'=>?_
   refine ⟨y,e,?_⟩
   rw [List.getElem?_append_left (List.getElem?_eq_some_iff.mp r').1] at r
   exact r
theorem Zc8 {ko:Str→Option NameKind} {x:Str}:∀ {bs:List (Str×Value)} {m:Str→Option Value},x∉bs.map (·.1)→bindL ko bs m x=m x
 | [],_,_=>rfl
 | (y,v)::r,m,h=>by
  simp only [List.map_cons,List.mem_cons,not_or] at h
  rw [bindL,Zc8 h.2]
  split
  ·exact if_neg h.1
  ·rfl
theorem Zc9 {ko:Str→Option NameKind} {x:Str}:∀ {bs:List (Str×Value)} {m:Str→Option Value},x∉bs.map (·.1)→bindC ko bs m x=m x
 | [],_,_=>rfl
 | (y,v)::r,m,h=>by
  simp only [List.map_cons,List.mem_cons,not_or] at h
  rw [bindC,Zc9 h.2]
  split
  ·rfl
  ·exact if_neg h.1
theorem Zda {ko:Str→Option NameKind} {x:Str} {v:Value} (hk:ko x=some .local):∀ {bs:List (Str×Value)} {m:Str→Option Value},(bs.map (·.1)).Nodup→(x,v)∈bs→bindL ko bs m x=some v
 | [],_,_,h=>nomatch h
 | (y,w)::r,m,hn,h=>by
  simp only [List.map_cons,List.nodup_cons] at hn
  rw [bindL]
  rcases List.mem_cons.mp h with e|h
  ·cases e
   rw [Zc8 hn.1,if_pos hk,if_pos rfl]
  ·exact Zda hk hn.2 h
theorem Zdb {ko:Str→Option NameKind} {x:Str} {v:Value} (hk:ko x≠some .local):∀ {bs:List (Str×Value)} {m:Str→Option Value},(bs.map (·.1)).Nodup→(x,v)∈bs→bindC ko bs m x=some v
 | [],_,_,h=>nomatch h
 | (y,w)::r,m,hn,h=>by
  simp only [List.map_cons,List.nodup_cons] at hn
  rw [bindC]
  rcases List.mem_cons.mp h with e|h
  ·cases e
   rw [Zc9 hn.1,if_neg hk,if_pos rfl]
  ·exact Zdb hk hn.2 h
theorem Zdc:∀ {vs:List AV} {k i:Nat} {d:AV},args0 vs k i=some d→k≤i∧vs[i - k]?=some d
 | [],_,_,_,h=>by injection h
 | v::r,k,i,d,h=>by
  have h:(if i=k then some v else args0 r (k+1) i)=some d:=h
  by_cases e:i=k
  ·rw [if_pos e] at h
   rw [e,Nat.sub_self]
   exact ⟨Nat.le_refl _,h⟩
  ·rw [if_neg e] at h
   have q:=Zdc h
   rw [Zap q.1]
   exact ⟨Nat.le_of_lt q.1,q.2⟩
theorem Zdd {h:Heap}:∀ {w:Flow} {fl:Fl},FlR C β h w fl→VR C β h (match w with|.ret v=>v|_=>.none) fl.val
 | .next,.next,_=>.none
 | .ret _,.ret _,hf=>hf
 | .next,.ret _,hf=>hf.elim
 | .ret _,.next,hf=>hf.elim
 | .brk,.next,hf=>hf.elim
 | .brk,.ret _,hf=>hf.elim
 | .cont,.next,hf=>hf.elim
 | .cont,.ret _,hf=>hf.elim
structure DefD where
 o:Obj
 fd:FuncData
 body:List Stmt
 ps:List Str
 S:Sco
structure DefP (C:Cx) (k:Nat) (f:Fun) (d:DefD):Prop where
 ho:C.base.get? (C.fnv k)=some d.o
 hd:d.o.data=.func d.fd
 hbody:d.fd.body=.stmts d.body
 hclo:d.fd.closure=[]
 hcd:C.base.CodeRec d.fd.code d.fd.qualname
 hkind:d.fd.scope.kind=.function
 hgen:d.fd.scope.isGenerator=false
 hco:d.fd.scope.isCoroutine=false
 hglob:d.fd.globals=mainGlobals
 hblt:d.fd.builtins=builtinsNs
 hlen:d.ps.length=f.params
 hnd:d.ps.Nodup
 hbind:∀ vals,vals.length=d.ps.length→bindArgs d.fd ⟨vals,[]⟩=pure (d.ps.zip vals)
 hps:∀ x∈d.ps,d.fd.scope.names.lookup x=some .local∨d.fd.scope.names.lookup x=some .cell
 hΓ:∀ x i,d.S.Γ.lookup x=some i→d.fd.scope.names.lookup x=some .local∨d.fd.scope.names.lookup x=some .cell
 hinj:∀ x y i,d.S.Γ.lookup x=some i→d.S.Γ.lookup y=some i→x=y
 hslot:∀ i x,d.ps[i]?=some x→d.S.Γ.lookup x=some i
 hG:∀ x∈d.S.G,d.fd.scope.names.lookup x=some .globalImplicit
 hK:∀ x∈d.S.K,d.fd.scope.names.lookup x=some .cell
 hLo:∀ x∈d.S.L,d.fd.scope.names.lookup x=some .local
 hfree:∀ x,d.fd.scope.names.lookup x≠some .free
 hsound:∀ n Φ,FS C Φ n→SSs C (n+1) d.S d.body (f.body Φ)
structure DefOk (C:Cx) (k:Nat) (f:Fun):Prop where
 ex:∃ d,DefP C k f d
structure CallE (C:Cx) (β:List Addr) (h:Heap) (d:DefD) (a:Addr) (env:Env):Prop where
 eq:callEnvC d.fd h.objs.size a=env
 own:∀ b,Own env b→h.get? b=none
theorem CallE.kind {d:DefD} {h:Heap} {a:Addr} {env:Env} (c:CallE C β h d a env) (x:Str):env.kindOf x=d.fd.scope.names.lookup x:=by rw [← c.eq]; rfl
theorem CallE.of {d:DefD} {h h₁:Heap} {a:Addr} {env:Env} (e:callEnvC d.fd h.objs.size a=env) (ab:∀ x c,env.cells.lookup x=some c→h.objs.size < c):CallE C β h d a env:=by
 refine ⟨e,fun b hb=>?_⟩
 have hb:h.objs.size≤b:=by
  rcases hb with rfl|⟨x,hx⟩
  ·rw [← e]; exact Nat.le_refl _
  ·exact Nat.le_of_lt (ab x b hx)
 cases q:h.get? b with
 | none=>rfl
 | some o'=>exact absurd (Heap.lt_size q) (Nat.not_lt.mpr hb)
theorem Zde {k:Nat} {f:Fun} {d:DefD} (D:DefP C k f d) {h:Heap} {xs:List Value} {vs:List AV} (hxl:xs.length=d.ps.length) (vx:VRs C β h xs vs) {x:Str} {i:Nat} (hx:d.S.Γ.lookup x=some i) {u:AV} (hu:args0 vs 0 i=some u):∃ y,(x,y)∈d.ps.zip xs∧VR C β h y u:=by
 have hv:=(Zdc hu).2
 rw [Nat.sub_zero] at hv
 refine e1a2 (vx.get hv) fun y hy hr=>?_
 have hi:i < d.ps.length:=by rw [← hxl]; exact (List.getElem?_eq_some_iff.mp hy).1
 refine ⟨y,List.mem_of_getElem? (i:=i) ?_,hr⟩
 rw [List.getElem?_zip_eq_some]
 have hz:=List.getElem?_eq_getElem hi
 rw [← D.hinj _ x i (D.hslot i _ hz) hx]; exact ⟨hz,hy⟩
theorem arg_ov {k:Nat} {f:Fun} {d:DefD} (D:DefP C k f d) {h:Heap} {xs:List Value} {vs:List AV} (hxl:xs.length=d.ps.length) (vx:VRs C β h xs vs) {x:Str} {i:Nat} (hx:d.S.Γ.lookup x=some i) {v:Option Value} (hv:∀ y,(x,y)∈d.ps.zip xs→v=some y):OV C β h v (args0 vs 0 i):=by
 cases hσ:args0 vs 0 i with
 | none=>trivial
 | some u =>
  refine e1a2 (Zde D hxl vx hx hσ) fun y hy hr=>?_
  exact ⟨y,hv y hy,hr⟩
theorem Zdf {k:Nat} {f:Fun} {d:DefD} (D:DefP C k f d) {s₁:Shared} {xs:List Value} {vs:List AV} {a:Addr} {env:Env} (ce:CallE C β s.heap d a env) (I:Inv C β s.heap H) (hxl:xs.length=d.ps.length) (a₁:After C Nix β s β s₁ H) (vx:VRs C β s.heap xs vs)
  (ic:InCallC s env.locals (bindL env.kindOf (d.ps.zip xs) fun _=>none) env.cells (bindC env.kindOf (d.ps.zip xs) fun _=>none) s₁):ER C d.S env β s₁.heap (args0 vs 0):=by
 have hβ:∀ a,Own env a→a∉β:=fun a ha hm=>by refine Exists.elim (I.live a hm) fun o' ho'=>?_; rw [ce.own a ha] at ho'; injection ho'
 have hbase:∀ a,Own env a→C.base.get? a=none:=fun a ha=>by
  cases q:C.base.get? a with
  | none=>rfl
  | some o'=>have:=I.base a o' q; rw [ce.own a ha] at this; injection this
 have hnz:((d.ps.zip xs).map (·.1)).Nodup:=by rw [List.map_fst_zip (Nat.le_of_eq hxl.symm)]; exact D.hnd
 have vx:=vx.mono a₁.grow
 refine ⟨by rw [← ce.eq]; exact D.hkind,by rw [← ce.eq]; exact D.hglob,by rw [← ce.eq]; exact D.hblt,hβ _ (.inl rfl),hbase _ (.inl rfl),fun x hx=>(ce.kind x).trans (D.hG x hx),fun x hx=>.inl ((ce.kind x).trans (D.hK x hx)),fun x hx=>(ce.kind x).trans (D.hLo x hx),fun x c hc=>⟨⟨_,ic.cell x c hc⟩,hβ _ (.inr ⟨x,hc⟩),hbase _ (.inr ⟨x,hc⟩),Nat.ne_of_gt (ic.above x c (mem_of_lookup hc))⟩,
  fun x y c hx hy=>name_of_addr ic.apart (mem_of_lookup hx) (mem_of_lookup hy),D.hinj,_,ic.toInCall.ns,fun x i hx=>?_⟩
 rcases D.hΓ x i hx with h|h
 ·exact .inl ⟨(ce.kind x).trans h,arg_ov D hxl vx hx fun y hy=>Zda ((ce.kind x).trans h) hnz hy⟩
 ·refine Exists.elim (Option.isSome_iff_exists.mp (PySem.W.cellsFrom_some (x:=x) d.fd.scope.names (s.heap.objs.size+1) [] (.inl h))) fun c hc=>?_
  have hc:env.cells.lookup x=some c:=by rw [← ce.eq]; exact hc
  exact .inr ⟨.inl ((ce.kind x).trans h),c,_,hc,ic.cell x c hc,arg_ov D hxl vx hx fun y hy=>Zdb (by rw [ce.kind,h]; decide) hnz hy⟩
theorem Zdg {k:Nat} {f:Fun} {d:DefD} (D:DefP C k f d) {A:Around} {a:Addr} {env:Env} {σ:Loc} (ce:CallE C β s.heap d a env) {s₁:Shared} (a₁:After C Nix β s β s₁ H) (er:ER C d.S env β s₁.heap σ) (R:Room (n+2) A) (hh:A.handled=none) (K:Stk C A β s.heap):Pre C (n+1) (A.deeper env) d.S env β s₁ σ H:=by
 refine e1a2 (K.mono a₁.grow) fun l hl kk=>?_
 refine ⟨a₁.inv,er,⟨?_,?_⟩,fun _=>hh,⟨env::l,Around.frames_deeper hl,fun e he=>?_⟩,by rw [Around.frames_deeper hl]; exact fun q=>nomatch q⟩
 ·have:=R.depth; show A.depth+1+(n+1)+110 < recursionLimit; omega
 ·have:=R.units; show A.units+3+8 * (n+1)+200 < cLine; omega
 ·rcases List.mem_cons.mp he with e'|he
  ·rw [e']
   refine e1a2 er.vars fun m hm _=>?_
   exact ⟨er.kind,by rw [← ce.eq]; exact D.hgen,by rw [← ce.eq]; exact D.hco,er.builtins,er.globals,by rw [← ce.eq]; rfl,er.notL,er.locB,m,hm⟩
  ·exact kk e he
open Classical in
theorem Zdh {Q:Value→Shared→Prop} {s₁ s':Shared} {β':List Addr} {H₁:AH} {fz:Bool} {x:Value} {v:AV} (I:Inv C β s.heap H) (hk:∀ b o,s.heap.get? b=some o→s₁.heap.get? b=some o) (hs:∃ h tk,s₁={ s with heap:=h,toks:=tk }) (hnew:∀ a,Own env a→s.heap.get? a=none) (af:After C (Own env) β s₁ β' s' H₁)
  (hr:VR C β' s'.heap x v) (hp:Pst C Nix (VR C) β s (if fz then (if H₁.take H.length=H then (match freeze H.length H₁ 12 v with|some v'=>.ok v' H|none=>.bad) else .bad) else .ok v H₁) Q E):Q x s':=by
 have al:=After.leave hk hs hnew af
 cases fz with
 | false=>exact hp _ s' β' al hr
 | true =>
  rw [if_pos rfl] at hp
  by_cases hH:H₁.take H.length=H
  ·rw [if_pos hH] at hp
   cases hv:freeze H.length H₁ 12 v with
   | none=>rw [hv] at hp; exact hp.elim
   | some v' =>
    rw [hv] at hp
    refine e1a2 al.grow.ext fun ν eZ1 _=>?_; subst eZ1
    rw [← I.len] at hv
    exact hp _ s' β (al.drop I hH) (Zc3 al.inv 12 hr hv)
  ·rw [if_neg hH] at hp; exact hp.elim
theorem Zdi {A:Around} {S:Sco} {σ:Loc} {s₁ s':Shared} {β':List Addr} {H₁:AH} {e:Value} {x:AV} (I:Inv C β s.heap H) (K:Stk C A β s.heap) (a₁:After C Nix β s β s₁ H) (hk:∀ b o,s.heap.get? b=some o→s₁.heap.get? b=some o) (hs:∃ h tk,s₁={ s with heap:=h,toks:=tk }) (hnew:∀ a,Own env a→s.heap.get? a=none)
  (hfe:env.frame=some env.locals) (er:ER C S env β s₁.heap σ) (af:After C (Own env) β s₁ β' s' H₁) (hx:XR C s₁.heap s'.heap β' H₁ e x) (hp:∀ e s' β',After C Nix β s β' s' H₁→XR C s.heap s'.heap β' H₁ e x→E e s'):wpAny (model C.prog C.w) (A.deeper env) (leaving env e) (fun _ s''=>E e s'') (fun e' s''=>E e' s'') s':=by
 have al:=After.leave hk hs hnew af
 refine e1a2 (K.mono al.grow) fun l hfl kk=>?_
 obtain ⟨⟨oL,hoL,es,ep,hdL⟩,hn⟩:(∃ oL,s'.heap.get? env.locals=some oL∧∃ es ep,oL.data=.dict es ep)∧env.locals∉β':=by
  refine e1a2 er.vars fun m qZ1 _=>?_; refine e3a3 qZ1 fun om esm epm hom hdm _=>?_
  refine e1a3 (af.grow.xlive env.locals (.inl rfl)) fun oL hoL _ hdL=>?_
  exact ⟨⟨oL,hoL,hdL ⟨om,esm,epm,hom,hdm⟩⟩,af.grow.notin hom er.notL⟩
 have hB:=I.noB
 refine e3a3 hx fun a c fl eZ3 lk fly=>?_; subst eZ3
 refine Zbb (C:=C) (outer:=l) (Around.frames_deeper hfl) ⟨by rw [er.kind]; decide,⟨env.locals,oL,hfe,er.locB,hoL,fun vs q=>by rw [hdL] at q; injection q⟩,Zbc kk⟩ (fun b hb=>?_) hfe hB al (fly.older a₁.fresh) (lk.not al.inv.nodup) fun h₂ a₂ f₂=>hp _ _ β' a₂ ⟨a,c,_,rfl,lk,f₂⟩
 rw [List.filterMap_cons,hfe] at hb
 rcases List.mem_cons.mp hb with e'|hb
 ·rw [e']
  exact ⟨hn,fun o ho=>by rw [hoL] at ho; obtain rfl:=inj ho; exact ⟨es,ep,hdL⟩⟩
 ·exact Zbd kk b hb
theorem Zdj (B:Base C mg mb) {k:Nat} {f:Fun} (D:DefOk C k f) {Φ:Fns} (hF:FS C Φ n) {A:Around} {xs:List Value} {vs:List AV} {Q:Value→Shared→Prop} (R:Room (n+2) A) (hh:A.handled=none) (K:Stk C A β s.heap) (I:Inv C β s.heap H) (vx:VRs C β s.heap xs vs)
  (hp:Pst C Nix (VR C) β s (f.run Φ vs H) Q E):codeAny (model C.prog C.w) A (.call (.ref (C.fnv k)) ⟨xs,[]⟩) (fun r s'=>match r with|.ok (.ret v)=>Q v s'|.ok _=>False|.error e=>E e s') s:=by
 obtain ⟨d,D⟩:=D.ex
 unfold Fun.run at hp
 by_cases hargs:vs.length=f.params
 rotate_left
 ·rw [if_neg hargs] at hp; exact hp.elim
 rw [if_pos hargs] at hp
 have hxl:xs.length=d.ps.length:=by rw [vx.length,hargs,D.hlen]
 refine codeAny_call_cells (by have:=R.depth; omega) (I.base _ _ D.ho) D.hd (B.nolimit.keeps I.base) (D.hcd.keeps I.base) D.hbody (D.hbind xs hxl) D.hclo (fun x hx=>?_) (fun s₁ ic=>?_) D.hco D.hgen D.hkind
 ·rcases D.hps x.1 (List.of_mem_zip (show (x.1,x.2)∈_ from hx)).1 with h|h
  ·exact .inl h
  ·exact .inr ⟨h,PySem.W.cellsFrom_some _ _ _ (.inl h)⟩
 generalize henv:callEnvC d.fd s.heap.objs.size (C.fnv k)=env at ic ⊢
 have ce:CallE C β s.heap d (C.fnv k) env:=CallE.of (h₁:=s₁.heap) henv fun x c hc=>by have:=ic.above x c (mem_of_lookup hc); rw [← henv] at this; exact this
 have keep₁:=ic.toInCall.keep
 have e₁:=ic.toInCall.same
 have a₁:After C Nix β s β s₁ H:=by
  obtain ⟨h₁,tk₁,e₁⟩:=e₁
  have:=I.keeps (s:=s) (h':=s₁.heap) s₁.toks keep₁
  rw [e₁] at this ⊢; exact this
 have er:=Zdf D ce I hxl a₁ vx ic
 have nf:NoFree (A.deeper env) env:=by
  refine e1a2 K fun l hl _=>?_
  exact ⟨fun x=>by rw [ce.kind]; exact D.hfree x,l,Around.frames_deeper hl⟩
 refine (D.hsound n Φ hF).go (A.deeper env) env _ H β s₁ _ _ nf (Zdg D ce a₁ er R hh K) ?_
 have hown:=ce.own
 have hfe:env.frame=some env.locals:=by rw [← henv]; rfl
 clear nf henv ce ic hF D R hh vx hxl hargs
 revert hp
 cases f.body Φ (args0 vs 0) H with
 | bad=>exact id
 | ok p H₁ =>
  intro hp w s' β' af hq
  exact Zdh I keep₁ e₁ hown af (Zdd hq.1) hp
 | err x H₁ =>
  intro hp e s' β' af hx
  exact Zdi I K a₁ keep₁ e₁ hown hfe er af hx hp
theorem fs_all (B:Base C mg mb) (t:Nat→Option Fun) (ht:∀ k f,t k=some f→DefOk C k f):∀ n,FS C (fns t n) (2 * n)
 | 0=>fun A k xs vs H β s Q E _ _ _ _ _ hp=>hp.elim
 | n+1=>fun A k xs vs H β s Q E R hh K I vx hp=>by
  have hp:Pst C Nix (VR C) β s (match t k with|some f=>f.run (fns t n) vs H|none=>.bad) Q E:=hp
  split at hp
  ·rename_i f hf
   have D:=ht k f hf
   refine ⟨?_,wpAny_call (Zdj B D (fs_all B t ht n) (by rw [show 2 * (n+1)=2 * n+2 by omega] at R; exact R) hh K I vx hp)⟩
   obtain ⟨d,D⟩:=D.ex
   exact ⟨d.o,d.fd,D.ho,D.hd⟩
  ·exact hp.elim
end
end Mine
namespace Mine
open PySem PyProof.Rows PySem.Calls PySem.SeqAt
section
variable {C:Cx} {n:Nat} {S S':Sco} {env:Env} {β β':List Addr} {s s':Shared} {σ σ':Loc} {H H':AH} {A:Around} {E:Value→Shared→Prop} {mg mb:Str→Option Value} {Φ:Fns}
structure CompS (S S':Sco) (scope:Scope) (x:Str) (k:Nat):Prop where
 kind:scope.kind=.function
 nocell:∀ y∈scope.names,y.2≠.cell
 loc:scope.names.lookup x=some .local
 names:∀ y∈scope.names,y.2=.local→scope.names.lookup y.1=some .local
 slot:S'.Γ.lookup x=some k
 vars:∀ y i,S'.Γ.lookup y=some i→(y=x∧i=k)∨(scope.names.lookup y=some .free∧S.Γ.lookup y=some i∧i≠k)
 inj:∀ y z i,S'.Γ.lookup y=some i→S'.Γ.lookup z=some i→y=z
 glo:∀ y∈S'.G,scope.names.lookup y=some .globalImplicit
 cap:∀ y∈S'.K,scope.names.lookup y=some .free
 free:∀ y∈scope.names,y.2=.free→y.1∈S.K∧∃ i,S.Γ.lookup y.1=some i
 nol:S'.L=[]
theorem Zdk {names:List (Str×NameKind)} {f:Str×NameKind→Bool} {x:Str}:(names.map fun p=>if f p then (p.1,NameKind.cell) else p).lookup x=(names.lookup x).map fun k=>if f (x,k) then .cell else k:=by
 induction names with
 | nil=>rfl
 | cons p r ih =>
  obtain ⟨y,k⟩:=p
  simp only [List.map_cons]
  cases hx:x == y with
  | true =>
   have:=beq_iff_eq.mp hx; subst this
   split <;> rename_i hf
   ·simp [List.lookup_cons,hf]
   ·simp [List.lookup_cons,hf]
  | false =>
   split <;> simp only [List.lookup_cons,hx,ih]
theorem Zdl {scope:Scope} {x:Str}:(relabel scope env).names.lookup x=(scope.names.lookup x).map fun k=>if (k == .free&&env.scope.kind == .function&&env.kindOf x == some .cell) then .cell else k :=
 Zdk (f:=fun p=>p.2 == .free&&env.scope.kind == .function&&env.kindOf p.1 == some .cell)
noncomputable def clOf (c:Str→Addr):List (Str×NameKind)→List (Str×Addr)→List (Str×Addr)
 | [],acc=>acc
 | (y,k)::r,acc=>clOf c r (if k == .free then (y,c y)::acc else acc)
theorem Zdm {scope:Scope} (c:Str→Addr) (hc:∀ y∈scope.names,y.2=.free→env.cells.lookup y.1=some (c y.1)):closureFor scope env=pure (clOf c scope.names []):=by
 have go:∀ (l:List (Str×NameKind)) (acc:List (Str×Addr)),(∀ y∈l,y.2=.free→env.cells.lookup y.1=some (c y.1)) →
   (forIn l acc fun (x:Str×NameKind) (r:List (Str×Addr))=>(if x.2 == .free then (do let a ← cellOf env x.1; pure (ForInStep.yield ((x.1,a)::r))) else pure (ForInStep.yield r):Sem _))=pure (clOf c l acc):=by
  intro l
  induction l with
  | nil=>intro acc _; rfl
  | cons p r ih =>
   intro acc hl
   obtain ⟨y,k⟩:=p
   rw [List.forIn_cons]
   by_cases hk:k=.free
   ·subst hk
    have h1:cellOf env y=pure (c y):=by unfold cellOf; rw [hl (y,.free) List.mem_cons_self rfl]
    simp only [beq_self_eq_true,if_true,h1]
    exact ih _ fun z hz=>hl z (List.mem_cons_of_mem _ hz)
   ·have hb:(k == NameKind.free)=false:=by simpa using hk
    simp only [hb,Bool.false_eq_true,if_false]
    rw [clOf,hb]
    exact ih _ fun z hz=>hl z (List.mem_cons_of_mem _ hz)
 unfold closureFor
 have:=go scope.names [] hc
 have e:(forIn scope.names ([]:List (Str×Addr)) fun (x:Str×NameKind) (r:List (Str×Addr))=>(match x with|(name,kind)=>(if kind == .free then (do let a ← cellOf env name; pure (ForInStep.yield ((name,a)::r))) else pure (ForInStep.yield r)):Sem _))=pure (clOf c scope.names []):=this
 first
  | exact (congrArg (fun m:Sem (List (Str×Addr))=>m >>= fun r=>pure r) e)
  | (rw [e]; rfl)
  | (trace_state; fail "shape")
theorem Zdn (c:Str→Addr):∀ (l:List (Str×NameKind)) (acc:List (Str×Addr)) (y:Str) (a:Addr),(clOf c l acc).lookup y=some a→a=c y∨acc.lookup y=some a
 | [],acc,y,a,h=>.inr h
 | (z,k)::r,acc,y,a,h=>by
  rw [clOf] at h
  rcases Zdn c r _ y a h with h|h
  ·exact .inl h
  ·split at h
   ·rw [List.lookup_cons] at h
    cases hz:y == z with
    | true=>rw [hz] at h; obtain rfl:=inj h; rw [beq_iff_eq.mp hz]; exact .inl rfl
    | false=>rw [hz] at h; exact .inr h
   ·exact .inr h
theorem Zdo (c:Str→Addr):∀ (l:List (Str×NameKind)) (acc:List (Str×Addr)) (y:Str),((y,NameKind.free)∈l∨(acc.lookup y).isSome=true)→((clOf c l acc).lookup y).isSome=true
 | [],acc,y,h=>h.elim (fun h=>nomatch h) id
 | (z,k)::r,acc,y,h=>by
  rw [clOf]
  refine Zdo c r _ y ?_
  rcases h with h|h
  ·rcases List.mem_cons.mp h with e|h
   ·cases e; right; simp [List.lookup_cons]
   ·exact .inl h
  ·right
   split
   ·rw [List.lookup_cons]; split <;> simp_all
   ·exact h
theorem ER.comp {scope:Scope} {x:Str} {k:Nat} {c:Str→Addr} {K:Addr} {m:Str→Option Value} {y:Value} {v:AV} {h:Heap} (cs:CompS S S' scope x k) (e:ER C S env β h σ) (hc:∀ z∈scope.names,z.2=.free→env.cells.lookup z.1=some (c z.1))
  (hK:K∉β) (hKB:C.base.get? K=none) (hns:h.Ns K m) (hm:m x=some y) (vy:VR C β h y v) (hne:∀ z a,env.cells.lookup z=some a→a≠K):ER C S' (compEnvC scope (clOf c scope.names []) K env) β h (upd σ k v):=by
 have mem_free:∀ z,scope.names.lookup z=some .free→(z,NameKind.free)∈scope.names:=fun z hz=>mem_of_lookup hz
 have hcell:∀ z a,(clOf c scope.names []).lookup z=some a→scope.names.lookup z=some .free∨True→a=c z:=fun z a hz _=>by
  rcases Zdn c _ _ z a hz with h|h
  ·exact h
  ·injection h
 have inCl:∀ (l:List (Str×NameKind)) (acc:List (Str×Addr)) (z:Str) (a:Addr),(clOf c l acc).lookup z=some a→(z,NameKind.free)∈l∨acc.lookup z=some a:=by
  intro l
  induction l with
  | nil=>intro acc z a h; exact .inr h
  | cons p r ih =>
   intro acc z a h
   obtain ⟨w,kd⟩:=p
   rw [clOf] at h
   rcases ih _ z a h with h|h
   ·exact .inl (List.mem_cons_of_mem _ h)
   ·split at h
    ·rename_i hkd
     rw [List.lookup_cons] at h
     cases hz:z == w with
     | true =>
      rw [beq_iff_eq.mp hz,beq_iff_eq.mp hkd]; exact .inl List.mem_cons_self
     | false=>rw [hz] at h; exact .inr h
    ·exact .inr h
 have hcl:∀ z a,(clOf c scope.names []).lookup z=some a→env.cells.lookup z=some a:=fun z a hz=>by
  rcases inCl _ _ z a hz with h|h
  ·rw [hcell z a hz (.inr trivial)]; exact hc _ h rfl
  ·injection h
 refine ⟨cs.kind,e.globals,e.builtins,hK,hKB,fun z hz=>?_,fun z hz=>?_,(fun z hz=>by rw [cs.nol] at hz; exact (nomatch hz)),fun z a hz=>?_,fun z w a hz hw=>e.apart z w a (hcl z a hz) (hcl w a hw),cs.inj,m,hns,fun z i hz=>?_⟩
 ·show (relabel scope env).names.lookup z=_
  rw [Zdl,cs.glo z hz]; rfl
 ·show (relabel scope env).names.lookup z=_∨(relabel scope env).names.lookup z=_
  rw [Zdl,cs.cap z hz]
  simp only [Option.map_some]
  split
  ·exact .inl rfl
  ·exact .inr rfl
 ·refine e0a4 (e.cell z a (hcl z a hz)) fun h1 h2 h3 _=>?_
  exact ⟨h1,h2,h3,hne z a (hcl z a hz)⟩
 ·rcases cs.vars z i hz with ⟨rfl,rfl⟩|⟨hf,hΓ,hik⟩
  ·refine .inl ⟨?_,?_⟩
   ·show (relabel scope env).names.lookup z=_
    rw [Zdl,cs.loc]; rfl
   ·rw [upd_self]; exact ⟨y,hm,vy⟩
  ·refine .inr ⟨?_,?_⟩
   ·show (relabel scope env).names.lookup z=_∨(relabel scope env).names.lookup z=_
    rw [Zdl,hf]
    simp only [Option.map_some]
    split
    ·exact .inl rfl
    ·exact .inr rfl
   ·have hmem:=mem_free z hf
    have hcz:=hc _ hmem rfl
    refine Exists.elim (Option.isSome_iff_exists.mp (Zdo c scope.names [] z (.inl hmem))) fun a ha=>?_
    have:=hcl z a ha
    refine e1a2 e.vars fun m' _ hv=>?_
    rw [upd_ne _ _ hik]
    rcases hv z i hΓ with ⟨hk,_⟩|⟨_,a',w,ha',hw,ho⟩
    ·rcases e.cap z (cs.free _ hmem rfl).1 with h|h <;> rw [hk] at h <;> cases h
    ·rw [this] at ha'; obtain rfl:=inj ha'
     exact ⟨a,w,ha,hw,ho⟩
structure STf (C:Cx) (n:Nat) (S:Sco) (ifs:List Expr) (d:DT):Prop where
 go:∀ A env σ H β s Q E,Pre C n A S env β s σ H→Pst C Nix BR β s (d σ H) Q E →
  wpAny (model C.prog C.w) A (forIn ifs true fun c r=>if r=true then do let ok ← isTrue c env (eval c env); pure (ForInStep.yield ok) else pure (ForInStep.yield r)) Q E s
theorem STf.none:STf C n S [] tTrue:=by
 refine ⟨fun A env σ H β s Q E P hp=>?_⟩
 exact wpAny_tests_nil (hp.ok_here P.inv rfl)
theorem STf.one {e:Expr} {t:DT} (h:ST C n S e t):STf C n S [e] t:=by
 refine ⟨fun A env σ H β s Q E P hp=>?_⟩
 exact wpAny_tests_one (h.go A env σ H β s Q E P hp)
theorem pokeNs {K:Addr} {m:Str→Option Value} {h h':Heap} (hn:h.Ns K m) (hs:Heap.SameBut K h h'):Grow0 (fun a=>a=K) β h β h' :=
 ⟨⟨[],by simp,fun _ h=>nomatch h⟩,fun a o ho _ hx=>⟨o,by rw [hs.2 a hx]; exact ho,.refl _⟩,fun a ha=>by
  subst ha
  refine e3a3 hn fun o es ep ho hd _=>?_
  exact ⟨o,ho,.inl ⟨es,ep,hd⟩⟩⟩
structure CI (C:Cx) (β:List Addr) (s:Shared) (St:Nat→Heap→Prop) (K D J:Addr) (i:Nat) (j:Nat) (H':AH) (β':List Addr) (s':Shared):Prop where
 af:After C Nix β s β' s' H'
 st:St j s'.heap
 ns:∃ m,s'.heap.Ns K m
 d:β'[i]?=some D
 jn:J∉β'
 kn:K∉β'
theorem Zdp {elt iter:Expr} {x:Str} {px pos:Pos} {ifs:List Expr} {scope:Scope} {k:Nat} {d:DE} {t:DT} {c:Str→Addr} {src:AH→Option (List AV)} {J D K:Addr} {fp:List Addr} {St:Nat→Heap→Prop} {R:Result→Shared→Prop}
  (hS:S.calm=true) (cs:CompS S S' scope x k) (he:SE C n S' elt d) (ht:STf C n S' ifs t) (P₁:Pre C n A S env β s σ H) (hc:∀ z∈scope.names,z.2=.free→env.cells.lookup z.1=some (c z.1)) (T:Itr C A β s.heap src J fp St) (N:Nat)
  {s₄:Shared} {m₀:Str→Option Value} (af₄:After C Nix β s (β++[D]) s₄ (H++[.list []])) (st:St 0 s₄.heap) (hns:s₄.heap.Ns K m₀) (hJ:J∉β++[D]) (hK:K∉β++[D]) (hK0:s.heap.get? K=none) (hKJ:K≠J) (hKf:K∉fp)
  (hR:match Zav d t k σ H.length src N 0 (H++[.list []]) with
   | .ok _ H₂=>∀ s' β₂,After C Nix β s β₂ s' H₂→β₂[H.length]?=some D→(∃ m,s'.heap.Ns K m)→K∉β₂→R (.ok .next) s'
   | _=>False) :
  codeAny (model C.prog C.w) A (.compLoop (.ListComp elt [⟨.Name x px,iter,ifs,0⟩] scope pos) 0 (.ref J) (.ref D) (compEnvC scope (clOf c scope.names []) K env)) R s₄:=by
 have hBJ:=P₁.inv.noB J T.new
 have hBK:=P₁.inv.noB K hK0
 have hne:∀ z a,env.cells.lookup z=some a→a≠K:=fun z a hz q=>by
  subst q
  refine e0a2' (P₁.env.cell z a hz) fun qZ0 _=>?_; obtain ⟨_,o,ho,_⟩:=qZ0
  rw [hK0] at ho; injection ho
 generalize hR0:Zav d t k σ H.length src N 0 (H++[.list []])=R0 at hR
 refine codeAny_compLoop_tests (fun m s'=>∃ j H' β',CI C β s St K D J H.length j H' β' s'∧R0=Zav d t k σ H.length src m j H') ?_ N
  ⟨0,_,_,⟨af₄,st,⟨_,hns⟩,by rw [← P₁.inv.len]; simp,hJ,hK⟩,hR0.symm⟩
 clear hR0
 intro m s' hZ; refine e3a2 hZ fun j H' β' ci heq=>?_
 have af:=ci.af
 have st':=ci.st
 refine Exists.elim ci.ns fun m' hns'=>?_
 have hD:=ci.d
 have hJβ:=ci.jn
 have hKβ:=ci.kn
 clear ci
 cases m with
 | zero=>simp only [Zav] at heq; rw [heq] at hR; exact hR.elim
 | succ m =>
 simp only [Zav] at heq
 cases hsrc:src H' with
 | none=>rw [hsrc] at heq; rw [heq] at hR; exact hR.elim
 | some l =>
 rw [hsrc] at heq
 dsimp only at heq
 cases hd:l[j]? with
 | some e =>
  rw [hd] at heq
  dsimp only at heq
  refine T.item j s' _ _ _ _ e _ _ af.inv af.grow st' hsrc hd fun v h' tk hv st₁ hkeep=>?_
  have af₁:=af.poke (tk:=tk) (T.grow0 (β:=β') st' hkeep) hkeep T.new hJβ hBJ
  have hns₁:h'.Ns K m':=by
   refine e3a2 hns' fun o es ep ho hr=>?_
   exact ⟨o,es,ep,hkeep K o (by simpa using hKJ) ho,hr⟩
  have hv:=hv.mono0 (T.grow0 (β:=β') st' hkeep)
  dsimp only
  refine wpAny_assign_Name (wpAny_storeName_local (m:=m') ?_ hns₁ (fun h₂ hns₂ hs₂=>?_) ?_)
  ·show (relabel scope env).names.lookup x=_
   rw [Zdl,cs.loc]; rfl
  ·have hs₂:Heap.SameBut K h' h₂:=hs₂
   have hns₂:h₂.Ns K _:=hns₂
   have af₂:=af₁.poke (tk:=tk+1) (pokeNs (β:=β') hns₁ hs₂) (fun b o hb ho=>by rw [hs₂.2 b (by simpa using hb)]; exact ho) hK0 hKβ hBK
   have st₂:St (j+1) h₂:=T.frame _ _ _ st₁ fun b hb o ho=>by rw [hs₂.2 b (fun q=>hKf (q ▸ hb))]; exact ho
   have hv:=hv.mono0 (pokeNs (β:=β') hns₁ hs₂)
   have er:=P₁.env.mono af₂.grow
   have er':ER C S' (compEnvC scope (clOf c scope.names []) K env) β' h₂ (upd σ k e):=ER.comp cs er hc hKβ hBK hns₂ (if_pos rfl) hv hne
   have pre:Pre C n A S' (compEnvC scope (clOf c scope.names []) K env) β' { s' with heap:=h₂,toks:=tk+1 } (upd σ k e) H':=⟨af₂.inv,er',P₁.room,fun _=>P₁.calm hS,P₁.stk.mono af₂.grow,P₁.ne⟩
   have hJl:∃ o,h₂.get? J=some o:=by obtain ⟨o,_,ho,_⟩:=T.obj _ _ st₂; exact ⟨o,ho⟩
   refine ht.go A _ _ H' β' _ _ _ pre ?_
   cases hc':t (upd σ k e) H' with
   | ok b H₁ =>
    rw [hc',Rs.bindB_ok] at heq
    intro b' s₃ β₃ af₃ hb'
    have hb':b'=b:=hb'
    subst hb'
    have pre₃:=pre.after af₃
    have st₃:=T.stays st₂ af₃.grow.toGrow0 (fun q=>q.elim) hJβ fun b o ho hn=>af₂.grow.notin ho hn
    have afs₃:=af₂.trans af₃
    have hJ₃:J∉β₃:=by refine Exists.elim hJl fun o ho=>?_; exact af₃.grow.notin ho hJβ
    have hK₃:K∉β₃:=by refine e3a2 hns₂ fun o _ _ ho _=>?_; exact af₃.grow.notin ho hKβ
    have hns₃:∃ m,s₃.heap.Ns K m:=⟨_,Heap.Ns.kept hns₂ fun o ho=>af₃.grow.keep K o ho hKβ id⟩
    have hD₃:β₃[H.length]?=some D:=by
     refine e1a2 af₃.grow.ext fun ν eZ1 _=>?_; subst eZ1
     rw [List.getElem?_append_left (List.getElem?_eq_some_iff.mp hD).1]; exact hD
    cases b' with
    | true =>
     simp only [if_true] at heq ⊢
     refine he.go A _ _ H₁ β₃ s₃ _ _ pre₃ ?_
     cases hx':d (upd σ k e) H₁ with
     | ok u H₂ =>
      rw [hx',Rs.bindB_ok] at heq
      intro y s₅ β₅ af₅ hy
      have st₅:=T.stays st₃ af₅.grow.toGrow0 (fun q=>q.elim) hJ₃ fun b o ho hn=>afs₃.grow.notin ho hn
      have afs₅:=afs₃.trans af₅
      have hJ₅:J∉β₅:=by obtain ⟨o,_,ho,_⟩:=T.obj _ _ st₃; exact af₅.grow.notin ho hJ₃
      refine Exists.elim hns₃ fun mm hnsm=>?_
      have hK₅:K∉β₅:=by refine e3a2 (id hnsm) fun o _ _ ho _=>?_; exact af₅.grow.notin ho hK₃
      have hns₅:s₅.heap.Ns K mm:=Heap.Ns.kept hnsm fun o ho=>af₅.grow.keep K o ho hK₃ id
      have hD₅:β₅[H.length]?=some D:=by
       refine e1a2 af₅.grow.ext fun ν eZ1 _=>?_; subst eZ1
       rw [List.getElem?_append_left (List.getElem?_eq_some_iff.mp hD₃).1]; exact hD₃
      cases hset:setAt H₂ (.ref H.length) (appF u) with
      | none=>rw [hset] at heq; rw [heq] at hR; exact hR.elim
      | some H₃ =>
       rw [hset] at heq
       refine e3a4 (Zct hset) fun i' l₂ l₂' e1 hl₂ hf eZ6=>?_; subst eZ6
       cases e1
       refine e1a2 (af₅.inv.obj _ _ _ hD₅ hl₂) fun items hpl hvs=>?_
       refine Zcw (n:=n) (us:=[u]) af₅.inv P₁.room hpl hvs (.cons hy .nil) hf fun h₆ items' tk₆ hsb hpl' hvs'=>?_
       have af₆:=af₅.inv.setList hD₅ hl₂ hsb hpl' hvs' tk₆
       have hDne:∀ {a},a∉β₅→a≠D:=fun ha q=>ha (q ▸ List.mem_of_getElem? hD₅)
       refine ⟨m,Nat.lt_succ_self _,j+1,_,β₅,⟨afs₅.trans af₆,T.stays st₅ af₆.grow.toGrow0 (fun q=>q.elim) hJ₅ fun b o ho hn=>afs₅.grow.notin ho hn,⟨mm,?_⟩,hD₅,hJ₅,hK₅⟩,heq⟩
       refine e3a2 hns₅ fun o es ep ho hr=>?_
       exact ⟨o,es,ep,by rw [hsb.2 K (hDne hK₅)]; exact ho,hr⟩
     | err z H₂=>rw [hx'] at heq; rw [heq] at hR; exact hR.elim
     | bad=>rw [hx'] at heq; rw [heq] at hR; exact hR.elim
    | false =>
     simp only [Bool.false_eq_true,if_false] at heq ⊢
     exact ⟨m,Nat.lt_succ_self _,j+1,_,β₃,⟨afs₃,st₃,hns₃,hD₃,hJ₃,hK₃⟩,heq⟩
   | err z H₁=>rw [hc'] at heq; rw [heq] at hR; exact hR.elim
   | bad=>rw [hc'] at heq; rw [heq] at hR; exact hR.elim
  ·have hk:(compEnvC scope (clOf c scope.names []) K env).scope.kind=ScopeKind.function:=cs.kind
   rw [hk]; rfl
 | none =>
  rw [hd] at heq
  dsimp only at heq
  by_cases hlk:l.length=j
  case neg=>rw [if_neg hlk] at heq; rw [heq] at hR; exact hR.elim
  rw [if_pos hlk] at heq
  refine T.done j s' _ _ _ _ _ _ af.inv af.grow st' hsrc hlk fun h' tk hkeep=>?_
  have af₁:=af.poke (tk:=tk) (T.grow0 (β:=β') st' hkeep) hkeep T.new hJβ hBJ
  rw [heq] at hR
  refine hR _ β' af₁ hD ⟨m',?_⟩ hKβ
  refine e3a2 hns' fun o es ep ho hr=>?_
  exact ⟨o,es,ep,hkeep K o (by simpa using hKJ) ho,hr⟩
theorem SE.comp {elt iter:Expr} {x:Str} {px pos:Pos} {ifs:List Expr} {scope:Scope} {k:Nat} {d it:DE} {t:DT} (hi:SE C n S iter it) (cs:CompS S S' scope x k) (he:SE C n S' elt d) (ht:STf C n S' ifs t) (hS:S.calm=true) (hs:∀ env x,foldedSetIterable iter env x=pure x) :
  SE C n S (.ListComp elt [⟨.Name x px,iter,ifs,0⟩] scope pos) (dComp d t k it):=by
 refine ⟨fun A env σ H β s Q E P hp=>?_⟩
 rw [eval_ListComp]
 obtain ⟨c,hc⟩:∃ c:Str→Addr,∀ z∈scope.names,z.2=.free→env.cells.lookup z.1=some (c z.1):=by
  refine ⟨fun z=>(env.cells.lookup z).getD 0,fun z hz hf=>?_⟩
  refine mae (cs.free z hz hf) fun h1 i h2=>?_
  refine e1a2 P.env.vars fun m _ hv=>?_
  rcases hv z.1 i h2 with ⟨hk,_⟩|⟨_,a,w,ha,_⟩
  ·rcases P.env.cap z.1 h1 with h|h <;> rw [hk] at h <;> cases h
  ·simp [ha]
 refine wpAny_comprehension_free (use:=none) rfl (hs env) (Zdm c hc) cs.kind cs.names ?_
 show wpAny _ A (eval iter env) _ _ s
 refine Pst.then hp (fun _ h'=>hi.go A env σ H β s _ E P h') ?_
 intro y s₁ v H₁ β₁ _ a₁ vy hp₁
 have P₁:=P.after a₁
 have key:∃ (src:AH→Option (List AV)) (N:Nat),Pst C Nix (VR C) β₁ s₁ (Zax H₁ (Zav d t k σ H₁.length src N 0 (H₁++[.list []]))) Q E ∧
   ∀ (Q':Value→Shared→Prop) (E':Value→Shared→Prop),(∀ J fp St s₂,After C Nix β₁ s₁ β₁ s₂ H₁→Itr C A β₁ s₁.heap src J fp St→St 0 s₂.heap→J∉β₁→Q' (.ref J) s₂)→wpAny (model C.prog C.w) A (pyIter y) Q' E' s₁:=by
  cases hl:iter? v with
  | none =>
   rw [hl] at hp₁
   dsimp only at hp₁
   cases v with
   | ref j =>
    dsimp only at hp₁
    cases hL:listOf? (H₁++[.list []]) (.ref j) with
    | none=>rw [Zcq hL] at hp₁; exact hp₁.elim
    | some l =>
     have hj:∃ a,β₁[j]?=some a:=by
      refine e1a2 (VR.inv vy) fun _ e9 h=>?_
      cases e9
      exact ⟨_,h⟩
     obtain ⟨a,hj⟩:=hj
     have hlt:j < H₁.length:=by
      have:=(List.getElem?_eq_some_iff.mp hj).1
      rw [a₁.inv.len] at this; exact this
     have hL':listOf? H₁ (.ref j)=some l:=by
      unfold listOf? at hL ⊢
      dsimp only at hL ⊢
      rw [List.getElem?_append_left hlt] at hL; exact hL
     exact ⟨_,20000,hp₁,fun Q' E' hq=>Zco a₁.inv (P.calm hS) vy hL' hq⟩
   | _=>exact hp₁.elim
  | some l =>
   rw [hl] at hp₁
   dsimp only at hp₁
   refine ⟨fun _=>some l,l.length+1,?_,fun Q' E' hq=>Zcn a₁.inv (P.calm hS) vy hl hq⟩
   rw [Zaw _ _ _ (by exact Nat.le_refl _) (by exact Nat.zero_le _)]
   exact hp₁
 refine e2a2 key fun src N hp₁ hiter=>?_
 ·refine hiter _ _ fun J fp St s₂ a₂ T st hJ=>?_
  have a₃:=a₂.inv.alloc (s:=s₂) (o:={ cls:=.type "list",dict:=none,data:=.seq ([]:List Value).toArray }) (ao:=.list []) s₂.toks rfl
   (fun β' h' g hg=>⟨#[],⟨_,hg⟩,.nil⟩)
  refine wpAny_newObj_type (wpAny_newFunctionEnv cs.nocell (by intro y hy; simp at hy) (fun h₁ hns hsb=>?_) cs.kind)
  dsimp only at hns hsb ⊢
  generalize hH3:s₂.heap.push { cls:=.type "list",dict:=none,data:=.seq ([]:List Value).toArray }=h₃ at a₃ hns hsb ⊢
  have hKn:∀ b o,h₃.get? b=some o→b≠h₃.objs.size:=fun b o e=>Nat.ne_of_lt (Heap.lt_size e)
  have k₄:∀ b o,h₃.get? b=some o→h₁.get? b=some o:=fun b o e=>by
   rw [hsb.2 b (hKn b o e)]; exact Heap.get?_push_of_some _ e
  have a₄:=a₃.inv.keeps (s:={ s₂ with heap:=h₃,toks:=s₂.toks }) (h':=h₁) (s₂.toks+([]:List (Str×Value)).length) k₄
  have a₁₄:=(a₂.trans a₃).trans a₄
  have hK₃:h₃.get? h₃.objs.size=none:=by
   cases q:h₃.get? h₃.objs.size with
   | none=>rfl
   | some o=>exact absurd rfl (hKn _ o q)
  have hK₁:s₁.heap.get? h₃.objs.size=none:=by
   cases q:s₁.heap.get? h₃.objs.size with
   | none=>rfl
   | some o =>
    exfalso
    by_cases hm:h₃.objs.size∈β₁
    ·refine Exists.elim ((a₂.trans a₃).inv.live _ (List.mem_append_left _ hm)) fun o' ho'=>?_
     exact hKn _ o' ho' rfl
    ·obtain ⟨o',ho',_⟩:=(a₂.trans a₃).grow.keep _ o q hm id
     exact hKn _ o' ho' rfl
  have hJ₂:∃ o,s₂.heap.get? J=some o:=by obtain ⟨o,_,ho,_⟩:=T.obj _ _ st; exact ⟨o,ho⟩
  have hJ₃:J∉β₁++[s₂.heap.objs.size]:=by
   refine Exists.elim hJ₂ fun o ho=>?_
   exact a₃.grow.notin ho hJ
  have k₃:∀ b o,s₂.heap.get? b=some o→h₃.get? b=some o:=fun b o e=>by rw [← hH3]; exact Heap.get?_push_of_some _ e
  have hKβ:h₃.objs.size∉β₁++[s₂.heap.objs.size]:=fun hm=>by
   refine Exists.elim (a₃.inv.live _ hm) fun o ho=>?_
   exact hKn _ o ho rfl
  have hKf:h₃.objs.size∉fp:=fun hm=>by
   by_cases q:h₃.objs.size=J
   ·refine Exists.elim hJ₂ fun o ho=>?_
    exact hKn _ o (k₃ _ o ho) q.symm
   ·obtain ⟨h1,⟨o,ho⟩,_⟩:=T.foot _ hm q
    rw [hK₁] at ho; injection ho
  have hKJ:h₃.objs.size≠J:=fun q=>by
   refine Exists.elim hJ₂ fun o ho=>?_
   exact hKn _ o (k₃ _ o ho) q.symm
  have st₄:St 0 h₁:=T.frame _ _ _ st fun b _ o ho=>k₄ b o (k₃ b o ho)
  have loop:codeAny (model C.prog C.w) A (.compLoop (.ListComp elt [⟨.Name x px,iter,ifs,0⟩] scope pos) 0 (.ref J) (.ref s₂.heap.objs.size) (compEnvC scope (clOf c scope.names []) h₃.objs.size env))
    (compPost (model C.prog C.w) A E none Q (.ref s₂.heap.objs.size) h₃.objs.size) { s₂ with heap:=h₁,toks:=s₂.toks+([]:List (Str×Value)).length }:=by
   refine Zdp hS cs he ht P₁ hc T N a₁₄ st₄ hns hJ₃ hKβ hK₁ hKJ hKf ?_
   unfold Zax at hp₁
   cases hg:Zav d t k σ H₁.length src N 0 (H₁++[.list []]) with
   | ok u H₂ =>
    rw [hg,Rs.bindB_ok] at hp₁
    intro s' β₂ af hD ⟨m,hm⟩ hK₂
    refine ⟨m,hm,fun h' hsb'=>?_⟩
    have hBK:C.base.get? h₃.objs.size=none:=by
     cases q:C.base.get? h₃.objs.size with
     | none=>rfl
     | some o=>have:=P₁.inv.base _ o q; rw [hK₁] at this; injection this
    have af':=af.poke (tk:=s'.toks) (pokeNs (β:=β₂) hm hsb') (fun b o hb ho=>by rw [hsb'.2 b (by simpa using hb)]; exact ho) hK₁ hK₂ hBK
    split at hp₁
    ·rename_i hH
     split at hp₁
     ·rename_i w hw
      refine e1a2 af'.grow.ext fun ν eZ1 _=>?_; subst eZ1
      rw [← a₁.inv.len] at hw
      refine hp₁ _ _ β₁ (af'.drop a₁.inv hH) (Zc3 af'.inv 12 (.ref ?_) hw)
      rw [a₁.inv.len]; exact hD
     ·exact hp₁.elim
    ·exact hp₁.elim
   | err z H₂=>rw [hg] at hp₁; exact hp₁.elim
   | bad=>rw [hg] at hp₁; exact hp₁.elim
  exact codeAny_compStart_list loop (T.self 0 _ _ _ st₄ loop)
end
end Mine
namespace Mine
open PySem PyProof.Rows PySem.Calls PySem.SeqAt
theorem Zdq {α:Type} {l:List (Str×α)} {p:Str×α→Bool} (h:l.all p=true) {x:Str} {i:α} (hx:l.lookup x=some i):p (x,i)=true:=List.all_eq_true.mp h _ (mem_of_lookup hx)
theorem Zdr {Γ:List (Str×Nat)} (h:(Γ.map (·.2)).Nodup) {x y:Str} {i:Nat} (hx:Γ.lookup x=some i) (hy:Γ.lookup y=some i):x=y:=by
 have h1:=mem_of_lookup hx
 have h2:=mem_of_lookup hy
 obtain ⟨a,ha,e1⟩:=List.getElem_of_mem h1
 obtain ⟨b,hb,e2⟩:=List.getElem_of_mem h2
 have:a=b:=by
  have ha':a < (Γ.map (·.2)).length:=by simpa using ha
  have hb':b < (Γ.map (·.2)).length:=by simpa using hb
  have q:(Γ.map (·.2))[a]=(Γ.map (·.2))[b]:=by simp [e1,e2]
  exact (List.getElem_inj h).mp q
 subst this
 rw [e1] at e2
 exact (Prod.mk.inj e2).1
noncomputable def Zds (S S':Sco) (scope:Scope) (x:Str) (k:Nat):Bool :=
 decide (scope.kind=.function)&&scope.names.all (fun y=>decide (y.2≠.cell))&&decide (scope.names.lookup x=some .local)&&scope.names.all (fun y=>decide (y.2=.local→scope.names.lookup y.1=some .local))&&decide (S'.Γ.lookup x=some k) &&
 S'.Γ.all (fun p=>decide ((p.1=x∧p.2=k)∨(scope.names.lookup p.1=some .free∧S.Γ.lookup p.1=some p.2∧p.2≠k)))&&decide (S'.Γ.map (·.2)).Nodup&&S'.G.all (fun y=>decide (scope.names.lookup y=some .globalImplicit))&&S'.K.all (fun y=>decide (scope.names.lookup y=some .free))&&S'.L.isEmpty &&
 scope.names.all (fun y=>decide (y.2=.free→y.1∈S.K∧(S.Γ.lookup y.1).isSome=true))
theorem CompS.of {S S':Sco} {scope:Scope} {x:Str} {k:Nat} (h:Zds S S' scope x k=true):CompS S S' scope x k:=by
 simp only [Zds,Bool.and_eq_true] at h
 refine e0a2' h fun qZ0 h10=>?_; obtain ⟨⟨⟨⟨⟨⟨⟨⟨⟨h1,h2⟩,h3⟩,h4⟩,h5⟩,h6⟩,h7⟩,h8⟩,h9⟩,h0⟩:=qZ0
 exact ⟨of_decide_eq_true h1,fun y hy=>of_decide_eq_true (List.all_eq_true.mp h2 y hy),of_decide_eq_true h3,fun y hy=>of_decide_eq_true (List.all_eq_true.mp h4 y hy),of_decide_eq_true h5,fun y i hy=>of_decide_eq_true (Zdq h6 hy),
  fun y z i hy hz=>Zdr (of_decide_eq_true h7) hy hz,fun y hy=>of_decide_eq_true (List.all_eq_true.mp h8 y hy),fun y hy=>of_decide_eq_true (List.all_eq_true.mp h9 y hy),
  fun y hy hf=>by
   refine e0a2' (of_decide_eq_true (List.all_eq_true.mp h10 y hy) hf) fun q1 q2=>?_
   exact ⟨q1,Option.isSome_iff_exists.mp q2⟩,List.isEmpty_iff.mp h0⟩
noncomputable def fdef (p:Program) (i:Nat):Arguments×List Stmt×Scope:=match p.main.body.getD i (.Pass default) with
 | .FunctionDef _ a b _ _ _ sc _ _ _=>(a,b,sc)
 | _=>(⟨[],[],none,[],[],none,[]⟩,[],default)
noncomputable def fbody (p:Program) (i:Nat):List Stmt:=(fdef p i).2.1
noncomputable def fscope (p:Program) (i:Nat):Scope:=(fdef p i).2.2
noncomputable def fdOf (K:PySem.W.Frag) (a:Addr):FuncData:=match K.lookup a with
 | some ⟨_,_,.func fd,_⟩=>fd
 | _=>default
noncomputable def isFd (K:PySem.W.Frag) (a:Addr):Bool:=match K.lookup a with
 | some ⟨_,_,.func _,_⟩=>true
 | _=>false
noncomputable def addrOf (K:PySem.W.Frag) (x:Str):Addr:=match PySem.W.nsIn K mainGlobals x with
 | some (some (.ref a))=>a
 | _=>0
noncomputable def Zdt (scope:Scope) (ps:List Str) (S:Sco):Bool :=
 decide (scope.kind=.function)&&!scope.isGenerator&&!scope.isCoroutine&&decide ps.Nodup&&ps.all (fun x=>decide (scope.names.lookup x=some .local∨scope.names.lookup x=some .cell)) &&
 S.Γ.all (fun p=>decide (scope.names.lookup p.1=some .local∨scope.names.lookup p.1=some .cell))&&decide (S.Γ.map (·.2)).Nodup&&(List.range ps.length).all (fun i=>decide (S.Γ.lookup (ps.getD i "")=some i)) &&
 S.G.all (fun y=>decide (scope.names.lookup y=some .globalImplicit))&&S.K.all (fun y=>decide (scope.names.lookup y=some .cell))&&scope.names.all (fun y=>decide (y.2≠.free))&&S.L.all (fun y=>decide (scope.names.lookup y=some .local))
theorem fd_at {K:PySem.W.Frag} {a:Addr} (h:isFd K a=true):∃ o,K.lookup a=some o∧o.data=.func (fdOf K a):=by
 unfold isFd at h
 unfold fdOf
 split at h
 ·rename_i a b fd c e
  rw [e]
  exact ⟨_,rfl,rfl⟩
 ·injection h
theorem Zdu {ps:List Str} {Γ:List (Str×Nat)} (h:(List.range ps.length).all (fun i=>decide (Γ.lookup (ps.getD i "")=some i))=true) {i:Nat} {x:Str} (hx:ps[i]?=some x):Γ.lookup x=some i:=by
 have:=of_decide_eq_true (List.all_eq_true.mp h i (List.mem_range.mpr (List.getElem?_eq_some_iff.mp hx).1))
 rw [List.getD_eq_getElem?_getD,hx] at this
 exact this
theorem DefOk.of' {C:Cx} {k:Nat} {f:Fun} (K:PySem.W.Frag) (X:K.In C.base) (bd:List Stmt) (sc:Scope) (ps:List Str) (S:Sco) (hfd:isFd K (C.fnv k)=true)
  (hbody:(fdOf K (C.fnv k)).body=.stmts (bd)) (hscope:(fdOf K (C.fnv k)).scope=sc) (hclo:(fdOf K (C.fnv k)).closure=[]) (hcode:PySem.W.codeIn K (fdOf K (C.fnv k)).code (fdOf K (C.fnv k)).qualname=true)
  (hgl:(fdOf K (C.fnv k)).globals=mainGlobals) (hbl:(fdOf K (C.fnv k)).builtins=builtinsNs) (hps:ps.length=f.params) (hchk:Zdt (sc) ps S=true)
  (hbind:∀ vals,vals.length=ps.length→bindArgs (fdOf K (C.fnv k)) ⟨vals,[]⟩=pure (ps.zip vals)) (hs:∀ n Φ,FS C Φ n→SSs C (n+1) S (bd) (f.body Φ)):DefOk C k f:=by
 subst hscope
 simp only [Zdt,Bool.and_eq_true] at hchk
 refine e0a2' hchk fun qZ0 h12=>?_; obtain ⟨⟨⟨⟨⟨⟨⟨⟨⟨⟨h1,h2⟩,h3⟩,h4⟩,h5⟩,h6⟩,h7⟩,h8⟩,h9⟩,h10⟩,h11⟩:=qZ0
 refine e1a2 (fd_at hfd) fun o ho hd=>?_
 exact ⟨⟨o,_,bd,ps,S⟩,X _ _ ho,hd,hbody,hclo,PySem.W.codeRec_of X hcode,of_decide_eq_true h1,(Bool.not_eq_true' _).mp h2,(Bool.not_eq_true' _).mp h3,hgl,hbl,hps,of_decide_eq_true h4,hbind,
  fun x hx=>of_decide_eq_true (List.all_eq_true.mp h5 x hx),fun x i hx=>of_decide_eq_true (Zdq h6 hx),fun x y i hx hy=>Zdr (of_decide_eq_true h7) hx hy,
  fun i x hx=>Zdu h8 hx,fun y hy=>of_decide_eq_true (List.all_eq_true.mp h9 y hy),fun y hy=>of_decide_eq_true (List.all_eq_true.mp h10 y hy),fun y hy=>of_decide_eq_true (List.all_eq_true.mp h12 y hy),
  fun x hx=>of_decide_eq_true (List.all_eq_true.mp h11 _ (mem_of_lookup hx)) rfl,hs⟩
end Mine
namespace Mine
open PySem PySem.W PyProof.Rows PySem.Calls PySem.SeqAt
theorem Zdv {C:Cx} {β:List Addr} {h:Heap}:∀ {vs:List Value} {ns:List Int},IntsAre vs ns→VRs C β h vs (ns.map .int)
 | _,_,.nil=>.nil
 | _,_,.cons _ _ r=>.cons (.int _ _) (Zdv r)
theorem Zdw {C:Cx} {mg mb:Str→Option Value} (B:Base C mg mb) (t:Nat→Option Fun) (ht:∀ k f,t k=some f→DefOk C k f) {k:Nat} {f:Fun} (hk:t k=some f) {s:Shared} (hs:s.heap=C.base) {l:Addr} {vs:List Value} {ns:List Int}
  (hl:s.heap.IsList l vs.toArray) (hi:IntsAre vs ns) {R:Result→Shared→Prop} (hrun:∃ H',fns t 12 k [.lst (ns.map .int)] []=.ok (.bool true) H')
  (hR:∀ s',(∀ b o,s.heap.get? b=some o→s'.heap.get? b=some o)→s'.os=s.os→s'.gens=s.gens→R (.ok (.ret (.bool true))) s') :
  codeAny (model C.prog C.w) callerA (.call (.ref (C.fnv k)) ⟨[.ref l],[]⟩) R s:=by
 obtain ⟨H',hrun⟩:=hrun
 have hrun:f.run (fns t 11) [.lst (ns.map .int)] []=.ok (.bool true) H':=by
  have e:fns t 12 k [.lst (ns.map .int)] []=f.run (fns t 11) [.lst (ns.map .int)] []:=by
   show (match t k with|some f=>f.run (fns t 11) [.lst (ns.map .int)] []|none=>.bad)=_
   rw [hk]
  rw [← e]; exact hrun
 have I:Inv C [] s.heap []:=⟨rfl,List.nodup_nil,fun i a o h=>by simp at h,fun a o e=>by rw [hs]; exact e,fun a ha=>nomatch ha⟩
 refine codeAny_mono (Zdj (E:=fun _ _=>False) (Q:=fun v s'=>R (.ok (.ret v)) s') B (ht k f hk) (fs_all B t ht 11) (n:=22) ⟨by decide,by decide⟩ rfl ⟨[],rfl,fun _ h=>nomatch h⟩ I (.cons (.lst hl (fun h=>nomatch h) (by simpa using Zdv hi)) .nil) ?_) ?_
 ·rw [hrun]
  intro x s' β' af hx
  have hx:x=.bool true:=by
   exact hx.inv
  subst hx
  refine e2a1 af.same fun h tk e=>?_
  refine hR s' (fun b o hb=>af.inv.base b o (by rw [← hs]; exact hb)) ?_ ?_
  ·rw [e]
  ·rw [e]
 ·intro r s' h
  cases r with
  | ok f=>cases f with
   | ret v=>exact h
   | _=>exact h.elim
  | error e=>exact h.elim
theorem ar1 {P:List Value→Prop} (h:∀ a,P [a]):∀ v:List Value,v.length=1→P v
 | [a],_=>h a
 | [],e=>by simp at e
 | _::_::_,e=>by simp at e
theorem arS {P:List Value→Prop} {n:Nat} (h:∀ a,∀ v:List Value,v.length=n→P (a::v)):∀ v:List Value,v.length=n+1→P v
 | a::v,e=>h a v (by simpa using e)
 | [],e=>by simp at e
noncomputable def isGlob (K:Frag) (x:Str):Bool:=match nsIn K mainGlobals x with
 | some (some (.ref _))=>true
 | _=>false
theorem Zdx {K:Frag} {h:Heap} {mg:Str→Option Value} {x:Str} (X:K.In h) (G:h.Ns mainGlobals mg) (e:isGlob K x=true):mg x=some (.ref (addrOf K x)):=by
 unfold isGlob at e
 unfold addrOf
 split at e
 ·rename_i a q
  first
   | exact mg_of X G q
   | (rw [q]; exact mg_of X G q)
 ·injection e
noncomputable def Zdy (K:Frag) (x:Str):Bool:=match nsIn K mainGlobals x with
 | some none=>true
 | _=>false
theorem Zdz {K:Frag} {h:Heap} {mg:Str→Option Value} {x:Str} (X:K.In h) (G:h.Ns mainGlobals mg) (e:Zdy K x=true):mg x=none:=by
 unfold Zdy at e
 split at e
 ·rename_i q
  exact mg_none_of X G q
 ·injection e
noncomputable def Zd0 (K:Frag) (x:Str) (i:Int):Bool:=match nsIn K mainGlobals x with
 | some (some (.int j _))=>decide (j=i)
 | _=>false
theorem Zd1 {K:Frag} {h:Heap} {mg:Str→Option Value} {x:Str} {i:Int} (X:K.In h) (G:h.Ns mainGlobals mg) (e:Zd0 K x i=true):∃ t,mg x=some (.int i t):=by
 unfold Zd0 at e
 split at e
 ·rename_i j t q
  have:=of_decide_eq_true e
  subst this
  exact ⟨t,mg_of X G q⟩
 ·injection e
theorem good_true {c:ClaimW} {cl:Str→Option Addr} {mean:ExcName→Option Value} {args:List WData} {s₁ s':Shared} (hn:∀ cls,c.raises args cls=false) (hp:c.post args (.bool true) args=true) (hk:∀ b o,s₁.heap.get? b=some o→s'.heap.get? b=some o) (hos:s'.os=s₁.os) (hg:s'.gens=#[]) :
  GoodWG c cl mean args s₁ (.ok (.ret (.bool true))) s':=GoodW.toG ⟨.inl ⟨_,.bool true,[],rfl,hn,.bool true,hp,unshared_nil⟩,hk,hos,hg⟩
end Mine
namespace Mine
open PySem PySem.W PyProof.Rows PySem.Calls PySem.SeqAt
set_option linter.unusedVariables false
section
variable {C:Cx} {n:Nat} {S:Sco} {env:Env} {β β':List Addr} {s s':Shared} {σ σ':Loc} {H H':AH} {A:Around} {E:Value→Shared→Prop} {Q:Value→Shared→Prop} {mg mb:Str→Option Value} {Φ:Fns}
inductive TNs (S:Sco):List Expr→List Nat→Prop
 | nil:TNs S [] []
 | cons {x:Str} {p:Pos} {i:Nat} {es:List Expr} {is:List Nat}:S.Γ.lookup x=some i→TNs S es is→TNs S (.Name x p::es) (i::is)
theorem TNs.length {es:List Expr} {is:List Nat} (h:TNs S es is):(assignEach es env).length=is.length:=by
 induction h with
 | nil=>rfl
 | cons _ _ ih=>exact congrArg (·+1) ih
theorem TNs.nostar {es:List Expr} {is:List Nat} (h:TNs S es is):(assignEach es env).findIdx? (·.1)=none:=by
 induction h with
 | nil=>rfl
 | cons _ _ ih=>show List.findIdx? (·.1) ((false,_)::assignEach _ env)=none; rw [List.findIdx?_cons,ih]; rfl
theorem Zd2:∀ {is:List Nat} {vs:List AV} {σ σ':Loc},Zay is vs σ=some σ'→is.length=vs.length
 | [],[],_,_,_=>rfl
 | [],_::_,_,_,h=>by injection h
 | _::_,[],_,_,h=>by injection h
 | _::r,_::vs,_,_,h=>by
  have:=Zd2 (is:=r) (vs:=vs) h
  simp [this]
theorem Zd3 {s₀:Shared} (F:NoFree A env) {es:List Expr} {is:List Nat} (h:TNs S es is):∀ {xs:List Value} {vs:List AV} {σ:Loc} {s:Shared} {Q:Unit→Shared→Prop},After C (Own env) β s₀ β s H→ER C S env β s.heap σ→VRs C β s.heap xs vs→Zay is vs σ=some σ' →
  (∀ s',After C (Own env) β s₀ β s' H→ER C S env β s'.heap σ'→Q () s')→wpAny (model C.prog C.w) A (assignInOrder ((assignEach es env).map (·.2)) xs) Q E s:=by
 induction h with
 | nil =>
  intro xs vs σ s Q af er hv hb hq
  cases vs with
  | nil =>
   cases hv
   obtain rfl:=inj hb
   exact wpAny_assignInOrder_none (hq s af er)
  | cons _ _=>injection hb
 | @cons x p i es is hx _ ih =>
  intro xs vs σ s Q af er hv hb hq
  cases hv with
  | nil=>injection hb
  | cons a r =>
   refine wpAny_assignInOrder_more (wpAny_assign_Name (Zcm af.inv er hx (F.1 x) a fun s' af' er'=>?_))
   exact ih (af.trans af') er' (r.mono af'.grow) hb hq
theorem TG.many {es:List Expr} {is:List Nat} {k:Nat} {pos:Pos} (h:TNs S es is):TG C S (.Tuple es k pos) (.many is):=by
 try refine ⟨?_⟩
 intro A env σ σ' H β s y v Q E hh F I er vx hb hq
 cases v with
 | tup vs =>
  refine e2a4 (VR.inv vx) fun _ _ eZ2 ht hn hv=>?_; subst eZ2
  have hlen:=hv.length
  rw [Array.length_toList] at hlen
  refine wpAny_assign_Tuple hh ht (by rw [h.length,Zd2 hb,hlen]) h.nostar fun h' hext=>?_
  have hk:∀ b o,s.heap.get? b=some o→h'.get? b=some o:=fun b o e=>hext b o (Nat.ne_of_lt (Heap.lt_size e)) e
  have af₀:=I.keeps (s:=s) s.toks hk
  have af:=af₀.weaken er.own
  exact Zd3 F h af (er.mono af₀.grow) (hv.mono af₀.grow) hb hq
 | _=>injection hb
noncomputable def sAsgT (t:Tg) (a:DE):DS:=fun σ H=>(a σ H).bind fun v H₁=>match t.bind v σ with
 | some σ₁=>.ok (.next,σ₁) H₁
 | none=>.bad
theorem SS.asgT {es:List Expr} {k:Nat} {tp:Pos} {e:Expr} {pos:Pos} {t:Tg} {a:DE} (ht:TG C S (.Tuple es k tp) t) (h:SE C n S e a) (hS:S.calm=true)
  (hs:∀ env,swapsWithSole [.Tuple es k tp] e pos.line env=pure false) (hw:∀ env,swappedStores [.Tuple es k tp] e env=pure none):SS C n S (.Assign [.Tuple es k tp] e pos) (sAsgT t a):=by
 refine ⟨fun A env σ H β s Q E F P hp=>?_⟩
 refine Assign_Tuple (Pst.thenE P.own hp (fun _ h'=>h.go A env σ H β s _ E P h') ?_) (hs env) (hw env)
 intro y s₁ v H₁ β₁ _ a₁ vx hp₁
 cases hb:t.bind v σ with
 | none=>rw [hb] at hp₁; exact hp₁.elim
 | some σ₁ =>
  rw [hb] at hp₁
  exact ht A env σ σ₁ H₁ β₁ s₁ y v _ _ (P.calm hS) F a₁.inv (P.after a₁).env vx hb fun s' af er=>hp₁ _ s' β₁ af ⟨trivial,er⟩
theorem SE.cmp2 {o₁ o₂:COp} {p₁ p₂:CmpOp} {l r t:Expr} {pos:Pos} {a b c:DE} (hl:SE C n S l a) (hr:SE C n S r b) (ht:SE C n S t c) (h₁:o₁.op=p₁) (h₂:o₂.op=p₂) (hm:lastMarks [p₁,p₂] [r,t]=false) :
  SE C n S (.Compare l [p₁,p₂] [r,t] pos) (dCmp2 o₁ o₂ a b c):=by
 subst h₁ h₂
 refine ⟨fun A env σ H β s Q E P hp=>?_⟩
 refine Compare_chain (Pst.then hp (fun _ h'=>hl.go A env σ H β s _ E P h') ?_) hm
 intro x s₁ v H₁ β₁ _ a₁ vx hp₁
 refine chain_link (Pst.then hp₁ (fun _ h'=>hr.go A env σ H₁ β₁ s₁ _ E (P.after a₁) h') ?_)
 intro y s₂ u H₂ β₂ _ a₂ vy hp₂
 cases hc:cmpop H₂ o₁ v u with
 | none=>rw [hc] at hp₂; exact hp₂.elim
 | some d =>
  rw [hc] at hp₂
  refine Zbx a₂.inv P.room (vx.mono a₂.grow) vy hc (wpAny_truthy_bool ?_)
  cases d with
  | false=>exact hp₂.ok_here a₂.inv (.bool false)
  | true =>
   refine chain_last (Pst.then hp₂ (fun _ h'=>ht.go A env σ H₂ β₂ s₂ _ E ((P.after a₁).after a₂) h') ?_)
   intro z s₃ q H₃ β₃ _ a₃ vz hp₃
   refine e1a2 (Zby a₃.inv hp₃) fun g hg hq=>?_
   exact Zbx a₃.inv P.room (vy.mono a₃.grow) vz hg hq
theorem ST.cmp2 {o₁ o₂:COp} {p₁ p₂:CmpOp} {l r t:Expr} {pos:Pos} {a b c:DE} (hl:SE C n S l a) (hr:SE C n S r b) (ht:SE C n S t c) (h₁:o₁.op=p₁) (h₂:o₂.op=p₂) (hm:lastMarks [p₁,p₂] [r,t]=false) :
  ST C n S (.Compare l [p₁,p₂] [r,t] pos) (tVal (dCmp2 o₁ o₂ a b c)):=by
 subst h₁ h₂
 refine ⟨fun A env σ H β s Q E P hp=>?_⟩
 have hp:=Pst.bind (R:=VR C) hp
 refine isTrue_chain (Pst.then hp (fun _ h'=>hl.go A env σ H β s _ E P h') ?_) hm
 intro x s₁ v H₁ β₁ _ a₁ vx hp₁
 refine test_link (Pst.then hp₁ (fun _ h'=>hr.go A env σ H₁ β₁ s₁ _ E (P.after a₁) h') ?_)
 intro y s₂ u H₂ β₂ _ a₂ vy hp₂
 have fin:∀ {s':Shared} {g:Bool},(∃ a_1 H' β',dCmp2 o₁ o₂ a b c σ H=.ok a_1 H'∧After C Nix β s β' s' H'∧VR C β' s'.heap (.bool g) a_1∧Pst C Nix BR β' s' (match a_1 with|.bool b=>.ok b H'|_=>.bad) Q E)→Q g s':=by
  exact fun hZ=>tv_end hZ
 cases hc:cmpop H₂ o₁ v u with
 | none=>rw [hc] at hp₂; exact hp₂.elim
 | some d =>
  rw [hc] at hp₂
  refine Zbx a₂.inv P.room (vx.mono a₂.grow) vy hc (wpAny_truthy_bool ?_)
  cases d with
  | false=>exact fin (hp₂.ok_here a₂.inv (.bool false))
  | true =>
   refine test_last (Pst.then hp₂ (fun _ h'=>ht.go A env σ H₂ β₂ s₂ _ E ((P.after a₁).after a₂) h') ?_)
   intro z s₃ q H₃ β₃ _ a₃ vz hp₃
   refine e1a2 (Zby a₃.inv hp₃) fun g hg hq=>?_
   exact Zbx a₃.inv P.room (vy.mono a₃.grow) vz hg (wpAny_truthy_bool (fin hq))
end
end Mine
namespace Mine
open PySem PySem.W PyProof.Rows PySem.Calls PySem.SeqAt
set_option linter.unusedVariables false
noncomputable def isiTOp (H:AH) (v:AV):List BI→Option Bool
 | []=>some false
 | t::r=>match isiOp H v t,isiTOp H v r with
  | some b,some c=>some (b || c)
  | _,_=>none
noncomputable def dIsiT (d:DE) (ts:List BI):DE:=fun σ H=>(d σ H).bind fun x H₁=>toR H₁ ((isiTOp H₁ x ts).map .bool)
noncomputable def cut (l:List AV) (lo hi:Option Int):List AV:=(l.take (match hi with|some i=>i.toNat|none=>l.length)).drop (match lo with|some i=>i.toNat|none=>0)
noncomputable def okB:Option Int→Bool
 | some i=>decide (0≤i)&&decide (i≤1048576)
 | none=>true
noncomputable def slcOp (H:AH) (v:AV) (lo hi:Option Int):Option AV:=if okB lo&&okB hi then (match v with
 | .tup l=>if l.length≤1048576 then some (.tup (cut l lo hi)) else none
 | v=>match listOf? H v with
  | some l=>if l.length≤1048576 then some (.lst (cut l lo hi)) else none
  | none=>none) else none
noncomputable def evPart:Option DE→Loc→AH→Rs (Option Int)
 | none,_,H=>.ok none H
 | some d,σ,H=>(d σ H).bind fun x H₁=>match x with
  | .int i=>.ok (some i) H₁
  | _=>.bad
noncomputable def dSl (a:DE) (lo hi:Option DE):DE:=fun σ H=>(a σ H).bind fun x H₁=>(evPart lo σ H₁).bind fun l H₂=>(evPart hi σ H₂).bind fun u H₃=>toR H₃ (slcOp H₃ x l u)
section
variable {C:Cx} {n:Nat} {S:Sco} {env:Env} {β β':List Addr} {s s':Shared} {σ σ':Loc} {H H':AH} {A:Around} {E:Value→Shared→Prop} {Q:Value→Shared→Prop} {mg mb:Str→Option Value} {Φ:Fns}
theorem Zd4 {k:Kd} {v:AV} (hk:kdOf H v=some k):∀ {ts:List BI} {b:Bool},isiTOp H v ts=some b→PySem.W.kitAny [] (.type k.name) (ts.map BI.val)=some b
 | [],b,h=>by obtain rfl:=inj h; rfl
 | t::r,b,h=>by
  simp only [isiTOp] at h
  cases h1:isiOp H v t with
  | none=>rw [h1] at h; injection h
  | some c=>cases h2:isiTOp H v r with
   | none=>rw [h1,h2] at h; injection h
   | some d =>
    rw [h1,h2] at h
    obtain rfl:=inj h
    have e2:=Zd4 hk h2
    unfold isiOp at h1
    rw [hk] at h1
    show (match PySem.W.kitOne [] (.type k.name) t.val with|some true=>some true|some false=>PySem.W.kitAny [] (.type k.name) (r.map BI.val)|none=>none)=_
    rw [kd_one h1,e2]
    cases c <;> rfl
theorem Zd5 {h:Heap}:∀ {ts:List BI} {xs:List Value},VRs C β h xs (ts.map .bi)→xs=ts.map BI.val:=by
 intro ts
 induction ts with
 | nil=>exact fun r=>r.nil_inv
 | cons t ts ih =>
  intro xs r
  obtain ⟨x,ws,e,a,r⟩:=r.cons_inv
  rw [e,ih r,show x=t.val from a.inv]
  rfl
theorem Zd6 {σ:Loc} {H:AH}:∀ ts:List BI,dEach (ts.map fun t=>dCst (.bi t)) σ H=.ok (ts.map .bi) H
 | []=>rfl
 | t::r=>by
  show ((Rs.ok _ _:Rs AV).bind _)=_
  rw [Rs.bind_ok,Zd6 r]; rfl
theorem SE.isiT {func e:Expr} {es:List Expr} {k:Nat} {p pos:Pos} {d:DE} {t₀:BI} {ts:List BI} (hf:SE C n S func (dCst (.bi .isinstance))) (he:SE C n S e d) (ht:SEs C n S es ((t₀::ts).map fun t=>dCst (.bi t)))
  (hc:∀ env,eval (.Call func [e,.Tuple es k p] [] pos) env=(do callWith pos (← eval func env) [] (backTo pos (starEach [e,.Tuple es k p] env)) (backToKw pos (keywordEach [] env))))
  (hstar:∀ env,starEach [e,.Tuple es k p] env=(false,eval e env)::starEach [.Tuple es k p] env)
  (hplain:∀ env,(backTo pos (starEach [e,.Tuple es k p] env)).any (·.1)=false) (hl:(t₀::ts).length≤1048576) :
  SE C n S (.Call func [e,.Tuple es k p] [] pos) (dIsiT d (t₀::ts)):=by
 refine ⟨fun A env σ H β s Q E P hp=>?_⟩
 refine Call_ (wpAny_mono (hf.go A env σ H β s (fun x s₁=>∃ β₁,After C Nix β s β₁ s₁ H∧VR C β₁ s₁.heap x (.bi .isinstance)) E P (fun x s' β' a hx=>⟨β',a,hx⟩)) ?_ fun _ _ e=>e) (hc env)
 intro x s₁ hZ; refine e1a2 hZ fun β₁ a₁ vx=>?_
 have e':=VR.inv vx
 subst e'
 have hp₁:=Pst.shift a₁ hp
 have hany:=hplain env
 have key:wpAny (model C.prog C.w) A (spliced (backTo pos (starEach [e,.Tuple es k p] env))) (fun ys s₂=>wpAny (model C.prog C.w) A (call (.builtin "isinstance") ys) Q E s₂) E s₁:=by
  refine wpAny_items_cons (Pst.then hp₁ (fun _ h'=>he.go A env σ H β₁ s₁ _ E (P.after a₁) h') ?_) (hstar env)
  intro y s₂ v H₂ β₂ _ a₂ vy hp₂
  refine e1a2 (Zbj hp₂) fun b₀ hb₀ hp₃=>?_
  refine e1a2 (Option.map_eq_some_iff.mp hb₀) fun b hb e₀=>?_
  subst e₀
  refine wpAny_items_cons (wpAny_Tuple (wpAny_mono (ht.go A env σ H₂ β₂ s₂ (fun xs s₃=>∃ β₃,After C Nix β₂ s₂ β₃ s₃ H₂∧VRs C β₃ s₃.heap xs ((t₀::ts).map .bi)) E p ((P.after a₁).after a₂) ?_) ?_ fun _ _ e=>e)) rfl
  ·rw [Zd6]
   exact fun x s' β' a hx=>⟨β',a,hx⟩
  ·intro xs s₃ hZ; refine e1a2 hZ fun β₃ a₃ vxs=>?_
   have e:=Zd5 vxs
   subst e
   refine ⟨by rw [List.length_map]; exact Nat.le_trans hl (by decide),wpAny_items_nil ?_⟩
   have a₄:=a₃.inv.push (s:=s₃) { cls:=.type "tuple",data:=.seq ((t₀::ts).map BI.val).toArray } s₃.toks
   have vy':=(vy.mono a₃.grow).mono a₄.grow
   have h1:∃ k,kdOf H₂ v=some k:=by
    cases q:kdOf H₂ v with
    | some k=>exact ⟨k,rfl⟩
    | none=>simp only [isiTOp,isiOp,q] at hb; injection hb
   refine Exists.elim h1 fun kd hkd=>?_
   refine e1a3 (kd_kit a₄.inv vy' hkd) fun PP Z pp hxx=>?_
   refine PySem.W.kia_tup (tp:=s₃.heap.objs.size) (its:=(t₀::ts).map BI.val) Z (nil_in _) pp (Heap.get?_push_size _ rfl) (Zd4 hkd hb) hxx fun tk=>?_
   have a₅:=a₄.inv.toks tk
   exact hp₃ _ _ _ (a₃.trans (a₄.trans a₅)) (.bool b)
 rw [hstar env] at key hany ⊢
 exact callWith_builtin hany (evalArgs_plain key)
noncomputable def PR (_:List Addr) (_:Heap) (v:Value) (k:Option Int):Prop:=IsPart v k
structure SP (C:Cx) (n:Nat) (S:Sco) (x:Option Expr) (d:Option DE):Prop where
 go:∀ A env σ H β s Q E,Pre C n A S env β s σ H→Pst C Nix PR β s (evPart d σ H) Q E→wpAny (model C.prog C.w) A (evalPart x env) Q E s
theorem SP.none:SP C n S none none:=by
 refine ⟨fun A env σ H β s Q E P hp=>?_⟩
 exact wpAny_pure (hp.ok_here P.inv IsPart.none)
theorem SP.some {e:Expr} {d:DE} (h:SE C n S e d):SP C n S (some e) (some d):=by
 refine ⟨fun A env σ H β s Q E P hp=>?_⟩
 rw [evalPart_some]
 refine Pst.then hp (fun _ h'=>h.go A env σ H β s _ E P h') ?_
 intro x s₁ v H₁ β₁ _ a₁ vx hp₁
 cases v with
 | int i =>
  refine Exists.elim vx.int_inv fun t eZ1=>?_; subst eZ1
  exact hp₁.ok_here a₁.inv (IsPart.int i t)
 | _=>exact hp₁.elim
theorem Zd7 {i:Int} (h:okB (some i)=true):0≤i∧i≤1048576:=by
 simp only [okB,Bool.and_eq_true,decide_eq_true_eq] at h
 exact h
noncomputable def loN:Option Int→Nat
 | some i=>i.toNat
 | none=>0
noncomputable def hiN (m:Nat):Option Int→Nat
 | some i=>i.toNat
 | none=>m
theorem cut_eq {α:Type} (l:List α) (a b:Nat):(l.drop (min a l.length)).take (min b l.length - min a l.length)=(l.take b).drop a:=by
 have h1:l.take (min b l.length)=l.take b:=by
  by_cases hb:b≤l.length
  ·rw [Nat.min_eq_left hb]
  ·rw [Nat.min_eq_right (Nat.le_of_not_le hb),List.take_of_length_le (Nat.le_refl _),List.take_of_length_le (Nat.le_of_not_le hb)]
 rw [← List.drop_take,h1]
 by_cases ha:a≤l.length
 ·rw [Nat.min_eq_left ha]
 ·have hl:(l.take b).length≤l.length:=by simp; omega
  rw [Nat.min_eq_right (Nat.le_of_not_le ha),List.drop_of_length_le hl,List.drop_of_length_le (by omega)]
theorem VRs.cut {h:Heap} {vs:List Value} {l:List AV} (hv:VRs C β h vs l) (lo hi:Option Int):VRs C β h ((vs.take (hiN vs.length hi)).drop (loN lo)) (Mine.cut l lo hi):=by
 have:Mine.cut l lo hi=(l.take (hiN l.length hi)).drop (loN lo):=by
  unfold Mine.cut
  cases lo <;> cases hi <;> rfl
 rw [this,hv.length]
 exact (hv.take _).drop _
theorem Zd8 {i:Int} (h:0≤i) (m:Nat):min i (m:Int)=((min i.toNat m:Nat):Int):=by
 refine Exists.elim (Int.eq_ofNat_of_zero_le h) fun n eZ1=>?_; subst eZ1
 rcases Nat.le_total n m with q|q
 ·rw [Int.min_eq_left (Int.ofNat_le.mpr q)]; exact congrArg (fun k:Nat=>(k:Int)) (Nat.min_eq_left q).symm
 ·rw [Int.min_eq_right (Int.ofNat_le.mpr q)]; exact congrArg (fun k:Nat=>(k:Int)) (Nat.min_eq_right q).symm
theorem Zd9 (k:Nat):max (0:Int) (k:Int)=k:=Int.max_eq_right (Int.natCast_nonneg k)
theorem lo_nat (m:Nat):(0:Int)=((min 0 m:Nat):Int):=by simp
theorem hi_nat (m:Nat):(m:Int)=((min m m:Nat):Int):=by simp
theorem Zea {lo hi:Option Int} (h1:okB lo=true) (h2:okB hi=true) (m:Nat):sliceBounds lo hi none m=(((min (loN lo) m:Nat):Int),((min (hiN m hi) m:Nat):Int),1):=by
 have key:∀ (v:Option Int) (dflt:Int),okB v=true→(match v with|none=>dflt|some i=>(let i:=if i < 0 then i+(m:Int) else i; if (1:Int) > 0 then max 0 (min i m) else max (-1) (min i ((m:Int) - 1))))=(match v with|none=>dflt|some i=>((min i.toNat m:Nat):Int)):=by
  intro v dflt hv
  cases v with
  | none=>rfl
  | some i =>
   have:=Zd7 hv
   dsimp only
   rw [if_neg (show ¬ (i < 0) by omega),if_pos (by decide),Zd8 this.1,Zd9]
 have e1:=key lo 0 h1
 have e2:=key hi m h2
 refine Prod.ext (Eq.trans e1 ?_) (Prod.ext (Eq.trans e2 ?_) rfl)
 ·cases lo with
  | none=>exact lo_nat m
  | some i=>rfl
 ·cases hi with
  | none=>exact hi_nat m
  | some i=>rfl
theorem Zeb {lo hi:Option Int} (h1:okB lo=true) (h2:okB hi=true) (items:Array Value):(slicePick items lo hi none).toList=(items.toList.take (hiN items.toList.length hi)).drop (loN lo):=by
 unfold slicePick
 rw [Zea h1 h2]
 simp only [sliceRange_one,pick_run]
 have:=cut_eq items.toList (loN lo) (hiN items.size hi)
 rw [Array.length_toList] at this ⊢
 exact this
theorem Zec {lo hi:Option Int} (h1:okB lo=true) (h2:okB hi=true) (m:Nat):Builtin.Slice.sliceAdjust lo hi 1 (m:Int)=(((min (loN lo) m:Nat):Int),((min (hiN m hi) m:Nat):Int)):=by
 have key:∀ (v:Option Int) (dflt:Int),okB v=true→(match v with|none=>dflt|some i=>(if i < 0 then max (i+(m:Int)) 0 else min i (m:Int)))=(match v with|none=>dflt|some i=>((min i.toNat m:Nat):Int)):=by
  intro v dflt hv
  cases v with
  | none=>rfl
  | some i =>
   have:=Zd7 hv
   dsimp only
   rw [if_neg (show ¬ (i < 0) by omega),Zd8 this.1]
 have e1:=key lo 0 h1
 have e2:=key hi m h2
 refine Prod.ext (Eq.trans e1 ?_) (Eq.trans e2 ?_)
 ·cases lo with
  | none=>exact lo_nat m
  | some i=>rfl
 ·cases hi with
  | none=>exact hi_nat m
  | some i=>rfl
theorem Zed (a b:Nat):Builtin.Slice.slicePlaces (a:Int) (b:Int) 1=b - a:=by
 unfold Builtin.Slice.slicePlaces
 have h1:(1:Int) > 0:=by exact Int.natCast_nonneg _
 simp only [h1,if_true,Int.ediv_one]
 split <;> omega
theorem Zee {v:Value} {k:Option Int} {Q:Option Int→Shared→Prop} (p:IsPart v k) (h:Q k s):wpAny (model C.prog C.w) A (Builtin.Slice.slicePartIndex v) Q E s:=by
 cases p with
 | none=>exact slicePart_none h
 | int i t=>exact slicePart_int h
theorem Zef {sl:Addr} {m:Nat} {vl vu:Value} {lo hi:Option Int} {Q:Int×Int×Nat→Shared→Prop} (h1:okB lo=true) (h2:okB hi=true) (hs:s.heap.IsSliceOf sl vl vu .none) (pl:IsPart vl lo) (pu:IsPart vu hi)
  (h:Q (((min (loN lo) m:Nat):Int),1,min (hiN m hi) m - min (loN lo) m) s) :
  wpAny (model C.prog C.w) A (Builtin.Slice.sliceApplied (.ref sl) (pure (m:Int))) Q E s:=by
 refine e1a3 (id hs) fun os hos hcs hds=>?_
 unfold Builtin.Slice.sliceApplied Builtin.Slice.sliceFields
 refine wpAny_bind (wpAny_bind (wpAny_field hos hds (x:=vl) rfl (wpAny_bind (wpAny_field hos hds (x:=vu) rfl (wpAny_bind (wpAny_field hos hds (x:=.none) rfl (wpAny_pure ?_)))))))
 refine wpAny_bind (slicePart_none ?_)
 show wpAny _ _ (if ((1:Int) == 0)=true then _ else _) _ _ s
 rw [if_neg (by decide)]
 refine wpAny_bind (Zee pl (wpAny_bind (Zee pu (wpAny_bind (wpAny_pure ?_)))))
 show wpAny _ _ (match Builtin.Slice.sliceAdjust lo hi 1 (m:Int) with|(lo,hi)=>pure (lo,(1:Int),Builtin.Slice.slicePlaces lo hi 1)) _ _ s
 rw [Zec h1 h2 m]
 show wpAny _ _ (pure (((min (loN lo) m:Nat):Int),(1:Int),Builtin.Slice.slicePlaces ((min (loN lo) m:Nat):Int) ((min (hiN m hi) m:Nat):Int) 1)) _ _ s
 rw [Zed]
 exact wpAny_pure h
theorem Zeg (xs:Array Value) (a k:Nat):((List.range k).filterMap fun (j:Nat)=>xs[((a:Int)+(j:Int) * 1).toNat]?)=(xs.toList.drop a).take k:=by
 have e:(fun (j:Nat)=>xs[((a:Int)+(j:Int) * 1).toNat]?)=fun j=>xs[a+j]?:=by
  funext j
  have:((a:Int)+(j:Int) * 1).toNat=a+j:=by rw [Int.mul_one]; exact Int.toNat_natCast (a+j)
  rw [this]
 rw [e]
 have:=pick_run xs a k
 rw [List.filterMap_map] at this
 exact this
theorem Zeh {t sl:Addr} {items:Array Value} {vl vu:Value} {lo hi:Option Int} (h1:okB lo=true) (h2:okB hi=true) (ht:IsTup s.heap t items) (hs:s.heap.IsSliceOf sl vl vu .none) (pl:IsPart vl lo) (pu:IsPart vu hi)
  (hself:(items.toList.take (hiN items.toList.length hi)).drop (loN lo)=items.toList→Q (.ref t) s)
  (h:Q (.ref s.heap.objs.size) { s with heap:=s.heap.push { cls:=.type "tuple",data:=.seq ((items.toList.take (hiN items.toList.length hi)).drop (loN lo)).toArray } })
  (hsz:items.size≤sizeLine):wpAny (model C.prog C.w) A (getItem (.ref t) (.ref sl)) Q E s:=by
 have hcut:(items.toList.drop (min (loN lo) items.size)).take (min (hiN items.size hi) items.size - min (loN lo) items.size)=(items.toList.take (hiN items.toList.length hi)).drop (loN lo):=by
  have:=cut_eq items.toList (loN lo) (hiN items.size hi)
  rw [Array.length_toList] at this ⊢
  exact this
 have hdrop:sizeOk (.seq ((items.toList.take (hiN items.toList.length hi)).drop (loN lo)).toArray):=by
  show ((items.toList.take (hiN items.toList.length hi)).drop (loN lo)).toArray.size≤sizeLine
  rw [List.size_toArray,List.length_drop,List.length_take,Array.length_toList]
  omega
 refine e1a3 (id hs) fun os hos hcs hds=>?_
 have hTs:s.TypeIs (.ref sl) "slice":=⟨os,hos,hcs⟩
 unfold getItem
 try with_reducible refine wpAny_holding ?_
 first|refine wpAny_bind (wpAny_pure ?_)|skip
 refine wpAny_bind (wpAny_sequenceKey ht.typeIs (by decide) ?_)
 refine wpAny_bind (wpAny_callSpecial?_slot (name:=Str.ofString "__getitem__") ht.typeIs slot_tuple_getitem
  (wpAny_call_entry slot_tuple_getitem ht.typeIs entry_tuple_getitem ?_ (args_tuple_getitem _ _)))
 show wpAny _ _ (Builtin.Tuple.tupleItemsOf (.ref t) >>= _) _ _ s
 refine wpAny_bind (tupleItemsOf_ ht ?_)
 refine wpAny_bind (wpAny_typeOf hTs ?_)
 rw [if_pos (by decide)]
 refine wpAny_bind (Zef h1 h2 hs pl pu ?_)
 generalize ha:min (loN lo) items.size=a at hcut ⊢
 generalize hk:min (hiN items.size hi) items.size - a=k at hcut ⊢
 show wpAny _ _ (if ((a:Int) == 0&&(1:Int) == 1&&k == items.size)=true then _ else _) _ _ s
 by_cases hc:((a:Int) == 0&&(1:Int) == 1&&k == items.size)=true
 ·rw [if_pos hc]
  simp only [Bool.and_eq_true,beq_iff_eq] at hc
  have e:(items.toList.take (hiN items.toList.length hi)).drop (loN lo)=items.toList:=by
   rw [← hcut,hc.2,show a=0 by omega,List.drop_zero,List.take_of_length_le (by simp)]
  refine wpAny_bind ?_
  unfold Builtin.Tuple.tupleIsExact
  refine wpAny_bind (wpAny_typeOf ht.typeIs (wpAny_pure ?_))
  rw [if_pos (by decide)]
  refine wpAny_bind (wpAny_rule ?_)
  exact wpAny_pure ⟨_,rfl,wpAny_pure (hself e)⟩
 ·rw [if_neg hc,Zeg items a k,hcut]
  first
   | exact wpAny_bind (m:=Builtin.Tuple.tupleExact _) (wpAny_newObj_type (wpAny_pure ⟨_,rfl,wpAny_pure h⟩) hdrop)
   | exact wpAny_bind (m:=Builtin.Tuple.tupleExact _) (wpAny_newObj_type (wpAny_bind (wpAny_pure (wpAny_pure ⟨_,rfl,wpAny_pure h⟩))) hdrop)
   | exact wpAny_bind (wpAny_bind (m:=Builtin.Tuple.tupleExact _) (wpAny_newObj_type (wpAny_pure (wpAny_pure ⟨_,rfl,wpAny_pure h⟩)) hdrop))
   | exact wpAny_bind (wpAny_bind (m:=Builtin.Tuple.tupleExact _) (wpAny_newObj_type (wpAny_pure ⟨_,rfl,wpAny_pure h⟩) hdrop))
theorem Zei {value slice:Expr} {o i:Value} {T id:String} (hT:s.TypeIs o T) (hl:typeLookup (.type T) "__getitem__"=pure (some (.builtin id))) (h:wpAny (model C.prog C.w) A (getItem o i) Q E s)
  (hs:subscripted slice false o i=operate [i,o] (getItem o i)):wpAny (model C.prog C.w) A (subscriptTail value slice o i) Q E s:=by
 unfold subscriptTail
 refine wpAny_bind ?_
 rw [getitemInPython_of_ne hT.not_modules]
 refine wpAny_bind (wpAny_specialOf hT hl ?_)
 have fin:wpAny (model C.prog C.w) A (subscripted slice false o i) (fun r s₃=>wpAny (model C.prog C.w) A (letTemporaryGo value o r >>= fun _=>pure r) Q E s₃) E s:=by
  rw [hs]
  exact wpAny_operating (wpAny_mono h (fun r s₃ h₃=>wpAny_bind (wpAny_letTemporaryGo (wpAny_pure h₃))) fun _ _ x=>x)
 first
  | exact wpAny_pure (wpAny_bind fin)
  | exact wpAny_bind (wpAny_pure (wpAny_bind fin))
  | exact wpAny_bind fin
theorem SE.slc {e:Expr} {lower upper:Option Expr} {p pos:Pos} {a:DE} {lo hi:Option DE} (h:SE C n S e a) (hl:SP C n S lower lo) (hu:SP C n S upper hi)
  (hs:∀ o v,subscripted (.Slice lower upper none p) false o v=operate [v,o] (getItem o v)):SE C n S (.Subscript e (.Slice lower upper none p) pos) (dSl a lo hi):=by
 refine ⟨fun A env σ H β s Q E P hp=>?_⟩
 refine Subscript_ (Pst.then hp (fun _ h'=>h.go A env σ H β s _ E P h') ?_)
 intro x s₁ v H₁ β₁ _ a₁ vx hp₁
 refine wpAny_Slice (Pst.then hp₁ (fun _ h'=>hl.go A env σ H₁ β₁ s₁ _ E (P.after a₁) h') ?_)
 intro y s₂ l H₂ β₂ _ a₂ vy hp₂
 refine Pst.then hp₂ (fun _ h'=>hu.go A env σ H₂ β₂ s₂ _ E ((P.after a₁).after a₂) h') ?_
 intro z s₃ u H₃ β₃ _ a₃ vz hp₃
 refine wpAny_pure ?_
 refine e1a2 (Zbj hp₃) fun r hr hp₄=>?_
 have a₄:=a₃.inv.push (s:=s₃) { cls:=.type "slice",data:=.fields #[y,z,.none] } s₃.toks
 have vx:=((vx.mono a₂.grow).mono a₃.grow).mono a₄.grow
 have hp₅:=Pst.shift a₄ hp₄
 have hsl:Heap.IsSliceOf (s₃.heap.push { cls:=.type "slice",data:=.fields #[y,z,.none] }) s₃.heap.objs.size y z .none:=Heap.IsSliceOf.new ..
 unfold slcOp at hr
 split at hr
 rotate_left
 ·injection hr
 rename_i hb
 rw [Bool.and_eq_true] at hb
 split at hr
 ·split at hr
  ·rename_i l' hlen
   obtain rfl:=inj hr
   refine e2a4 (VR.inv vx) fun ad items eZ2 ht hn hv=>?_; subst eZ2
   have hl':=hv.length
   rw [Array.length_toList] at hl'
   refine Zei (Heap.IsTuple.typeIs' ht) slot_tuple_getitem.lookup (Zeh hb.1 hb.2 ht hsl vy vz (fun e=>?_) ?_ (by rw [hl']; exact Nat.le_trans hlen (by decide))) (hs _ _)
   ·have hc:=hv.cut l u
    rw [e] at hc
    exact hp₅ _ _ _ (.refl a₄.inv) (VR.tup ht hn hc)
   ·have a₅:=a₄.inv.push (s:={ s₃ with heap:=s₃.heap.push { cls:=.type "slice",data:=.fields #[y,z,.none] } }) { cls:=.type "tuple",data:=.seq ((items.toList.take (hiN items.toList.length u)).drop (loN l)).toArray } s₃.toks
    refine hp₅ _ _ _ a₅ (VR.tup (items:=((items.toList.take (hiN items.toList.length u)).drop (loN l)).toArray) ?_ a₄.inv.new_notin (by simpa using (hv.cut l u).mono a₅.grow))
    exact ⟨_,Heap.get?_push_size _ rfl,rfl,_,rfl⟩
  ·injection hr
 ·split at hr
  ·rename_i l' hl'
   split at hr
   ·rename_i hlen
    obtain rfl:=inj hr
    refine e2a3 (Za5 a₄.inv vx hl') fun ad items eZ2 hli hv=>?_; subst eZ2
    have hl':=hv.length
    rw [Array.length_toList] at hl'
    refine Zei hli.typeIs slot_list_getitem.lookup (wpAny_getItem_list_slice hli hsl vy vz .none (by simp) ?_ (by rw [hl']; exact Nat.le_trans hlen (by decide))) (hs _ _)
    have a₅:=a₄.inv.push (s:={ s₃ with heap:=s₃.heap.push { cls:=.type "slice",data:=.fields #[y,z,.none] } }) { cls:=.type "list",data:=.seq (slicePick items l u none) } s₃.toks
    refine hp₅ _ _ _ a₅ (.lst (items:=slicePick items l u none) ⟨_,Heap.get?_push_size _ rfl,rfl,_,rfl⟩ a₄.inv.new_notin ?_)
    rw [Zeb hb.1 hb.2]
    exact (hv.cut l u).mono a₅.grow
   ·injection hr
  ·injection hr
end
end Mine
namespace Mine
open PySem PySem.W PyProof.Rows PySem.Calls PySem.SeqAt
set_option linter.unusedVariables false
set_option maxRecDepth 100000
section
variable {prog:Program} {w:World} {A:Around} {E:Value→Shared→Prop} {K:Frag} {D a:Addr}
noncomputable def excK (K:Frag) (D:Addr):Bool:=(clsIn K D).isSome&&findIn K (.ref D) "__getattribute__" == some (some (.builtin "BaseException.__getattribute__"))&&findIn K (.ref D) "__getattr__" == some none &&
 findIn K (.ref D) "__class__" == some (some (.builtin "object.__class__"))&&subIn K (.ref D) (.type "object") == some true&&subIn K (.ref D) (.type "BaseException") == some true
structure ExcK (K:Frag) (D:Addr):Prop where
 cls:(clsIn K D).isSome=true
 ga:findIn K (.ref D) "__getattribute__"=some (some (.builtin "BaseException.__getattribute__"))
 gn:findIn K (.ref D) "__getattr__"=some none
 cl:findIn K (.ref D) "__class__"=some (some (.builtin "object.__class__"))
 ob:subIn K (.ref D) (.type "object")=some true
 be:subIn K (.ref D) (.type "BaseException")=some true
theorem ExcK.of (h:excK K D=true):ExcK K D:=by
 unfold excK at h
 simp only [Bool.and_eq_true,beq_iff_eq] at h
 refine e0a2' h fun qZ0 h6=>?_; obtain ⟨⟨⟨⟨h1,h2⟩,h3⟩,h4⟩,h5⟩:=qZ0
 exact ⟨h1,h2,h3,h4,h5,h6⟩
noncomputable def ExAt (a D:Addr) (h:Heap):Prop:=∃ o vs,h.get? a=some o∧o.cls=.ref D∧o.data=.fields vs
variable {h:Heap} {g:Array GenState} {d:Drawn} {t:Nat} {os:OsState} {o:Obj}
theorem Zej {R:Result→Shared→Prop} (F:ExcK K D) (X:K.In h) (hx:h.get? a=some o) (hc:o.cls=.ref D) (hq:R (.ok (.ret (.ref D))) ⟨h,g,d,t,os⟩) :
  codeAny (model prog w) A (.call (.builtin "getset_descriptor.__get__") ⟨[.builtin "object.__class__",.ref a,.ref D],[]⟩) R ⟨h,g,d,t,os⟩:=by
 have hT5:(⟨h,g,d,t,os⟩:Shared).TypeIs (.builtin "object.__class__") "getset_descriptor":=PySem.F.typeOf_object_class
 have L1:Looks (model prog w) h (isSubtype (.ref D) (.type (".".intercalate ("object.__class__".cutAt '.').dropLast))) true:=by rw [PySem.F.owner_object_class]; exact looks_subIn X F.ob
 refine codeAny_call_builtin PySem.F.slot_gs_get.plain PySem.F.entry_gs_get (PySem.F.slot_gs_get.check _ _ _ _ _ _ _ _ hT5 (PySem.F.args_gs_get _ _ _) ?_)
 repeat (any_goals (first|assumption|(with_reducible refine wpAny_loadPart_at hx ?_; rw [hc])|with_reducible refine L1.at ?_|wp_step))
 refine ⟨Code.quiet_builtin _ (by decide +kernel),codeAny_builtin PySem.F.entry_object_class ?_⟩
 repeat (any_goals (first|assumption|(with_reducible refine wpAny_loadPart_at hx ?_; rw [hc])|wp_step))
theorem Zek {nameV:Value} {Q:Unit→Shared→Prop} (F:ExcK K D) (X:K.In h) (hx:h.get? a=some o) (hc:o.cls=.ref D) (hq:Q () ⟨h,g,d,t,os⟩) :
  wpAny (model prog w) A (checkBuiltinCall "BaseException.__getattribute__" ⟨[.ref a,nameV],[]⟩) Q E ⟨h,g,d,t,os⟩:=by
 have hk:builtinKind "BaseException.__getattribute__"=some .slot:=by decide +kernel
 have hsplit:splitId "BaseException.__getattribute__"=some ("BaseException","__getattribute__"):=by decide +kernel
 have L1:Looks (model prog w) h (isSubtype (.ref D) (.type "BaseException")) true:=looks_subIn X F.be
 have ha:=PySem.F.args_bexc_ga (.ref a) nameV
 simp only [checkBuiltinCall,hk,hsplit]
 refine wpAny_bind ?_
 unfold isInstance
 repeat (first|(with_reducible refine wpAny_loadPart_at hx ?_; rw [hc])|with_reducible refine L1.at ?_|wp_step)
 exact hq
theorem Zel {tk:Tok} {Q:Fin→Shared→Prop} (F:ExcK K D) (X:K.In h) (hx:h.get? a=some o) (hc:o.cls=.ref D) (hq:Q (.done (.ret (.ref D))) ⟨h,g,d,t,os⟩) :
  wpAny (model prog w) A (Builtin.«object.__getattribute__» ⟨[.ref a,.str "__class__" tk],[]⟩) Q E ⟨h,g,d,t,os⟩:=by
 have hT5:(⟨h,g,d,t,os⟩:Shared).TypeIs (.builtin "object.__class__") "getset_descriptor":=PySem.F.typeOf_object_class
 have f5:=PySem.F.typeOf_object_class
 have f6:=PySem.F.slot_gs_get.lookup
 have f7:=PySem.F.slot_gs_set.lookup
 have L1:Looks (model prog w) h (typeLookup (.ref D) "__class__") (some (.builtin "object.__class__")):=looks_findIn X F.cl
 repeat (any_goals (first|assumption|(with_reducible refine wpAny_loadPart_at hx ?_; rw [hc])|with_reducible refine L1.at ?_|wp_step))
 refine Zej F X hx hc ?_
 repeat (any_goals (first|assumption|wp_step))
theorem exc_by {tk:Tok} {Q:Value→Shared→Prop} (F:ExcK K D) (X:K.In h) (hx:h.get? a=some o) (hc:o.cls=.ref D) (hq:Q (.ref D) ⟨h,g,d,t,os⟩) :
  wpAny (model prog w) A (getAttrBy (.ref a) (.str "__class__" tk) false) Q E ⟨h,g,d,t,os⟩:=by
 have f3:=PySem.F.attrBase_ValueError.ga.bind (.ref a)
 have hx0:(false&&onTheHeap (Value.builtin "BaseException.__getattribute__"))=false:=rfl
 have hx2:(Value.builtin "BaseException.__getattribute__" == Value.builtin "object.__getattribute__")=false:=by decide +kernel
 have hx1:(onTheHeap (Value.ref D)&&Value.builtin "BaseException.__getattribute__" == Value.builtin "object.__getattribute__")=false:=by rw [hx2]; rfl
 have L1:Looks (model prog w) h (typeLookup (.ref D) "__getattribute__") (some (.builtin "BaseException.__getattribute__")):=looks_findIn X F.ga
 have L2:Looks (model prog w) h (typeLookup (.ref D) "__getattr__") none:=looks_findIn X F.gn
 repeat (any_goals (first|assumption|(with_reducible refine wpAny_loadPart_at hx ?_; rw [hc])|with_reducible refine L1.at ?_|with_reducible refine L2.at ?_|wp_step))
 refine codeAny_call_builtin PySem.F.attrBase_ValueError.ga.plain PySem.F.entry_bexc_ga (Zek F X hx hc (Zel F X hx hc ?_))
 repeat (any_goals (first|assumption|wp_step))
theorem Zem {Q:Option Value→Shared→Prop} (F:ExcK K D) (X:K.In h) (hx:h.get? a=some o) (hc:o.cls=.ref D) (hq:Q (some (.ref D)) ⟨h,g,d,t+1,os⟩) :
  wpAny (model prog w) A (getAttr? (.ref a) "__class__") Q E ⟨h,g,d,t,os⟩:=by
 unfold getAttr? getAttrBy?
 repeat (any_goals (first|assumption|with_reducible apply exc_by F X hx hc|wp_step))
theorem Zen (F:ExcK K D):KitX K (.ref a) (.ref D) (ExAt a D) where
 ty:=fun M h _ p=>by
  refine e2a3 p fun o vs h1 h2 _=>?_
  exact h2 ▸ (Looks.ld h1).andThen .now
 it:=fun _ _ X _=>by
  have hcD:=F.cls
  unfold clsIn at hcD
  split at hcD
  ·rename_i c' d' cd' sl' ho
   intro A' Q' E' s' k q
   unfold isType loadHead
   exact wpAny_bind (wpAny_loadPart (k _ _ (X _ _ ho)) (wpAny_pure q))
  ·injection hcD
 ne:=fun h tp dd its n sl X htp=>by
  have hcD:=F.cls
  refine Bool.eq_false_iff.mpr fun q=>?_
  have e:D=tp:=Value.ref.inj (beq_iff_eq.mp q)
  subst e
  unfold clsIn at hcD
  split at hcD
  ·rename_i c' d' cd' sl' ho
   have z:=(X _ _ ho).symm.trans htp
   cases z
  ·injection hcD
 ca:=fun {_ _ _ _ _ s} X p k=>by
  refine e2a3 p fun o vs h1 h2 _=>?_
  obtain ⟨hh,g,d,t,os⟩:=s
  exact Zem F X h1 h2 k
end
inductive CT where
 | own (k:Nat)
 | bi (b:BI)
noncomputable def CT.av:CT→AV
 | .own k=>.cls k
 | .bi b=>.bi b
noncomputable def CT.val (C:Cx):CT→Value
 | .own k=>.ref (C.clv k)
 | .bi b=>b.val
theorem Zeo {P:Nat→Bool→Prop}:∀ c b,tab [] c=some b→P c b:=fun c b h=>by injection h
theorem Zep {P:Nat→Bool→Prop} {k:Nat} {v:Bool} {l:List (Nat×Bool)} (h:P k v) (r:∀ c b,tab l c=some b→P c b):∀ c b,tab ((k,v)::l) c=some b→P c b:=fun c b e=>by
 unfold tab at e
 rw [List.lookup_cons] at e
 split at e
 ·rename_i q
  obtain rfl:=inj e
  rw [beq_iff_eq.mp q]; exact h
 ·exact r c b e
section
variable {C:Cx} {n:Nat} {S:Sco} {env:Env} {β β':List Addr} {s s':Shared} {σ σ':Loc} {H H':AH} {A:Around} {E:Value→Shared→Prop} {mg mb:Str→Option Value} {K:Frag}
theorem CT.is {h:Heap} {x:Value} {t:CT} (r:VR C β h x t.av):x=t.val C:=by
 cases t with
 | own k=>exact r.inv
 | bi b=>exact r.inv
theorem CT.all {h:Heap}:∀ {ts:List CT} {xs:List Value},VRs C β h xs (ts.map CT.av)→xs=ts.map (CT.val C):=by
 intro ts
 induction ts with
 | nil=>exact fun r=>r.nil_inv
 | cons t ts ih =>
  intro xs r
  obtain ⟨x,ws,e,a,r⟩:=r.cons_inv
  rw [e,ih r,CT.is a]
  rfl
theorem Zeq {σ:Loc} {H:AH}:∀ ts:List CT,dEach (ts.map fun t=>dCst t.av) σ H=.ok (ts.map CT.av) H
 | []=>rfl
 | t::r=>by
  show ((Rs.ok _ _:Rs AV).bind _)=_
  rw [Rs.bind_ok,Zeq r]; rfl
theorem Zer {f:Nat→Option Bool} {v r:AV} (h:isiX f v=some r):∃ c b,v=.exc c∧f c=some b∧r=.bool b:=by
 cases v with
 | exc c =>
  refine e1a2 (Option.map_eq_some_iff.mp (show (f c).map AV.bool=some r from h)) fun b hb e=>?_
  exact ⟨c,b,rfl,hb,e.symm⟩
 | _=>injection h
theorem Inv.kin (hK:K.In C.base) (I:Inv C β s.heap H):K.In s.heap:=fun a o e=>I.base a o (hK a o e)
theorem SE.intB {func e:Expr} {pos:Pos} {d:DE} (hf:SE C n S func (dCst (.bi .int))) (he:SE C n S e d)
  (hc:∀ env,eval (.Call func [e] [] pos) env=(do callWith pos (← eval func env) [] (backTo pos (starEach [e] env)) (backToKw pos (keywordEach [] env))))
  (hstar:∀ env,starEach [e] env=(false,eval e env)::starEach [] env)
  (hplain:∀ env,(backTo pos (starEach [e] env)).any (·.1)=false) :
  SE C n S (.Call func [e] [] pos) (dInt d):=by
 refine ⟨fun A env σ H β s Q E P hp=>?_⟩
 refine Call_ (wpAny_mono (hf.go A env σ H β s (fun x s₁=>∃ β₁,After C Nix β s β₁ s₁ H∧VR C β₁ s₁.heap x (.bi .int)) E P (fun x s' β' a hx=>⟨β',a,hx⟩)) ?_ fun _ _ e=>e) (hc env)
 intro x s₁ hZ; refine e1a2 hZ fun β₁ a₁ vx=>?_
 have e':=VR.inv vx
 subst e'
 have hp₁:=Pst.shift a₁ hp
 have hany:=hplain env
 have key:wpAny (model C.prog C.w) A (spliced (backTo pos (starEach [e] env))) (fun ys s₂=>wpAny (model C.prog C.w) A (call (.type "int") ys) Q E s₂) E s₁:=by
  refine wpAny_items_cons (Pst.then hp₁ (fun _ h'=>he.go A env σ H β₁ s₁ _ E (P.after a₁) h') ?_) (hstar env)
  intro y s₂ v H₂ β₂ _ a₂ vy hp₂
  refine e1a2 (Zbj hp₂) fun r hr hp₃=>?_
  exact wpAny_items_nil (int_ok a₂.inv vy hr hp₃)
 rw [hstar env] at key hany ⊢
 exact PyProof.Rows.callWith_type hany (evalArgs_plain key)
theorem SE.isiX1 {func e te:Expr} {pos:Pos} {d:DE} {t:CT} {f:Nat→Option Bool} (hK:K.In C.base) (hf:SE C n S func (dCst (.bi .isinstance))) (he:SE C n S e d) (ht:SE C n S te (dCst t.av))
  (hx:∀ c b,f c=some b→excK K (C.clv c)=true∧kitOne K (.ref (C.clv c)) (t.val C)=some b)
  (hc:∀ env,eval (.Call func [e,te] [] pos) env=(do callWith pos (← eval func env) [] (backTo pos (starEach [e,te] env)) (backToKw pos (keywordEach [] env))))
  (hstar:∀ env,starEach [e,te] env=(false,eval e env)::starEach [te] env)
  (hstar2:∀ env,starEach [te] env=(false,eval te env)::starEach [] env)
  (hplain:∀ env,(backTo pos (starEach [e,te] env)).any (·.1)=false) :
  SE C n S (.Call func [e,te] [] pos) (dIsiX f d):=by
 refine ⟨fun A env σ H β s Q E P hp=>?_⟩
 refine Call_ (wpAny_mono (hf.go A env σ H β s (fun x s₁=>∃ β₁,After C Nix β s β₁ s₁ H∧VR C β₁ s₁.heap x (.bi .isinstance)) E P (fun x s' β' a hx=>⟨β',a,hx⟩)) ?_ fun _ _ e=>e) (hc env)
 intro x s₁ hZ; refine e1a2 hZ fun β₁ a₁ vx=>?_
 have e':=VR.inv vx
 subst e'
 have hp₁:=Pst.shift a₁ hp
 have hany:=hplain env
 have key:wpAny (model C.prog C.w) A (spliced (backTo pos (starEach [e,te] env))) (fun ys s₂=>wpAny (model C.prog C.w) A (call (.builtin "isinstance") ys) Q E s₂) E s₁:=by
  refine wpAny_items_cons (Pst.then hp₁ (fun _ h'=>he.go A env σ H β₁ s₁ _ E (P.after a₁) h') ?_) (hstar env)
  intro y s₂ v H₂ β₂ _ a₂ vy hp₂
  refine e1a2 (Zbj hp₂) fun r hr hp₃=>?_
  refine e2a3 (Zer hr) fun c b eZ2 hb eZ4=>?_; subst eZ2; subst eZ4
  refine e0a2' (hx c b hb) fun hex hone=>?_
  refine wpAny_items_cons (wpAny_mono (ht.go A env σ H₂ β₂ s₂ (fun x s₃=>∃ β₃,After C Nix β₂ s₂ β₃ s₃ H₂∧VR C β₃ s₃.heap x t.av) E ((P.after a₁).after a₂) fun x s' β' a hx=>⟨β',a,hx⟩) ?_ fun _ _ e=>e) (hstar2 env)
  intro z s₃ hZ; refine e1a2 hZ fun β₃ a₃ vz=>?_
  have ez:=CT.is vz
  subst ez
  refine wpAny_items_nil ?_
  have vy':=vy.mono a₃.grow
  refine e3a5 vy'.inv fun ea oe vs e0 ho hcl hd _=>?_
  subst e0
  refine kia_one (Zen (ExcK.of hex)) (a₃.inv.kin hK) ⟨_,_,ho,hcl,hd⟩ hone (by intro q; injection q) fun tk=>?_
  exact hp₃ _ _ _ (a₃.trans (a₃.inv.toks tk)) (.bool b)
 rw [hstar env] at key hany ⊢
 exact callWith_builtin hany (evalArgs_plain key)
theorem SE.isiXT {func e:Expr} {es:List Expr} {k:Nat} {p pos:Pos} {d:DE} {ts:List CT} {f:Nat→Option Bool} (hK:K.In C.base) (hf:SE C n S func (dCst (.bi .isinstance))) (he:SE C n S e d) (ht:SEs C n S es (ts.map fun t=>dCst t.av))
  (hx:∀ c b,f c=some b→excK K (C.clv c)=true∧kitAny K (.ref (C.clv c)) (ts.map (CT.val C))=some b)
  (hc:∀ env,eval (.Call func [e,.Tuple es k p] [] pos) env=(do callWith pos (← eval func env) [] (backTo pos (starEach [e,.Tuple es k p] env)) (backToKw pos (keywordEach [] env))))
  (hstar:∀ env,starEach [e,.Tuple es k p] env=(false,eval e env)::starEach [.Tuple es k p] env)
  (hplain:∀ env,(backTo pos (starEach [e,.Tuple es k p] env)).any (·.1)=false) (hl:ts.length≤1048576) :
  SE C n S (.Call func [e,.Tuple es k p] [] pos) (dIsiX f d):=by
 refine ⟨fun A env σ H β s Q E P hp=>?_⟩
 refine Call_ (wpAny_mono (hf.go A env σ H β s (fun x s₁=>∃ β₁,After C Nix β s β₁ s₁ H∧VR C β₁ s₁.heap x (.bi .isinstance)) E P (fun x s' β' a hx=>⟨β',a,hx⟩)) ?_ fun _ _ e=>e) (hc env)
 intro x s₁ hZ; refine e1a2 hZ fun β₁ a₁ vx=>?_
 have e':=VR.inv vx
 subst e'
 have hp₁:=Pst.shift a₁ hp
 have hany:=hplain env
 have key:wpAny (model C.prog C.w) A (spliced (backTo pos (starEach [e,.Tuple es k p] env))) (fun ys s₂=>wpAny (model C.prog C.w) A (call (.builtin "isinstance") ys) Q E s₂) E s₁:=by
  refine wpAny_items_cons (Pst.then hp₁ (fun _ h'=>he.go A env σ H β₁ s₁ _ E (P.after a₁) h') ?_) (hstar env)
  intro y s₂ v H₂ β₂ _ a₂ vy hp₂
  refine e1a2 (Zbj hp₂) fun r hr hp₃=>?_
  refine e2a3 (Zer hr) fun c b eZ2 hb eZ4=>?_; subst eZ2; subst eZ4
  refine e0a2' (hx c b hb) fun hex hone=>?_
  refine wpAny_items_cons (wpAny_Tuple (wpAny_mono (ht.go A env σ H₂ β₂ s₂ (fun xs s₃=>∃ β₃,After C Nix β₂ s₂ β₃ s₃ H₂∧VRs C β₃ s₃.heap xs (ts.map CT.av)) E p ((P.after a₁).after a₂) ?_) ?_ fun _ _ e=>e)) rfl
  ·rw [Zeq]
   exact fun x s' β' a hx=>⟨β',a,hx⟩
  ·intro xs s₃ hZ; refine e1a2 hZ fun β₃ a₃ vxs=>?_
   have e:=CT.all vxs
   subst e
   refine ⟨by rw [List.length_map]; exact Nat.le_trans hl (by decide),wpAny_items_nil ?_⟩
   have a₄:=a₃.inv.push (s:=s₃) { cls:=.type "tuple",data:=.seq (ts.map (CT.val C)).toArray } s₃.toks
   have vy':=(vy.mono a₃.grow).mono a₄.grow
   refine e3a5 vy'.inv fun ea oe vs e0 ho hcl hd _=>?_
   subst e0
   refine kia_tup (tp:=s₃.heap.objs.size) (its:=ts.map (CT.val C)) (Zen (ExcK.of hex)) (a₄.inv.kin hK) ⟨_,_,ho,hcl,hd⟩ (Heap.get?_push_size _ rfl) hone (by intro q; injection q) fun tk=>?_
   have a₅:=a₄.inv.toks tk
   exact hp₃ _ _ _ (a₃.trans (a₄.trans a₅)) (.bool b)
 rw [hstar env] at key hany ⊢
 exact callWith_builtin hany (evalArgs_plain key)
theorem SS.raise (B:Base C mg mb) {x:Str} {np cpos pos:Pos} {e:Expr} {c:Nat} {a:DE} (ho:OwnCls x (C.clv c) [.type "ValueError",.type "Exception",.type "BaseException",.type "object"] "ValueError.__new__" mg C.base) (hx:x∈S.G) (h:SE C n S e a)
  (hS:S.calm=true) (hd:(x == ("__debug__":Str))=false) (hstar:∀ env,starEach [e] env=(false,eval e env)::starEach [] env) (hplain:∀ env,(backTo cpos (starEach [e] env)).any (·.1)=false) :
  SS C n S (.Raise (some (.Call (.Name x np) [e] [] cpos)) none pos) (sRaise c a):=by
 refine ⟨fun A env σ H β s Q E F P hp=>?_⟩
 obtain ⟨hmg,bm,N,nm,q,bs,hdct,sn,sub,ab,col,dd,k0,k1,k2,k3,k5,mN,hC,hN,hni,T⟩:=ho
 refine wpAny_Raise_call_subT (C:=C.clv c) (nm:=nm) (q:=q) (N:=N) (bs:=bs) (bm:=bm) (hdct:=hdct) (sn:=sn) (sub:=sub) (ab:=ab) (col:=col) (dd:=dd) (k0:=k0) (k1:=k1) (k2:=k2) (k3:=k3) (k5:=k5) (mN:=mN) PySem.F.excBase_ValueError (T.hasType (by decide +kernel)) (P.calm hS) (hplain env) hni ?_
 refine wpAny_mono ((SE.glb B hx hmg (fun _ _=>VR.cls c) hd).go A env σ H β s (fun y s₁=>∃ β₁,After C Nix β s β₁ s₁ H∧VR C β₁ s₁.heap y (.cls c)) E P fun y s' β' a hy=>⟨β',a,hy⟩) ?_ fun _ _ e=>e
 intro y s₁ hZ; refine e1a2 hZ fun β₁ a₁ vy=>?_
 have e0:=vy.inv
 subst e0
 refine ⟨rfl,?_⟩
 have hp₁:=Pst.shift (a₁.weaken P.own) hp
 have P₁:=P.after a₁
 suffices key:wpAny (model C.prog C.w) A (spliced (backTo cpos (starEach [e] env))) (fun ys s₂=>(Args.mk ys []).kw=[]∧ys.length≤sizeLine∧s₂.heap.get? (C.clv c)=some (excClassObj nm q (C.clv c) N bs bm hdct sn sub ab col dd k0 k1 k2 k3 k5 "ValueError.__new__")∧s₂.heap.Ns N mN ∧
   OwnTail s₂.heap [.type "ValueError",.type "Exception",.type "BaseException",.type "object"] bm∧∀ h' e,Heap.MadeExcOf s₂.heap h' e (.ref (C.clv c)) ys→E (.ref e) { s₂ with heap:=h' }) E s₁ by
  rw [hstar env] at key ⊢
  exact evalArgs_plain key
 refine wpAny_items_cons (Pst.thenE P₁.own hp₁ (fun _ h'=>h.go A env σ H β₁ s₁ _ E P₁ h') ?_) (hstar env)
 intro z s₂ v H₂ β₂ _ a₂ vz hp₂
 refine wpAny_items_nil ⟨rfl,by show 1≤sizeLine; decide,a₂.inv.base _ _ hC,hN.keeps a₂.inv.base,T.keeps a₂.inv.base,fun h' ea hm=>?_⟩
 have a₃:=a₂.inv.keeps (s:=s₂) (h':=h') s₂.toks hm.keeps
 refine e1a2 hm.there fun t ht _=>?_
 exact hp₂ _ _ β₂ (a₃.weaken (P₁.after a₂).own) ⟨ea,c,_,rfl,.inl ⟨rfl,fun hb=>by refine Exists.elim (a₂.inv.live ea hb) fun o ho=>?_; rw [hm.new] at ho; injection ho⟩,_,_,ht,rfl,rfl,hm.new,.inl ⟨rfl,rfl⟩⟩
theorem FlR.mono {X:Addr→Prop} {h h':Heap} (g:Grow X β h β' h'):∀ {f:Flow} {fl:Fl},FlR C β h f fl→FlR C β' h' f fl
 | .next,.next,_=>trivial
 | .ret _,.ret _,r=>VR.mono g r
 | .next,.ret _,hf=>hf.elim
 | .ret _,.next,hf=>hf.elim
 | .brk,.next,hf=>hf.elim
 | .brk,.ret _,hf=>hf.elim
 | .cont,.next,hf=>hf.elim
 | .cont,.ret _,hf=>hf.elim
theorem ER.calmer (e:ER C S env β s.heap σ):ER C { S with calm:=false } env β s.heap σ:=⟨e.kind,e.globals,e.builtins,e.notL,e.locB,e.glo,e.cap,e.loc,e.cell,e.apart,e.slots,e.vars⟩
theorem ER.calmest (e:ER C { S with calm:=false } env β s.heap σ):ER C S env β s.heap σ:=⟨e.kind,e.globals,e.builtins,e.notL,e.locB,e.glo,e.cap,e.loc,e.cell,e.apart,e.slots,e.vars⟩
theorem Lk.cls {a:Addr} {c:Nat} {x:AV} (lk:Lk β H a c x):excCls H x=some c:=by
 rcases lk with ⟨e,_⟩|⟨i,d,e,_,hd⟩
 ·rw [e]; rfl
 ·rw [e]; show (match H[i]? with|some (.exo c _ _)=>some c|_=>none)=some c; rw [hd]
theorem Lk.vr {h:Heap} {a:Addr} {c:Nat} {x:AV} {o:Obj} {vs:Array Value} (lk:Lk β H a c x) (h1:h.get? a=some o) (h2:o.cls=.ref (C.clv c)) (h3:o.data=.fields vs):VR C β h (.ref a) x:=by
 rcases lk with ⟨e,hn⟩|⟨i,d,e,hb,_⟩
 ·rw [e]; exact .exc h1 h2 h3 hn
 ·rw [e]; exact .ref hb
theorem SS.try_ (B:Base C mg mb) (hK:K.In C.base) {e:Expr} {x nme:Str} {np epos hpos pos:Pos} {b₀:Stmt} {body:List Stmt} {k:Nat} {a:DE} {cs:List Nat} {i:Nat} {d:DS} (he:SE C n S e a) (hx:x∈S.G) (hmg:mg x=some (.ref (C.clv k)))
  (hm:∀ c∈cs,exmOne K (.ref (C.clv c)) (.ref (C.clv k))=some true) (hi:S.Γ.lookup nme=some i) (hL:nme∈S.L) (hb:SSs C n { S with calm:=false } (b₀::body) d)
  (hdb:(x == ("__debug__":Str))=false) (hs:∀ env,swapsWith e none epos.line env=pure false) :
  SS C n S (.Try [.Expr e epos] [.ExceptHandler (some (.Name x np)) (some nme) (b₀::body) hpos] [] [] pos) (sTry a cs i d):=by
 refine ⟨fun A env σ H β s Q E F P hp=>?_⟩
 refine wpAny_Try_except (wpAny_execs_cons (wpAny_Expr_any (he.go A env σ H β s _ _ P ?_) ?_ (hs env)))
 rotate_left
 ·unfold interactive
  simp [P.env.kind]
 unfold sTry at hp
 cases hr:a σ H with
 | ok v H₁ =>
  rw [hr] at hp
  intro y s₁ β₁ af hy
  exact wpAny_execs_nil (wpAny_execs_nil (hp _ s₁ β₁ (af.weaken P.own) ⟨trivial,(P.after af).env⟩))
 | bad=>rw [hr] at hp; exact hp
 | err y H₁ =>
  rw [hr] at hp
  intro e' s₁ β₁ af hxr
  refine e3a3 hxr fun ea c fl₀ eZ3 lk fly=>?_; subst eZ3
  have hcls:=lk.cls
  dsimp only at hp
  rw [hcls] at hp
  dsimp only at hp
  split at hp
  rotate_left
  ·exact hp.elim
  rename_i hcs
  refine mae F fun nf outer hfr=>?_
  have hB:=P.inv.noB
  have P₁:=P.after af
  refine e1a2 P₁.stk fun l hl kk=>?_
  rw [hfr] at hl
  obtain rfl:=inj hl
  have fr:=kk env (List.mem_cons_self ..)
  refine Za9 (C:=C) hfr (Zbc kk) (Zbd kk) fr.loc hB af fly (lk.not af.inv.nodup) fun h₂ D₂ fl₁ sk₂ a₂ t₂=>?_
  refine Zba (fo:=none) hB a₂ t₂ fun h₃ D₃ sk₃ a₃ t₃=>?_
  have er₃:ER C S env β₁ h₃ σ:=(P₁.env.shake sk₂).shake sk₃
  have st₃:Stk C A β₁ h₃:=(P₁.stk.shake sk₂).shake sk₃
  refine wpAny_handleBy_cons (codeAny_handlers_test ?_) (by intro q; injection q)
  refine Name_function_global er₃.kind (er₃.glo x hx) (loadGlobal_global (mg:=mg) ?_ hmg ?_) hdb
  ·rw [er₃.globals]; exact B.g.keeps a₃.inv.base
  have X₃:K.In h₃:=a₃.inv.kin hK
  refine e5a4 (id t₃) fun oe vs T oT ts h1 h2 h3 _=>?_
  have LT:Looks (model C.prog C.w) h₃ (typeOf (.ref ea)) (.ref (C.clv c)):=h2 ▸ (Looks.ld h1).andThen .now
  refine exm_one X₃ LT (hm c hcs) _ _ _ _ (fun _ _ e=>e) ?_
  refine codeAny_handlers_suite_as ?_
  refine Zba (fo:=none) hB a₃ t₃ fun h₄ D₄ sk₄ a₄ t₄=>?_
  refine e5a4 (id t₄) fun oe vs T oT ts h1 h2 h3 _=>?_
  have er₄:ER C S env β₁ h₄ σ:=er₃.shake sk₄
  have vy:VR C β₁ h₄ (.ref ea) y:=lk.vr h1 h2 h3
  refine Zcm a₄.inv er₄ hi (nf nme) vy fun s₅ af₅ er₅=>?_
  have st₅:Stk C A β₁ s₅.heap:=(st₃.shake sk₄).monoS af₅.grow er₄ er₅
  have P₅:Pre C n (A.mark (some (.ref ea))) { S with calm:=false } env β₁ s₅ (upd σ i y) H₁:=⟨af₅.inv,er₅.calmer,⟨P.room.depth,P.room.units⟩,(fun q=>(nomatch q)),st₅,P.ne⟩
  refine hb.go (A.mark (some (.ref ea))) env _ H₁ β₁ s₅ _ _ ⟨nf,outer,hfr⟩ P₅ ?_
  cases hd:d (upd σ i y) H₁ with
  | ok p H₂ =>
   rw [hd,Rs.bindB_ok] at hp
   obtain ⟨fl,σ₂⟩:=p
   intro f s₆ β₆ af₆ ⟨hf,er₆⟩
   have er₆:ER C S env β₆ s₆.heap σ₂:=er₆.calmest
   refine e1a2 er₆.vars fun m hns hv=>?_
   refine wpAny_nameGoes (er₆.loc nme hL) hns (by rw [er₆.kind]; rfl) fun h' m' hns' hsb=>?_
   have af₇:=af₆.inv.ownStore er₆ (.inl rfl) hsb (by refine e3a3 hns' fun o es ep ho hdd _=>?_; exact ⟨o,ho,.inl ⟨es,ep,hdd⟩,fun _=>⟨es,ep,hdd⟩⟩) (s₆.toks+1)
   refine hp f _ β₆ ((((a₄.weaken P.own).trans af₅).trans af₆).trans af₇) ⟨hf.mono af₇.grow,?_⟩
   have kc:∀ {z c' v},env.cells.lookup z=some c'→s₆.heap.IsCell c' v→h'.IsCell c' v:=fun {z c' v} hz hc=>by
    refine e1a2 hc fun o ho hdd=>?_
    exact ⟨o,by rw [hsb.2 c' (er₆.cell z c' hz).2.2.2]; exact ho,hdd⟩
   refine ⟨er₆.kind,er₆.globals,er₆.builtins,er₆.notL,er₆.locB,er₆.glo,er₆.cap,er₆.loc,fun z c' hz=>?_,er₆.apart,er₆.slots,m',hns',fun z j hz=>?_⟩
   ·refine e0a2' (er₆.cell z c' hz) fun qZ0 r=>?_; obtain ⟨v,hv⟩:=qZ0
    exact ⟨⟨v,kc hz hv⟩,r⟩
   ·rcases hv z j hz with ⟨hk,_⟩|⟨hk,c',v,hc,hcv,_⟩
    ·exact .inl ⟨hk,trivial⟩
    ·exact .inr ⟨hk,c',v,hc,kc hc hcv,trivial⟩
  | err _ _=>rw [hd] at hp; exact hp.elim
  | bad=>rw [hd] at hp; exact hp.elim
end
end Mine
namespace Mine
open PySem PySem.W PyProof.Rows PySem.Calls PySem.SeqAt
set_option linter.unusedVariables false
section
variable {C:Cx} {n:Nat} {S:Sco} {env:Env} {β β':List Addr} {s s':Shared} {σ σ':Loc} {H H':AH} {A:Around} {E:Value→Shared→Prop} {Q:Value→Shared→Prop} {mg mb:Str→Option Value} {K:Frag}
theorem Inv.allocAt (I:Inv C β s.heap H) {h':Heap} {a:Addr} {ao:AO} (tk:Nat) (hk:∀ b o,s.heap.get? b=some o→h'.get? b=some o) (ha:s.heap.get? a=none) (ho:∀ β',Grow Nix β s.heap β' h'→OR C β' h' a ao) :
  After C Nix β s (β++[a]) { s with heap:=h',toks:=tk } (H++[ao]):=by
 have g:Grow Nix β s.heap (β++[a]) h':=⟨⟨⟨[a],rfl,fun b hb=>by rw [List.mem_singleton.mp hb]; exact ha⟩,fun b o' e _ _=>⟨o',hk b o' e,.refl _⟩,fun _ h=>h.elim⟩,fun _ h=>h.elim⟩
 have hna:a∉β:=fun hm=>by
  refine Exists.elim (I.live a hm) fun o ho=>?_
  rw [ha] at ho; injection ho
 refine ⟨g,⟨by simp [I.len],?_,fun i b x h1 h2=>?_,fun b o' e=>hk b o' (I.base b o' e),?_⟩,_,tk,rfl⟩
 ·refine List.nodup_append.mpr ⟨I.nodup,by simp,fun b hb c hc=>?_⟩
  rw [List.mem_singleton.mp hc]; rintro rfl; exact hna hb
 ·by_cases hi:i < β.length
  ·rw [List.getElem?_append_left hi] at h1
   rw [List.getElem?_append_left (I.len ▸ hi)] at h2
   exact (I.obj i b x h1 h2).keep g.toGrow0 fun _ hob=>hk _ _ hob
  ·have hlen:i < (β++[a]).length:=(List.getElem?_eq_some_iff.mp h1).1
   have hi':i=β.length:=by simp at hlen; omega
   subst hi'
   rw [List.getElem?_append_right (Nat.le_refl _)] at h1
   rw [List.getElem?_append_right (by rw [I.len]; exact Nat.le_refl _),← I.len] at h2
   simp at h1 h2
   subst h1 h2
   exact ho _ g
 ·intro b hb
  rcases List.mem_append.mp hb with h1|h1
  ·exact I.fresh b h1
  ·rw [List.mem_singleton.mp h1]
   cases q:C.base.get? a with
   | none=>rfl
   | some o'=>rw [I.base _ _ q] at ha; injection ha
theorem SE.newC {func e:Expr} {pos:Pos} {d:DE} (hf:SE C n S func (dCst (.bi .list))) (he:SE C n S e d)
  (hc:∀ env,eval (.Call func [e] [] pos) env=(do callWith pos (← eval func env) [] (backTo pos (starEach [e] env)) (backToKw pos (keywordEach [] env))))
  (hstar:∀ env,starEach [e] env=(false,eval e env)::starEach [] env)
  (hplain:∀ env,(backTo pos (starEach [e] env)).any (·.1)=false) :
  SE C n S (.Call func [e] [] pos) (dNewC d):=by
 refine ⟨fun A env σ H β s Q E P hp=>?_⟩
 refine Call_ (wpAny_mono (hf.go A env σ H β s (fun x s₁=>∃ β₁,After C Nix β s β₁ s₁ H∧VR C β₁ s₁.heap x (.bi .list)) E P (fun x s' β' a hx=>⟨β',a,hx⟩)) ?_ fun _ _ e=>e) (hc env)
 intro x s₁ hZ; refine e1a2 hZ fun β₁ a₁ vx=>?_
 have e':=VR.inv vx
 subst e'
 have hp₁:=Pst.shift a₁ hp
 have hany:=hplain env
 have key:wpAny (model C.prog C.w) A (spliced (backTo pos (starEach [e] env))) (fun ys s₂=>wpAny (model C.prog C.w) A (call (.type "list") ys) Q E s₂) E s₁:=by
  refine wpAny_items_cons (Pst.then hp₁ (fun _ h'=>he.go A env σ H β₁ s₁ _ E (P.after a₁) h') ?_) (hstar env)
  intro y s₂ v H₂ β₂ _ a₂ vy hp₂
  refine wpAny_items_nil ?_
  have hnew:s₂.heap.get? s₂.heap.objs.size=none:=by
   cases q:s₂.heap.get? s₂.heap.objs.size with
   | none=>rfl
   | some o'=>exact absurd (Heap.lt_size q) (Nat.lt_irrefl _)
  have copy:∀ {a:Addr} {T:String} {o:Obj} {items:Array Value} {m:Nat} {l:List AV},(T="list"∨T="tuple")→s₂.heap.get? a=some o→o.cls=.type T→o.data=.seq items m→VRs C β₂ s₂.heap items.toList l→l.length≤1048576 →
    Pst C Nix (VR C) β₂ s₂ (.ok (.ref H₂.length) (H₂++[.list l])) Q E→wpAny (model C.prog C.w) A (call (.type "list") [.ref a]) Q E s₂:=by
   intro a T o items m l hT ho hc hd hv hl hp
   have hlen:=hv.length
   rw [Array.length_toList] at hlen
   refine call_list_seq a hT ho hc hd (fun h' c' hk hn=>?_) (by rw [hlen]; exact Nat.le_trans hl (by decide))
   have af:=a₂.inv.allocAt (s:=s₂) (h':=h') (a:=s₂.heap.objs.size) (ao:=.list l) s₂.toks hk hnew (fun β' g=>⟨items,⟨c',hn⟩,hv.mono g⟩)
   refine hp _ _ _ af (.ref ?_)
   rw [← a₂.inv.len]; simp
  cases hcp:copyOf H₂ v with
  | none=>rw [hcp] at hp₂; exact hp₂.elim
  | some l =>
   rw [hcp] at hp₂
   unfold copyOf at hcp
   split at hcp
   ·split at hcp
    ·rename_i hl
     obtain rfl:=inj hcp
     refine e2a4 vy.inv fun _ _ e0 ht _ hv=>?_
     subst e0
     refine meaae ht fun o ho hc m hd=>?_
     exact copy (.inr rfl) ho hc hd hv hl hp₂
    ·injection hcp
   ·split at hcp
    ·rename_i l' hl'
     split at hcp
     ·rename_i hl
      obtain rfl:=inj hcp
      refine e2a3 (Za5 a₂.inv vy hl') fun a items eZ2 hli hv=>?_; subst eZ2
      refine meaae hli fun o ho hc m hd=>?_
      exact copy (.inl rfl) ho hc hd hv hl hp₂
     ·injection hcp
    ·injection hcp
 rw [hstar env] at key hany ⊢
 exact PyProof.Rows.callWith_type hany (evalArgs_plain key)
end
end Mine
namespace Mine
open PySem
open Sem (wp)
set_option linter.unusedVariables false
set_option Elab.async false
section
variable {prog:Program} {w:World} {A:Around} {E:Value→Shared→Prop} {s:Shared}
abbrev SK:=Int×List Int
noncomputable def IsSt (prog:Program) (w:World) (h:Heap) (k:SK) (a:Addr):Prop:=∃ o t b n,h.get? a=some o∧o.cls=.type "tuple"∧o.data=.seq #[.int k.1 t,.ref b] n∧IsTupleKey (intKind prog w) h k.2 b
theorem IsSt.typeIs {k:SK} {a:Addr} (x:IsSt prog w s.heap k a):s.TypeIs (.ref a) "tuple":=let ⟨o,_,_,_,ho,hc,_⟩:=x; ⟨o,ho,hc⟩
theorem IsSt.inj {h:Heap} {a:Addr} {x y:SK} (hx:IsSt prog w h x a) (hy:IsSt prog w h y a):x=y:=by
 refine e4a4 hx fun o t b n ho _ hd hi=>?_
 refine e4a4 hy fun o' t' b' n' ho' _ hd' hi'=>?_
 obtain rfl:o=o':=Option.some.inj (ho.symm.trans ho')
 rw [hd] at hd'
 injection hd' with h1 _
 have h1:=congrArg Array.toList h1
 injection h1 with h2 h3
 injection h3 with h4 _
 injection h2 with h5 _
 injection h4 with h6
 subst h6
 exact Prod.ext h5 (hi.inj hi')
theorem IsSt.keeps {h h':Heap} {k:SK} {a d:Addr} {o:Obj} {es ep} (x:IsSt prog w h k a) (ho:h.get? d=some o) (hd:o.data=.dict es ep) (hs:Heap.SameBut d h h'):IsSt prog w h' k a:=by
 refine e4a4 x fun o' t b n ho' hc hd' hi=>?_
 have hne:a≠d:=by
  rintro rfl
  obtain rfl:o'=o:=Option.some.inj (ho'.symm.trans ho)
  rw [hd] at hd'; exact nomatch hd'
 exact ⟨o',t,b,n,(hs.2 a hne).trans ho',hc,hd',hi.keeps ho hd hs⟩
theorem Zes (k:SK):stHash k=reduceHash (Builtin.Tuple.tupleHashOf [hashInt k.1,tupleKeyHash (intKind prog w) k.2]):=rfl
theorem Zet {i:Int} {t:Tok}:(intKind prog w).is i (.int i t)=true:=by
 show Value.isInt i (.int i t)=true
 simp [Value.isInt]
theorem Zeu {k:SK} {a:Addr} {Q:Int→Shared→Prop} (hu:A.units+1 < cLine) (hk:IsSt prog w s.heap k a) (h:Q (stHash k) { s with toks:=s.toks+(k.2.length+3) }) :
  wpAny (model prog w) A (pyHash (.ref a)) Q E s:=by
 have hT:=hk.typeIs
 refine e4a4 hk fun o t b n ho _ hd hi=>?_
 unfold pyHash
 first|unfold pyHashByItsType|skip
 first|refine wpAny_bind (wpAny_cRoomFor_or (.inr (by exact Nat.le_of_lt (by assumption))) ?_)|skip
 refine wpAny_bind (wpAny_specialOf hT F.slot_tuple_hash.lookup ?_)
 show wpAny _ _ (if (some (Value.builtin "tuple.__hash__") == some Value.none)=true then _ else _) Q E s
 rw [if_neg (by rw [beq_builtin_none]; exact Bool.false_ne_true)]
 refine wpAny_bind (wpAny_specialOf hT F.slot_tuple_hash.lookup ?_)
 show wpAny _ _ (callSpecialIfBoundUnlessNone? (.ref a) "__hash__" _ >>= _) Q E s
 refine wpAny_bind (wpAny_callSpecialIfBoundUnlessNone?_slot hT F.slot_tuple_hash (wpAny_call_entry F.slot_tuple_hash hT F.entry_tuple_hash ?_ (F.args_tuple_hash_1 _)))
 show wpAny _ _ (Builtin.Tuple.tupleItemsOf (.ref a) >>= _) _ _ s
 refine wpAny_bind (wpAny_tupleItemsOf ho hd ?_)
 refine wpAny_bind ?_
 rw [← Array.forIn_toList]
 refine wpAny_forIn_list _
  (fun rest (b':Array Int) s'=>(rest=[.int k.1 t,.ref b]∧b'.toList=[]∧s'=s)∨(rest=[.ref b]∧b'.toList=[hashInt k.1]∧s'={ s with toks:=s.toks+1 })∨(rest=[]∧b'.toList=[hashInt k.1,tupleKeyHash (intKind prog w) k.2]∧s'={ s with toks:=s.toks+(k.2.length+2) }))
  _ ?_ ?_ _ _ (.inl ⟨rfl,rfl,rfl⟩)
 ·rintro x rest b' s' (⟨e,hb,rfl⟩|⟨e,hb,rfl⟩|⟨e,_⟩)
  ·injection e with e1 e2
   subst e1 e2
   refine wpAny_bind ((intKind prog w).pyHash Zet ?_)
   first
    | exact wpAny_pure (.inr (.inl ⟨rfl,by simp [hb]; rfl,rfl⟩))
    | exact wpAny_bind (wpAny_pure (wpAny_pure (.inr (.inl ⟨rfl,by simp [hb]; rfl,rfl⟩))))
  ·injection e with e1 e2
   subst e1 e2
   refine wpAny_bind (wpAny_pyHash_tuple (s:={ s with toks:=s.toks+1 }) hu hi ?_)
   first
    | exact wpAny_pure (.inr (.inr ⟨rfl,by simp [hb],by simp [Nat.add_assoc,Nat.add_comm 1]⟩))
    | exact wpAny_bind (wpAny_pure (wpAny_pure (.inr (.inr ⟨rfl,by simp [hb],by simp [Nat.add_assoc,Nat.add_comm 1]⟩))))
  ·injection e
 ·rintro b' s' (⟨e,_⟩|⟨e,_⟩|⟨_,hb,rfl⟩)
  ·injection e
  ·injection e
  show wpAny _ _ (retInt (Builtin.Tuple.tupleHashOf b'.toList)) _ _ _
  rw [hb]
  refine wpAny_ret_mkInt ?_
  rw [Zes (prog:=prog) (w:=w)] at h
  generalize Builtin.Tuple.tupleHashOf [hashInt k.1,tupleKeyHash (intKind prog w) k.2]=T at h ⊢
  show wpAny _ _ (if (decide (-(2:Int) ^ 63≤T)&&decide (T < 2 ^ 63))=true then _ else _) Q E _
  unfold reduceHash at h
  by_cases hr:(decide (-(2:Int) ^ 63≤T)&&decide (T < 2 ^ 63))=true
  ·rw [if_pos hr]
   rw [if_pos hr] at h
   exact wpAny_pure (by simpa [Nat.add_assoc] using h)
  ·rw [if_neg hr]
   rw [if_neg hr] at h
   exact wpAny_bind (wpAny_rule (wpAny_pure (by simpa [Nat.add_assoc] using h)))
theorem Zev {x y:SK} {a b:Addr} {P:Fin→Shared→Prop} (hu:A.units < cLine) (hx:IsSt prog w s.heap x a) (hy:IsSt prog w s.heap y b) (h:P (.done (.ret (.bool (decide (x=y))))) s) :
  wpAny (model prog w) A (Builtin.«tuple.__eq__» ⟨[.ref a,.ref b],[]⟩) P E s:=by
 have hTb:=hy.typeIs
 refine e4a4 hx fun oa ta ba na hoa _ hda hia=>?_
 refine e4a4 hy fun ob tb bb nb hob _ hdb hib=>?_
 show wpAny _ _ (isInstance (.ref b) (.type "tuple") >>= _) _ _ s
 refine wpAny_bind (wpAny_isInstance hTb isSubtype_tuple_tuple ?_)
 simp only [Bool.not_true,Bool.false_eq_true,if_false]
 refine wpAny_bind (wpAny_tupleItemsOf hoa hda ?_)
 refine wpAny_bind (wpAny_tupleItemsOf hob hdb ?_)
 refine wpAny_bind ?_
 refine wpAny_forIn_list _
  (fun rest r s'=>r.1=none∧s'=s∧((rest=[(.int x.1 ta,.int y.1 tb),(.ref ba,.ref bb)])∨(rest=[(.ref ba,.ref bb)]∧x.1=y.1)∨(rest=[]∧x=y)))
  _ ?_ ?_ _ _ ⟨rfl,rfl,.inl rfl⟩
 ·rintro ⟨u,v⟩ rest r s' ⟨hr,rfl,(e|⟨e,h1⟩|⟨e,_⟩)⟩
  ·injection e with e1 e2
   injection e1 with e3 e4
   subst e2 e3 e4
   refine wpAny_bind ((intKind prog w).eqBool (a:=x.1) (b:=y.1) Zet Zet ?_)
   by_cases hk:x.1=y.1
   ·rw [decide_eq_true hk]
    simp only [Bool.not_true,Bool.false_eq_true,if_false]
    exact wpAny_pure ⟨rfl,rfl,.inr (.inl ⟨by first|trivial|rfl,hk⟩)⟩
   ·rw [decide_eq_false hk]
    simp only [Bool.not_false,if_true]
    have hf:decide (x=y)=false:=decide_eq_false fun e=>hk (by rw [e])
    rw [hf] at h
    exact wpAny_bind (wpAny_pure (wpAny_pure (wpAny_pure h)))
  ·injection e with e1 e2
   injection e1 with e3 e4
   subst e2 e3 e4
   refine wpAny_bind (wpAny_eqBool_tuple hu hia hib ?_)
   by_cases hk:x.2=y.2
   ·rw [decide_eq_true hk]
    simp only [Bool.not_true,Bool.false_eq_true,if_false]
    exact wpAny_pure ⟨rfl,rfl,.inr (.inr ⟨by first|trivial|rfl,Prod.ext h1 hk⟩)⟩
   ·rw [decide_eq_false hk]
    simp only [Bool.not_false,if_true]
    have hf:decide (x=y)=false:=decide_eq_false fun e=>hk (by rw [e])
    rw [hf] at h
    exact wpAny_bind (wpAny_pure (wpAny_pure (wpAny_pure h)))
  ·injection e
 ·rintro ⟨r1,r2⟩ s' ⟨hr,rfl,(e|⟨e,_⟩|⟨_,e⟩)⟩
  ·injection e
  ·injection e
  simp only at hr
  subst hr
  refine wpAny_pure ?_
  rw [decide_eq_true e] at h
  exact h
theorem Zew {x y:SK} {a b:Addr} {Q:Bool→Shared→Prop} (hu:A.units+2 < cLine) (hx:IsSt prog w s.heap x a) (hy:IsSt prog w s.heap y b) (h:Q (decide (x=y)) s) :
  wpAny (model prog w) A (eqBool (.ref a) (.ref b)) Q E s:=by
 unfold eqBool
 try with_reducible refine wpAny_holding ?_
 show wpAny _ _ (if (Value.ref a == Value.ref b)=true then _ else _) Q E s
 by_cases hab:(Value.ref a == Value.ref b)=true
 ·rw [if_pos hab]
  have e:a=b:=by have:=eq_of_beq hab; injection this
  subst e
  obtain rfl:=hx.inj hy
  exact wpAny_bind (wpAny_rule (wpAny_pure (by simpa using h)))
 ·rw [if_neg hab]
  exact wpAny_bind (wpAny_richCompare_same_room (op:=.Eq) hx.typeIs hy.typeIs F.slot_tuple_eq
   (wpAny_call_entry F.slot_tuple_eq hx.typeIs F.entry_tuple_eq (Zev (by show A.units+_ < cLine; exact Nat.le_of_lt (by assumption)) hx hy ⟨_,rfl,(fun e=>nomatch e),wpAny_truthy_bool h⟩) (F.args_tuple_eq_2 _ _)) (by omega))
theorem Zex {n:Nat} {ks:List Int} {a:Addr} {Q:Bool→Shared→Prop} (hk:IsTupleKey (intKind prog w) s.heap ks a) (h:Q true s):wpAny (model prog w) A (eqIsQuiet (n+1) (.ref a)) Q E s:=by
 have hT:=hk.typeIs
 refine e3a4 hk fun o items n ho _ hd hi=>?_
 unfold eqIsQuiet
 refine wpAny_bind (wpAny_specialOf hT F.slot_tuple_eq.lookup ?_)
 show wpAny _ _ (isInstance (.ref a) (.type "tuple") >>= _) _ _ s
 refine wpAny_bind (wpAny_isInstance hT isSubtype_tuple_tuple ?_)
 simp only [Bool.not_true,Bool.false_eq_true,if_false]
 refine wpAny_bind (wpAny_seqItems ho hd ?_)
 refine wpAny_bind ?_
 show wpAny _ _ (forIn items _ _) _ _ s
 rw [← Array.forIn_toList]
 refine wpAny_forIn_list _ (fun rest r s'=>r.1=none∧s'=s∧∀ v∈rest,carriedByValue v=true) _ ?_ ?_ _ _ ⟨rfl,rfl,hi.byValue⟩
 ·intro v rest r s' hZ; refine e0a3 hZ fun hr eZ1 hall=>?_; subst eZ1
  rw [eqIsQuiet_byValue _ (hall v List.mem_cons_self)]
  refine wpAny_bind (wpAny_pure ?_)
  simp only [Bool.not_true,Bool.false_eq_true,if_false]
  exact wpAny_pure ⟨rfl,rfl,fun u hu'=>hall u (List.mem_cons_of_mem _ hu')⟩
 ·rintro ⟨r1,r2⟩ s' ⟨hr,rfl,_⟩
  simp only at hr
  subst hr
  exact wpAny_pure h
theorem Zey {k:SK} {a:Addr} {Q:Bool→Shared→Prop} (hk:IsSt prog w s.heap k a) (h:Q true s):wpAny (model prog w) A (eqIsQuiet 8 (.ref a)) Q E s:=by
 have hT:=hk.typeIs
 refine e4a4 hk fun o t b n ho _ hd hi=>?_
 unfold eqIsQuiet
 refine wpAny_bind (wpAny_specialOf hT F.slot_tuple_eq.lookup ?_)
 show wpAny _ _ (isInstance (.ref a) (.type "tuple") >>= _) _ _ s
 refine wpAny_bind (wpAny_isInstance hT isSubtype_tuple_tuple ?_)
 simp only [Bool.not_true,Bool.false_eq_true,if_false]
 refine wpAny_bind (wpAny_seqItems ho hd ?_)
 refine wpAny_bind ?_
 show wpAny _ _ (forIn (#[Value.int k.1 t,.ref b]:Array Value) _ _) _ _ s
 rw [← Array.forIn_toList]
 refine wpAny_forIn_list _ (fun rest r s'=>r.1=none∧s'=s∧∀ v∈rest,v=.int k.1 t∨v=.ref b) _ ?_ ?_ _ _ ⟨rfl,rfl,fun v hv=>by simpa using hv⟩
 ·intro v rest r s' hZ; refine e0a3 hZ fun hr eZ1 hall=>?_; subst eZ1
  have fin:∀ Q:Bool→Shared→Prop,Q true s'→wpAny (model prog w) A (eqIsQuiet 7 v) Q E s':=fun Q hq=>by
   rcases hall v List.mem_cons_self with rfl|rfl
   ·rw [eqIsQuiet_byValue _ rfl]; exact wpAny_pure hq
   ·exact Zex hi hq
  refine wpAny_bind (fin _ ?_)
  simp only [Bool.not_true,Bool.false_eq_true,if_false]
  exact wpAny_pure ⟨rfl,rfl,fun u hu'=>hall u (List.mem_cons_of_mem _ hu')⟩
 ·rintro ⟨r1,r2⟩ s' ⟨hr,rfl,_⟩
  simp only at hr
  subst hr
  exact wpAny_pure h
end
noncomputable def stKind (prog:Program) (w:World):HeapKind prog w SK where
 is:=IsSt prog w
 hash:=stHash
 draws:=fun k=>k.2.length+3
 room:=fun A=>A.units+2 < cLine
 inj:=fun hx hy=>hx.inj hy
 keeps:=fun x ho hd hs=>x.keeps ho hd hs
 pyHash:=fun hu hk h=>Zeu (by exact Nat.le_of_lt (by assumption)) hk h
 eqBool:=fun hu hx hy h=>Zew hu hx hy h
 quiet:=fun hk h=>Zey hk h
section
variable {prog:Program} {w:World} {A:Around} {E:Value→Shared→Prop} {s:Shared}
theorem Zez {d:Addr} (hd:(d == sysModules)=false) :
  MeetsIn prog w (Builtin.«dict.__len__» ⟨[.ref d],[]⟩) (fun _ R s=>∃ o es ep,s.heap.get? d=some o∧o.ExactDict∧o.data=.dict es ep∧R (.ok (.ret (.int es.size s.toks))) { s with toks:=s.toks+1 }) :=
 .of_wp fun A R s ⟨o,es,ep,ho,hc,hdat,h⟩=>by
  show wpAny _ _ (dictSize d >>= _) _ _ s
  unfold dictSize
  refine wpAny_bind (wpAny_bind (wpAny_dictEntries ho hdat (wpAny_pure ?_)))
  show wpAny _ _ (Builtin.Dict.pendingCount d >>= _) _ _ s
  refine wpAny_bind (wpAny_pendingCount_other hd ?_)
  refine wpAny_ret_mkInt ?_
  rw [Nat.add_zero]; exact h
theorem Ze0 {d:Addr} {o:Obj} {es:Array DictEntry} {ep:Nat} {Q:Value→Shared→Prop} (hd:(d == sysModules)=false) (ho:s.heap.get? d=some o) (hx:o.ExactDict) (hdat:o.data=.dict es ep) (hfit:(es.size:Int) < 2 ^ 63)
  (h:Q (.int es.size (s.toks+1)) { s with toks:=s.toks+1+1 }):wpAny (model prog w) A (call (.builtin "len") [.ref d]) Q E s:=by
 have hT:s.TypeIs (.ref d) "dict":=⟨o,ho,hx.1⟩
 refine Calls.call_function_entry kind_len plain_len entry_len (args_len1 _) ?_
 unfold Builtin.«len»
 refine wpAny_bind (m:=oneArg "len" _) (wpAny_pure ?_)
 refine wpAny_bind (m:=callSpecial? (.ref d) (Str.ofString "__len__")) (wpAny_callSpecial?_slot (name:=Str.ofString "__len__") hT F.slot_dict_len
  (call_meetsIn F.slot_dict_len hT F.entry_dict_len (F.args_dict_len_1 _) (Zez hd) ⟨o,es,ep,ho,hx,hdat,?_⟩))
 show wpAny _ _ _ _ _ { s with toks:=s.toks+1 }
 refine wpAny_bind (wpAny_holding (wpAny_pure ?_))
 refine wpAny_bind (wpAny_letGo ?_)
 show wpAny _ _ (if ((es.size:Nat):Int) < 0 then _ else _) _ _ _
 rw [if_neg (by omega)]
 show wpAny _ _ (if ((es.size:Nat):Int) ≥ 2 ^ 63 then _ else _) _ _ _
 rw [if_neg (by omega)]
 exact wpAny_bind (wpAny_mkInt (wpAny_pure ⟨_,rfl,h⟩))
end
end Mine
namespace Mine
open PySem PySem.W PyProof.Rows PySem.Calls PySem.SeqAt
set_option linter.unusedVariables false
set_option Elab.async false
section
variable {C:Cx} {n:Nat} {S:Sco} {env:Env} {β β':List Addr} {s s':Shared} {σ σ':Loc} {H H':AH} {A:Around} {E:Value→Shared→Prop} {mg mb:Str→Option Value}
theorem Ze1 {α:Type} {f:α→Bool} {a:α} {l:List α} (h:f a=true):(a::l).find? f=some a:=by rw [List.find?_cons,h]
theorem Ze2 {α:Type} {f:α→Bool} {a:α} {l:List α} (h:f a=false):(a::l).find? f=l.find? f:=by rw [List.find?_cons,h]
theorem val_eq {K:Type} [DecidableEq K] {a k:K} {v:Value} {l:List (K×Value)} (e:a=k):valueAt ((a,v)::l) k=some v:=by unfold valueAt; rw [Ze1 (a:=(a,v)) (f:=fun p=>decide (p.1=k)) (decide_eq_true e)]; rfl
theorem val_ne {K:Type} [DecidableEq K] {a k:K} {v:Value} {l:List (K×Value)} (e:¬ a=k):valueAt ((a,v)::l) k=valueAt l k:=by unfold valueAt; rw [Ze2 (a:=(a,v)) (f:=fun p=>decide (p.1=k)) (decide_eq_false e)]
theorem Ze3 {K:Type} [DecidableEq K] {a k:K} {v:AV} {l:List (K×AV)} (e:a=k):lookD ((a,v)::l) k=some v:=by unfold lookD; rw [Ze1 (a:=(a,v)) (f:=fun p=>decide (p.1=k)) (decide_eq_true e)]; rfl
theorem Ze4 {K:Type} [DecidableEq K] {a k:K} {v:AV} {l:List (K×AV)} (e:¬ a=k):lookD ((a,v)::l) k=lookD l k:=by unfold lookD; rw [Ze2 (a:=(a,v)) (f:=fun p=>decide (p.1=k)) (decide_eq_false e)]
theorem Ze5 {K:Type} [DecidableEq K] {h:Heap}:∀ {kvs:List (K×Value)} {l:List (K×AV)},kvs.map (·.1)=l.map (·.1)→VRs C β h (kvs.map (·.2)) (l.map (·.2))→∀ k,(valueAt kvs k).isSome=(lookD l k).isSome∧∀ d,lookD l k=some d→∃ v,valueAt kvs k=some v∧VR C β h v d
 | [],[],_,_,k=>⟨rfl,fun d h=>nomatch h⟩
 | [],_::_,h,_,_=>nomatch h
 | _::_,[],h,_,_=>nomatch h
 | (a,v)::kvs,(b,d)::l,h,r,k=>by
  injection h with h1 h2
  have h1:a=b:=h1
  subst h1
  have q:=r.uncons
  by_cases e:a=k
  ·rw [val_eq e,Ze3 e]
   exact ⟨rfl,fun d' hd=>⟨v,rfl,inj hd ▸ q.1⟩⟩
  ·rw [val_ne e,Ze4 e]
   exact Ze5 h2 q.2 k
theorem Ze6 {K V W:Type} [DecidableEq K]:∀ {kvs:List (K×V)} {l:List (K×W)} (k:K),kvs.map (·.1)=l.map (·.1)→kvs.any (fun p=>decide (p.1=k))=l.any (fun p=>decide (p.1=k))
 | [],[],_,_=>rfl
 | [],_::_,_,h=>nomatch h
 | _::_,[],_,h=>nomatch h
 | (a,v)::kvs,(b,d)::l,k,h=>by
  injection h with h1 h2
  have h1:a=b:=h1
  subst h1
  simp only [List.any_cons,Ze6 k h2]
theorem Ze7 {K:Type} [DecidableEq K] {h:Heap} {k:K} {v:Value} {d:AV} (q:VR C β h v d):∀ {kvs:List (K×Value)} {l:List (K×AV)},kvs.map (·.1)=l.map (·.1)→VRs C β h (kvs.map (·.2)) (l.map (·.2)) →
  (kvs.map fun p=>if p.1=k then (p.1,v) else p).map (·.1)=(l.map fun p=>if p.1=k then (p.1,d) else p).map (·.1)∧VRs C β h ((kvs.map fun p=>if p.1=k then (p.1,v) else p).map (·.2)) ((l.map fun p=>if p.1=k then (p.1,d) else p).map (·.2))
 | [],[],_,_=>⟨rfl,.nil⟩
 | [],_::_,h,_=>nomatch h
 | _::_,[],h,_=>nomatch h
 | (a,w)::kvs,(b,e)::l,h,r=>by
  injection h with h1 h2
  have h1:a=b:=h1
  subst h1
  have r1:=r.uncons
  obtain ⟨i1,i2⟩:=Ze7 q h2 r1.2
  by_cases hk:a=k
  ·simp only [List.map_cons,hk,if_true]
   exact ⟨by rw [i1],.cons q i2⟩
  ·simp only [List.map_cons,hk,if_false]
   exact ⟨by rw [i1],.cons r1.1 i2⟩
theorem Ze8 {K:Type} [DecidableEq K] {h:Heap} {k:K} {v:Value} {d:AV} (q:VR C β h v d) {kvs:List (K×Value)} {l:List (K×AV)} (hk:kvs.map (·.1)=l.map (·.1)) (hv:VRs C β h (kvs.map (·.2)) (l.map (·.2))) :
  (stored kvs k v).map (·.1)=(putD l k d).map (·.1)∧VRs C β h ((stored kvs k v).map (·.2)) ((putD l k d).map (·.2)):=by
 have ea:=Ze6 (kvs:=kvs) (l:=l) k hk
 unfold stored putD
 rw [ea]
 split
 ·exact Ze7 q hk hv
 ·simp only [List.map_append,List.map_cons,List.map_nil]
  exact ⟨by rw [hk],hv.append (.cons q .nil)⟩
theorem Ze9 (I:Inv C β s.heap H) {x:Value} {v:AV} {l:List (Int×AV)} (vx:VR C β s.heap x v) (h:dictI? H v=some l) :
  ∃ a j kvs,x=.ref a∧v=.ref j∧β[j]?=some a∧H[j]?=some (.dict l)∧s.heap.DictOf (intKind C.prog C.w) a kvs∧kvs.map (·.1)=l.map (·.1)∧VRs C β s.heap (kvs.map (·.2)) (l.map (·.2)):=by
 unfold dictI? at h
 split at h
 ·rename_i j
  split at h
  ·rename_i l' hl
   obtain rfl:=inj h
   refine e1a2 vx.inv fun a e0 hb=>?_
   subst e0
   refine e1a3 (I.obj j a _ hb hl) fun kvs h1 h2 h3=>?_
   exact ⟨a,j,kvs,rfl,rfl,hb,hl,h1,h2,h3⟩
  ·injection h
 ·injection h
theorem Inv.notMods (B:Base C mg mb) (I:Inv C β s.heap H) {a:Addr} {j:Nat} (hb:β[j]?=some a):(a == sysModules)=false:=by
 have hn:=I.fresh a (List.mem_of_getElem? hb)
 refine e1a2 B.seer.mods fun mm qZ1 _=>?_; refine e3a2 qZ1 fun o es ep ho _=>?_
 cases q:a == sysModules with
 | false=>rfl
 | true =>
  have:a=sysModules:=by simpa using q
  rw [this,ho] at hn
  injection hn
theorem intK {i:Int} {t:Tok}:(intKind C.prog C.w).is i (.int i t)=true:=by
 show Value.isInt i (.int i t)=true
 simp [Value.isInt]
theorem Zfa {k d r:AV} (h:hasI H k d=some r):∃ l i,dictI? H d=some l∧k=.int i∧r=.bool (lookD l i).isSome:=by
 unfold hasI at h
 split at h
 ·rename_i l i hl
  obtain rfl:=inj h
  exact ⟨l,i,hl,rfl,rfl⟩
 ·injection h
theorem Zfb {k d r:AV} (h:getI H d k=some r):∃ l i,dictI? H d=some l∧k=.int i∧lookD l i=some r:=by
 unfold getI at h
 split at h
 ·rename_i l i hl
  exact ⟨l,i,hl,rfl,h⟩
 ·injection h
theorem ST.hasI (B:Base C mg mb) {l r:Expr} {pos:Pos} {a b:DE} (hl:SE C n S l a) (hr:SE C n S r b) (hm:behindInMarks .In r=false):ST C n S (.Compare l [.In] [r] pos) (tVal (dHasI a b)):=by
 refine ⟨fun A env σ H β s Q E P hp=>?_⟩
 have hp:=Pst.bind (R:=VR C) hp
 refine wpAny_isTrue_Compare1 (Pst.then hp (fun _ h'=>hl.go A env σ H β s _ E P h') ?_) hm
 intro x s₁ v H₁ β₁ _ a₁ vx hp₁
 refine Pst.then hp₁ (fun _ h'=>hr.go A env σ H₁ β₁ s₁ _ E (P.after a₁) h') ?_
 intro y s₂ u H₂ β₂ _ a₂ vy hp₂
 refine e1a2 (Zbj hp₂) fun c hc hp₃=>?_
 refine e2a3 (Zfa hc) fun l i hd eZ3 eZ4=>?_; subst eZ3; subst eZ4
 refine e3a7 (Ze9 a₂.inv vy hd) fun ad j kvs eZ3 eZ4 hb hH hD hk hv=>?_; subst eZ3; subst eZ4
 refine Exists.elim ((vx.mono a₂.grow).int_inv) fun t eZ1=>?_; subst eZ1
 refine wpAny_in_of (knd:=intKind C.prog C.w) intK (a₂.inv.notMods B hb) hD.mapOf ?_
 rw [(Ze5 hk hv i).1]
 exact wpAny_truthy_bool (tv_end (hp₃ _ _ _ (a₂.inv.toks _) (.bool _)))
theorem SE.getI {e i:Expr} {pos:Pos} {a b:DE} (h:SE C n S e a) (k:SE C n S i b) (hs:∀ o v,subscripted i false o v=operate [o,v] (getItem o v)):SE C n S (.Subscript e i pos) (dGetI a b):=by
 refine ⟨fun A env σ H β s Q E P hp=>?_⟩
 refine Subscript_ (Pst.then hp (fun _ h'=>h.go A env σ H β s _ E P h') ?_)
 intro x s₁ v H₁ β₁ _ a₁ vx hp₁
 refine Pst.then hp₁ (fun _ h'=>k.go A env σ H₁ β₁ s₁ _ E (P.after a₁) h') ?_
 intro y s₂ u H₂ β₂ _ a₂ vy hp₂
 have vx:=vx.mono a₂.grow
 refine e1a2 (Zbj hp₂) fun r hr hp₃=>?_
 refine e2a3 (Zfb hr) fun l i hd eZ3 hg=>?_; subst eZ3
 refine e3a7 (Ze9 a₂.inv vx hd) fun ad j kvs eZ3 eZ4 hb hH hD hk hv=>?_; subst eZ3; subst eZ4
 refine Exists.elim vy.int_inv fun t eZ1=>?_; subst eZ1
 refine e1a2 ((Ze5 hk hv i).2 r hg) fun z hz vz=>?_
 refine Zb2 hD.typeIs slot_dict_getitem.lookup (wpAny_getItem_of (knd:=intKind C.prog C.w) intK hD.mapOf hz ?_) (hs _ _)
 exact hp₃ _ _ _ (a₂.inv.toks _) vz
theorem Zfc {d k v:AV} (h:putI H d k v=some H'):∃ j l i,d=.ref j∧H[j]?=some (.dict l)∧k=.int i∧l.length≤1000000∧H'=H.set j (.dict (putD l i v)):=by
 unfold putI at h
 split at h
 ·split at h
  ·split at h
   ·split at h
    ·rename_i hl _ _ hn
     obtain rfl:=inj h
     exact ⟨_,_,_,rfl,hl,rfl,hn,rfl⟩
    ·injection h
   ·injection h
  ·injection h
 ·injection h
theorem Inv.setObj (I:Inv C β s.heap H) {i:Nat} {a:Addr} {h':Heap} {ao ao':AO} (hb:β[i]?=some a) (hi:H[i]?=some ao) (hs:Heap.SameBut a s.heap h') (hp:∀ g:Grow Nix β s.heap β h',OR C β h' a ao') (tk:Nat) :
  After C Nix β s β { s with heap:=h',toks:=tk } (H.set i ao'):=by
 have ha:a∈β:=List.mem_of_getElem? hb
 have g:Grow Nix β s.heap β h':=⟨⟨⟨[],by simp,fun _ h=>nomatch h⟩,fun b o ho hn _=>⟨o,by rw [hs.2 b (fun q=>hn (q ▸ ha))]; exact ho,.refl _⟩,fun _ h=>h.elim⟩,fun _ h=>h.elim⟩
 refine ⟨g,⟨by rw [List.length_set]; exact I.len,I.nodup,fun j b ao h1 h2=>?_,fun b o hbo=>?_,I.fresh⟩,h',tk,rfl⟩
 ·by_cases q:j=i
  ·subst q
   rw [hb] at h1; obtain rfl:=inj h1
   rw [List.getElem?_set_self (List.getElem?_eq_some_iff.mp hi).1] at h2
   obtain rfl:=inj h2
   exact hp g
  ·rw [List.getElem?_set_ne (Ne.symm q)] at h2
   have hne:b≠a:=fun e=>by
    subst e
    have h3:=(List.getElem?_eq_some_iff.mp h1)
    have h4:=(List.getElem?_eq_some_iff.mp hb)
    exact q ((List.getElem_inj I.nodup).mp (h3.2.trans h4.2.symm))
   exact (I.obj j b ao h1 h2).keep g.toGrow0 fun _ hob=>by rw [hs.2 b hne]; exact hob
 ·have hne:b≠a:=fun q=>by have:=I.fresh a ha; rw [← q,hbo] at this; injection this
  rw [hs.2 b hne]; exact I.base b o hbo
theorem SS.putI {o i e:Expr} {p pos:Pos} {a b c:DE} (ho:SE C n S o a) (hi:SE C n S i b) (he:SE C n S e c) (hs:∀ env,swapsWith e (some (.Subscript o i p)) pos.line env=pure false):SS C n S (.Assign [.Subscript o i p] e pos) (sPutI a b c):=by
 refine ⟨fun A env σ H β s Q E F P hp=>?_⟩
 refine wpAny_Assign_Subscript (Pst.thenE P.own hp (fun _ h'=>he.go A env σ H β s _ E P h') ?_) (hs env)
 intro y s₁ v H₁ β₁ _ a₁ vy hp₁
 have P₁:=P.after a₁
 refine Pst.thenE P₁.own hp₁ (fun _ h'=>ho.go A env σ H₁ β₁ s₁ _ E P₁ h') ?_
 intro x s₂ u H₂ β₂ _ a₂ vx hp₂
 have P₂:=P₁.after a₂
 refine Pst.thenE P₂.own hp₂ (fun _ h'=>hi.go A env σ H₂ β₂ s₂ _ E P₂ h') ?_
 intro k s₃ q H₃ β₃ _ a₃ vk hp₃
 have P₃:=P₂.after a₃
 have vx:=vx.mono a₃.grow
 have vy:=(vy.mono a₂.grow).mono a₃.grow
 cases hset:Mine.putI H₃ u q v with
 | none=>rw [hset] at hp₃; exact hp₃.elim
 | some H₄ =>
  rw [hset] at hp₃
  refine e3a5 (Zfc hset) fun j l i eZ3 hl eZ5 hn eZ7=>?_; subst eZ3; subst eZ5; subst eZ7
  refine e1a2 vx.inv fun ad e0 hb=>?_
  subst e0
  refine e1a3 (a₃.inv.obj j ad _ hb hl) fun kvs hD hk hv=>?_
  refine Exists.elim vk.int_inv fun t eZ1=>?_; subst eZ1
  have hlen:kvs.length=l.length:=by have:=congrArg List.length hk; simpa using this
  refine wpAny_setItem_pairs (knd:=intKind C.prog C.w) (v:=y) intK hD (fun h' hD' hsb=>?_) (Nat.le_trans (m:=1000000) (by omega) (by decide))
  have af:=a₃.inv.setObj hb hl hsb (ao':=.dict (putD l i v)) (fun g=>by
   refine e0a2' (Ze8 (k:=i) vy hk hv) fun r1 r2=>?_
   exact ⟨_,hD',r1,r2.mono g⟩) (s₃.toks+1)
  exact hp₃ _ _ _ (af.weaken P₃.own) ⟨trivial,(P₃.after af).env⟩
theorem Zfd:∀ {l:List AV} {xs:List Int},ints? l=some xs→l=xs.map .int
 | [],xs,h=>by obtain rfl:=inj h; rfl
 | v::r,xs,h=>by
  cases v with
  | int i =>
   refine e1a2 (Option.map_eq_some_iff.mp (show (ints? r).map (i::·)=some xs from h)) fun ys hy eZ2=>?_; subst eZ2
   rw [Zfd hy]; rfl
  | _=>injection h
theorem Zfe {v:AV} {k:SK} (h:keyT v=some k):v=stAV k:=by
 unfold keyT at h
 split at h
 ·refine e1a2 (Option.map_eq_some_iff.mp h) fun xs hx eZ2=>?_; subst eZ2
  rw [Zfd hx]; rfl
 ·injection h
theorem Zff {h:Heap}:∀ {xs:List Int} {vs:List Value},VRs C β h vs (xs.map .int)→ItemsAre (intKind C.prog C.w) xs vs:=by
 intro xs
 induction xs with
 | nil=>intro vs r; rw [r.nil_inv]; exact .nil
 | cons x xs ih =>
  intro vs r
  refine e2a3 r.cons_inv fun v ws e a r'=>?_
  refine Exists.elim a.int_inv fun t e'=>?_
  rw [e,e']
  exact .cons intK (ih r')
theorem st_is {h:Heap} {a:Addr} {k:SK} (v:VR C β h (.ref a) (stAV k)):IsSt C.prog C.w h k a:=by
 refine e2a4 v.inv fun a' items e qZ3 _ hv=>?_; obtain ⟨o,ho,hc,m,hd⟩:=qZ3
 injection e with e
 rw [← e] at ho
 obtain ⟨items⟩:=items
 refine e2a3 (VRs.two_inv hv) fun y z e2 v1 v2=>?_
 have e2:items=[y,z]:=e2
 subst e2
 refine Exists.elim v1.int_inv fun t eZ1=>?_; subst eZ1
 refine e2a4 v2.inv fun b its eZ2 qZ3 _ hv'=>?_; subst eZ2; obtain ⟨o',ho',hc',m',hd'⟩:=qZ3
 exact ⟨o,t,b,m,ho,hc,hd,o',its,m',ho',hc',hd',Zff hv'⟩
theorem Zfg {h:Heap} {x:Value} {k:SK} (v:VR C β h x (stAV k)):∃ a,x=.ref a:=by
 refine e2a2 v.inv fun a _ eZ2 _=>?_; subst eZ2
 exact ⟨a,rfl⟩
theorem Zfh (I:Inv C β s.heap H) {x:Value} {v:AV} {l:List (SK×AV)} (vx:VR C β s.heap x v) (h:dictS? H v=some l) :
  ∃ a j,x=.ref a∧v=.ref j∧β[j]?=some a∧H[j]?=some (.dictS l):=by
 unfold dictS? at h
 split at h
 ·rename_i j
  split at h
  ·rename_i l' hl
   obtain rfl:=inj h
   refine e1a2 vx.inv fun a e hb=>?_
   exact ⟨a,j,e,rfl,hb,hl⟩
  ·injection h
 ·injection h
theorem Zfi {h:Heap} {a:Addr} {l:List (SK×AV)} (o:OR C β h a (.dictS l)):∃ xs:List (SK×Addr×Value),h.DictOfH (stKind C.prog C.w) a xs∧VRs C β h (xs.map fun x=>.ref x.2.1) (xs.map fun x=>stAV x.1)∧(xs.map fun x=>(x.1,x.2.2)).map (·.1)=l.map (·.1)∧VRs C β h ((xs.map fun x=>(x.1,x.2.2)).map (·.2)) (l.map (·.2)):=by
 obtain ⟨xs,o,es,ep,ho,hx,hd,he,hk,hl,hv,hn⟩:=o
 refine ⟨xs,⟨o,es,ep,ho,hx,hd,he,?_,by rw [hl]; exact hn⟩,hk,by rw [List.map_map]; exact hl,by rw [List.map_map]; exact hv⟩
 clear he hl hv
 intro x hm
 induction xs with
 | nil=>cases hm
 | cons y xs ih =>
  rcases List.mem_cons.mp hm with e|hm
  ·rw [e]; exact st_is (VRs.uncons hk).1
  ·exact ih (VRs.uncons hk).2 hm
theorem Zfj {xs:List (SK×Addr×Value)} {k:SK}:(atKey xs k).map (·.2)=valueAt (xs.map fun x=>(x.1,x.2.2)) k:=by
 unfold atKey valueAt
 induction xs with
 | nil=>rfl
 | cons x xs ih =>
  rw [List.map_cons,List.find?_cons,List.find?_cons]
  by_cases e:x.1=k
  ·simp [e]
  ·simp only [e,decide_false]
   exact ih
theorem Zfk {k d r:AV} (h:hasT H k d=some r):∃ l i,dictS? H d=some l∧k=stAV i∧r=.bool (lookD l i).isSome:=by
 unfold hasT at h
 split at h
 ·rename_i l i hl hk
  obtain rfl:=inj h
  exact ⟨l,i,hl,Zfe hk,rfl⟩
 ·injection h
theorem Zfl {k d r:AV} (h:getT H d k=some r):∃ l i,dictS? H d=some l∧k=stAV i∧lookD l i=some r:=by
 unfold getT at h
 split at h
 ·rename_i l i hl hk
  exact ⟨l,i,hl,Zfe hk,h⟩
 ·injection h
theorem roomT (R:Room n A):(stKind C.prog C.w).room A.in1:=by
 show A.units+_+2 < cLine
 have:=R.units
 omega
theorem Zfm (B:Base C mg mb) (R:Room n A) (I:Inv C β s.heap H) {x y:Value} {v u r:AV} {Q:Value→Shared→Prop} (vx:VR C β s.heap x v) (vy:VR C β s.heap y u) (hc:hasT H v u=some r) (hp:Pst C Nix (VR C) β s (.ok r H) Q E) :
  wpAny (model C.prog C.w) A (compareOp .In x y) Q E s:=by
 refine e2a3 (Zfk hc) fun l i hd eZ3 eZ4=>?_; subst eZ3; subst eZ4
 refine e2a4 (Zfh I vy hd) fun ad j eZ2 eZ3 hb hH=>?_; subst eZ2; subst eZ3
 refine Exists.elim (Zfg vx) fun a eZ1=>?_; subst eZ1
 refine e1a4 (Zfi (I.obj j ad _ hb hH)) fun xs hD hk hl hv=>?_
 refine wpAny_in_heap (knd:=stKind C.prog C.w) (roomT R) (st_is vx) (I.notMods B hb) hD ?_
 have e:(atKey xs i).isSome=(lookD l i).isSome:=by
  rw [← (Ze5 hl hv i).1,← Zfj]
  simp
 rw [e]
 exact hp _ _ _ (I.toks _) (.bool _)
theorem ST.hasT (B:Base C mg mb) {l r:Expr} {pos:Pos} {a b:DE} (hl:SE C n S l a) (hr:SE C n S r b) (hm:behindInMarks .In r=false):ST C n S (.Compare l [.In] [r] pos) (tVal (dHasT a b)):=by
 refine ⟨fun A env σ H β s Q E P hp=>?_⟩
 have hp:=Pst.bind (R:=VR C) hp
 refine wpAny_isTrue_Compare1 (Pst.then hp (fun _ h'=>hl.go A env σ H β s _ E P h') ?_) hm
 intro x s₁ v H₁ β₁ _ a₁ vx hp₁
 refine Pst.then hp₁ (fun _ h'=>hr.go A env σ H₁ β₁ s₁ _ E (P.after a₁) h') ?_
 intro y s₂ u H₂ β₂ _ a₂ vy hp₂
 refine e1a2 (Zbj hp₂) fun c hc hp₃=>?_
 refine Zfm (E:=E) B P.room a₂.inv (vx.mono a₂.grow) vy hc ?_
 intro z s' β' af hz
 refine e2a3 (Zfk hc) fun l i _ _ eZ4=>?_; subst eZ4
 cases hz
 exact wpAny_truthy_bool (tv_end (hp₃ _ _ _ af (.bool _)))
theorem SE.getT {e i:Expr} {pos:Pos} {a b:DE} (h:SE C n S e a) (k:SE C n S i b) (hs:∀ o v,subscripted i false o v=operate [o,v] (getItem o v)):SE C n S (.Subscript e i pos) (dGetT a b):=by
 refine ⟨fun A env σ H β s Q E P hp=>?_⟩
 refine Subscript_ (Pst.then hp (fun _ h'=>h.go A env σ H β s _ E P h') ?_)
 intro x s₁ v H₁ β₁ _ a₁ vx hp₁
 refine Pst.then hp₁ (fun _ h'=>k.go A env σ H₁ β₁ s₁ _ E (P.after a₁) h') ?_
 intro y s₂ u H₂ β₂ _ a₂ vy hp₂
 have vx:=vx.mono a₂.grow
 refine e1a2 (Zbj hp₂) fun r hr hp₃=>?_
 refine e2a3 (Zfl hr) fun l i hd eZ3 hg=>?_; subst eZ3
 refine e2a4 (Zfh a₂.inv vx hd) fun ad j eZ2 eZ3 hb hH=>?_; subst eZ2; subst eZ3
 refine Exists.elim (Zfg vy) fun ka eZ1=>?_; subst eZ1
 refine e1a4 (Zfi (a₂.inv.obj j ad _ hb hH)) fun xs hD hk hl hv=>?_
 refine e1a2 ((Ze5 hl hv i).2 r hg) fun z hz vz=>?_
 rw [← Zfj] at hz
 refine e1a2 (Option.map_eq_some_iff.mp hz) fun qZ0 hp eZ2=>?_; obtain ⟨pa,pv⟩:=qZ0; subst eZ2
 refine Zb2 hD.typeIs slot_dict_getitem.lookup (wpAny_getItem_heap (knd:=stKind C.prog C.w) (roomT P.room) (st_is vy) hD hp ?_) (hs _ _)
 exact hp₃ _ _ _ (a₂.inv.toks _) vz
theorem Zfn {d k v:AV} (h:putT H d k v=some H'):∃ j l i,d=.ref j∧H[j]?=some (.dictS l)∧k=stAV i∧l.length≤1000000∧H'=H.set j (.dictS (putD l i v)):=by
 unfold putT at h
 split at h
 ·split at h
  ·split at h
   ·split at h
    ·rename_i hl _ _ hk hn
     obtain rfl:=inj h
     exact ⟨_,_,_,rfl,hl,Zfe hk,hn,rfl⟩
    ·injection h
   ·injection h
  ·injection h
 ·injection h
theorem Zfo {xs:List (SK×Addr×Value)} {k:SK} {a:Addr} {v:Value}:(storedH xs k a v).map (fun x=>(x.1,x.2.2))=stored (xs.map fun x=>(x.1,x.2.2)) k v:=by
 have e:(atKey xs k).isSome=(xs.map fun x=>(x.1,x.2.2)).any (fun p=>decide (p.1=k)):=by
  have h1:(atKey xs k).isSome=((atKey xs k).map (·.2)).isSome:=by simp
  rw [h1,Zfj]
  unfold valueAt
  rw [Option.isSome_map]
  generalize xs.map (fun x=>(x.1,x.2.2))=ys
  rw [Bool.eq_iff_iff,List.any_eq_true,List.find?_isSome]
 unfold storedH stored
 rw [e]
 split
 ·rw [List.map_map,List.map_map]
  refine List.map_congr_left fun x _=>?_
  show ((putAt k v x).1,(putAt k v x).2.2)=_
  unfold putAt
  by_cases hk:x.1=k
  ·simp [hk]
  ·simp [hk]
 ·simp
theorem Zfp {h:Heap} {xs:List (SK×Addr×Value)} {k:SK} {a:Addr} {v:Value} (hk:VRs C β h (xs.map fun x=>.ref x.2.1) (xs.map fun x=>stAV x.1)) (ha:VR C β h (.ref a) (stAV k)) :
  VRs C β h ((storedH xs k a v).map fun x=>.ref x.2.1) ((storedH xs k a v).map fun x=>stAV x.1):=by
 unfold storedH
 split
 ·have e1:(xs.map (putAt k v)).map (fun x=>Value.ref x.2.1)=xs.map fun x=>Value.ref x.2.1:=by
   rw [List.map_map]
   refine List.map_congr_left fun x _=>?_
   show Value.ref (putAt k v x).2.1=_
   unfold putAt
   split <;> rfl
  have e2:(xs.map (putAt k v)).map (fun x=>stAV x.1)=xs.map fun x=>stAV x.1:=by
   rw [List.map_map]
   refine List.map_congr_left fun x _=>?_
   show stAV (putAt k v x).1=_
   unfold putAt
   split <;> rfl
  rw [e1,e2]
  exact hk
 ·rw [List.map_append,List.map_append]
  exact hk.append (.cons ha .nil)
theorem SS.putT {o i e:Expr} {p pos:Pos} {a b c:DE} (ho:SE C n S o a) (hi:SE C n S i b) (he:SE C n S e c) (hs:∀ env,swapsWith e (some (.Subscript o i p)) pos.line env=pure false):SS C n S (.Assign [.Subscript o i p] e pos) (sPutT a b c):=by
 refine ⟨fun A env σ H β s Q E F P hp=>?_⟩
 refine wpAny_Assign_Subscript (Pst.thenE P.own hp (fun _ h'=>he.go A env σ H β s _ E P h') ?_) (hs env)
 intro y s₁ v H₁ β₁ _ a₁ vy hp₁
 have P₁:=P.after a₁
 refine Pst.thenE P₁.own hp₁ (fun _ h'=>ho.go A env σ H₁ β₁ s₁ _ E P₁ h') ?_
 intro x s₂ u H₂ β₂ _ a₂ vx hp₂
 have P₂:=P₁.after a₂
 refine Pst.thenE P₂.own hp₂ (fun _ h'=>hi.go A env σ H₂ β₂ s₂ _ E P₂ h') ?_
 intro k s₃ q H₃ β₃ _ a₃ vk hp₃
 have P₃:=P₂.after a₃
 have vx:=vx.mono a₃.grow
 have vy:=(vy.mono a₂.grow).mono a₃.grow
 cases hset:Mine.putT H₃ u q v with
 | none=>rw [hset] at hp₃; exact hp₃.elim
 | some H₄ =>
  rw [hset] at hp₃
  refine e3a5 (Zfn hset) fun j l i eZ3 hl eZ5 hn eZ7=>?_; subst eZ3; subst eZ5; subst eZ7
  refine e1a2 vx.inv fun ad e0 hb=>?_
  subst e0
  refine Exists.elim (Zfg vk) fun ka eZ1=>?_; subst eZ1
  refine e1a4 (Zfi (a₃.inv.obj j ad _ hb hl)) fun xs hD hk hkl hv=>?_
  have hlen:xs.length=l.length:=by have:=congrArg List.length hkl; simpa using this
  refine wpAny_setItem_heap (knd:=stKind C.prog C.w) (v:=y) (roomT P.room) (st_is vk) hD (fun h' hD' hsb=>?_) (Nat.le_trans (m:=1000000) (by omega) (by decide))
  have af:=a₃.inv.setObj hb hl hsb (ao':=.dictS (putD l i v)) (fun g=>by
   refine e0a2' (Ze8 (k:=i) vy hkl hv) fun r1 r2=>?_
   rw [← Zfo (a:=ka)] at r1 r2
   refine e3a6 hD' fun o' es' ep' g1 g2 g3 g4 g5 g6=>?_
   have r1':(storedH xs i ka y).map (·.1)=(putD l i v).map (·.1):=by rw [List.map_map] at r1; exact r1
   exact ⟨storedH xs i ka y,o',es',ep',g1,g2,g3,g4,(Zfp hk vk).mono g,r1',by have r3:=r2.mono g; rw [List.map_map] at r3; exact r3,by rw [← r1']; exact g6⟩) (s₃.toks+(stKind C.prog C.w).draws i)
  exact hp₃ _ _ _ (af.weaken P₃.own) ⟨trivial,(P₃.after af).env⟩
theorem Zfq (B:Base C mg mb) (I:Inv C β s.heap H) {x:Value} {v r:AV} {Q:Value→Shared→Prop} (vx:VR C β s.heap x v) (h:lenT H v=some r) (hp:Pst C Nix (VR C) β s (.ok r H) Q E):wpAny (model C.prog C.w) A (call (.builtin "len") [x]) Q E s:=by
 unfold lenT at h
 split at h
 ·rename_i l hl
  split at h
  ·rename_i hn
   obtain rfl:=inj h
   refine e2a4 (Zfh I vx hl) fun ad j eZ2 eZ3 hb hH=>?_; subst eZ2; subst eZ3
   obtain ⟨xs,o,es,ep,ho,hx,hd,he,hk,hkl,hv,_⟩:=I.obj j ad _ hb hH
   have hsz:es.size=l.length:=by
    have h1:=congrArg List.length he
    have h2:=congrArg List.length hkl
    simp at h1 h2
    omega
   refine Ze0 (I.notMods B hb) ho hx hd (by omega) ?_
   rw [hsz]
   exact hp _ _ _ (I.toks _) (.int _ _)
  ·injection h
 ·injection h
theorem SE.lenT (B:Base C mg mb) {func e:Expr} {pos:Pos} {d:DE} (hf:SE C n S func (dCst (.bi .len))) (he:SE C n S e d)
  (hc:∀ env,eval (.Call func [e] [] pos) env=(do callWith pos (← eval func env) [] (backTo pos (starEach [e] env)) (backToKw pos (keywordEach [] env))))
  (hstar:∀ env,starEach [e] env=(false,eval e env)::starEach [] env)
  (hplain:∀ env,(backTo pos (starEach [e] env)).any (·.1)=false) :
  SE C n S (.Call func [e] [] pos) (dLenT d):=by
 refine ⟨fun A env σ H β s Q E P hp=>?_⟩
 refine Call_ (wpAny_mono (hf.go A env σ H β s (fun x s₁=>∃ β₁,After C Nix β s β₁ s₁ H∧VR C β₁ s₁.heap x (.bi .len)) E P (fun x s' β' a hx=>⟨β',a,hx⟩)) ?_ fun _ _ e=>e) (hc env)
 intro x s₁ hZ; refine e1a2 hZ fun β₁ a₁ vx=>?_
 have e':=VR.inv vx
 subst e'
 have hp₁:=Pst.shift a₁ hp
 have hany:=hplain env
 have key:wpAny (model C.prog C.w) A (spliced (backTo pos (starEach [e] env))) (fun ys s₂=>wpAny (model C.prog C.w) A (call (.builtin "len") ys) Q E s₂) E s₁:=by
  refine wpAny_items_cons (Pst.then hp₁ (fun _ h'=>he.go A env σ H β₁ s₁ _ E (P.after a₁) h') ?_) (hstar env)
  intro y s₂ v H₂ β₂ _ a₂ vy hp₂
  refine e1a2 (Zbj hp₂) fun r hr hp₃=>?_
  exact wpAny_items_nil (Zfq B a₂.inv vy hr hp₃)
 rw [hstar env] at key hany ⊢
 exact callWith_builtin hany (evalArgs_plain key)
end
end Mine
namespace Mine
open PySem PySem.W PyProof.Rows PySem.Calls PySem.SeqAt
set_option linter.unusedVariables false
set_option Elab.async false
section
variable {C:Cx} {n:Nat} {S:Sco} {env:Env} {β β':List Addr} {s s':Shared} {σ σ':Loc} {H H':AH} {A:Around} {E:Value→Shared→Prop} {mg mb:Str→Option Value} {c₀:Nat} {mN:Str→Option Value}
variable {Φ:Fns}
theorem Zfr {pos:Pos}:∀ (M:Model) (A:Around) (env:Env) (f:Value) (Q:Args→Shared→Prop) (E:Value→Shared→Prop) (s:Shared),wpAny M A (spliced (backTo pos (starEach [] env))) (fun vs s'=>Q ⟨vs,[]⟩ s') E s→wpAny M A (evalArgs f true (backTo pos (starEach [] env)) []) Q E s:=by
 intro M A env f Q E s h
 show wpAny M A (evalArgs f true [] []) Q E s
 have h:wpAny M A (spliced []) (fun vs s'=>Q ⟨vs,[]⟩ s') E s:=h
 unfold evalArgs
 show wpAny M A (spliced [] >>= _) Q E s
 refine wpAny_bind (wpAny_mono h (fun vs s' h'=>?_) fun _ _ x=>x)
 first
  | exact wpAny_bind (wpAny_pure (wpAny_holding (wpAny_bind (wpAny_pure (wpAny_pure h')))))
  | exact wpAny_holding (wpAny_bind (wpAny_pure (wpAny_bind (wpAny_pure (wpAny_pure h')))))
end
end Mine
namespace Mine
open PySem PySem.W PyProof.Rows PySem.Calls PySem.SeqAt
set_option linter.unusedVariables false
set_option Elab.async false
set_option maxRecDepth 100000
section
variable {prog:Program} {w:World} {A:Around} {E:Value→Shared→Prop} {h:Heap} {g:Array GenState} {d:Drawn} {t:Nat} {os:OsState}
variable {K:Addr} {kd:ClsD}
end
section
variable {C:Cx} {n:Nat} {S:Sco} {env:Env} {β β':List Addr} {s s':Shared} {σ σ':Loc} {H H':AH} {A:Around} {E:Value→Shared→Prop} {mg mb:Str→Option Value} {c₀:Nat} {mN:Str→Option Value} {Φ:Fns}
end
end Mine
namespace Mine
open PySem PySem.W PyProof.Rows PySem.Calls PySem.SeqAt Builtin Builtin.ObjectAttr
set_option linter.unusedVariables false
set_option Elab.async false
set_option maxRecDepth 100000
section
variable {prog:Program} {w:World} {A:Around} {E:Value→Shared→Prop} {h:Heap} {g:Array GenState} {d:Drawn} {t:Nat} {os:OsState} {K:Frag}
variable {D x:Addr} {kd:ClsD} {name:Str} {v:Value} {rest:List Value}
end
end Mine
namespace Mine
open PySem PySem.W PyProof.Rows PySem.Calls PySem.SeqAt
set_option linter.unusedVariables false
set_option Elab.async false
set_option maxRecDepth 100000
section
variable {C:Cx} {n:Nat} {S:Sco} {env:Env} {β β':List Addr} {s s':Shared} {σ σ':Loc} {H H':AH} {A:Around} {E:Value→Shared→Prop} {mg mb:Str→Option Value} {c₀:Nat} {mN:Str→Option Value} {Φ:Fns} {K:Frag}
end
end Mine
namespace Mine
open PySem PySem.W PyProof.Rows PySem.Calls PySem.SeqAt
set_option linter.unusedVariables false
set_option Elab.async false
set_option maxRecDepth 100000
noncomputable def notB:AV→Option AV
 | .bool b=>some (.bool (!b))
 | _=>none
noncomputable def dNotT (k d:DE):DE:=fun σ H=>(k σ H).bind fun x H₁=>(d σ H₁).bind fun y H₂=>toR H₂ ((hasT H₂ x y).bind notB)
section
variable {C:Cx} {n:Nat} {S:Sco} {env:Env} {β β':List Addr} {s s':Shared} {σ σ':Loc} {H H':AH} {A:Around} {E:Value→Shared→Prop} {mg mb:Str→Option Value} {c₀:Nat} {mN:Str→Option Value} {Φ:Fns} {K:Frag}
theorem SS.ret0 {pos:Pos}:SS C n S (.Return none pos) (sRet (dCst .none)):=by
 refine ⟨fun A env σ H β s Q E F P hp=>?_⟩
 exact wpAny_Return_none (hp _ s β ((After.refl P.inv).weaken P.own) ⟨.none,P.env⟩)
theorem Zfs {M:Model} {x y:Value} {Q:Value→Shared→Prop} (h:wpAny M A (compareOp .In x y) (fun v s'=>∃ c,v=.bool c∧Q (.bool (!c)) s') E s):wpAny M A (compareOp .NotIn x y) Q E s:=fun Γ p hΓ=>by
 have h':=h Γ p hΓ
 have e1:compareOp .In x y=(do return .bool (← contains y x)):=rfl
 have e2:compareOp .NotIn x y=(do return .bool (!(← contains y x))):=rfl
 rw [e1] at h'
 rw [e2]
 simp only [Sem.wp_bind',Sem.wp_pure'] at h' ⊢
 exact Sem.wp_mono M Γ _ (fun c p₁ s₁ h₁=>by refine e1a2 h₁ fun c' e q=>?_; cases e; exact q) (fun _ _ _ h=>h) _ _ h'
theorem Zft {k d r:AV} (h:(hasT H k d).bind notB=some r):∃ b,hasT H k d=some (.bool b)∧r=.bool (!b):=by
 refine e1a2 (Option.bind_eq_some_iff.mp h) fun v hv e=>?_
 cases v <;> first|(cases e; exact ⟨_,hv,rfl⟩)|injection e
theorem Zfu (B:Base C mg mb) (R:Room n A) (I:Inv C β s.heap H) {x y:Value} {v u r:AV} {Q:Value→Shared→Prop} (vx:VR C β s.heap x v) (vy:VR C β s.heap y u) (hc:(hasT H v u).bind notB=some r) (hp:Pst C Nix (VR C) β s (.ok r H) Q E) :
  wpAny (model C.prog C.w) A (compareOp .NotIn x y) Q E s:=by
 refine e1a2 (Zft hc) fun b hb eZ2=>?_; subst eZ2
 refine Zfs (Zfm B R I vx vy hb ?_)
 intro z s' β' af hz
 cases hz with
 | bool _=>exact ⟨b,rfl,hp _ _ _ af (.bool _)⟩
theorem ST.notT (B:Base C mg mb) {l r:Expr} {pos:Pos} {a b:DE} (hl:SE C n S l a) (hr:SE C n S r b) (hm:behindInMarks .NotIn r=false):ST C n S (.Compare l [.NotIn] [r] pos) (tVal (dNotT a b)):=by
 refine ⟨fun A env σ H β s Q E P hp=>?_⟩
 have hp:=Pst.bind (R:=VR C) hp
 refine wpAny_isTrue_Compare1 (Pst.then hp (fun _ h'=>hl.go A env σ H β s _ E P h') ?_) hm
 intro x s₁ v H₁ β₁ _ a₁ vx hp₁
 refine Pst.then hp₁ (fun _ h'=>hr.go A env σ H₁ β₁ s₁ _ E (P.after a₁) h') ?_
 intro y s₂ u H₂ β₂ _ a₂ vy hp₂
 refine e1a2 (Zbj hp₂) fun c hc hp₃=>?_
 refine Zfu (E:=E) B P.room a₂.inv (vx.mono a₂.grow) vy hc ?_
 intro z s' β' af hz
 refine e1a2 (Zft hc) fun b' _ eZ2=>?_; subst eZ2
 cases hz with
 | bool _ =>
  exact wpAny_truthy_bool (tv_end (hp₃ _ _ _ af (.bool _)))
end
end Mine
namespace Mine
open PySem
set_option linter.unusedVariables false
set_option Elab.async false
noncomputable def W {α:Type} (r:Rs α) (Q:α→AH→Prop):Prop:=∃ a H,r=.ok a H∧Q a H
noncomputable def WS (r:Rs (Fl×Loc)) (N:Loc→AH→Prop) (R:AV→AH→Prop):Prop:=W r fun p H=>match p with
 | (.next,σ)=>N σ H
 | (.ret v,_)=>R v H
noncomputable def OB {α:Type} (o:Option α) (Q:α→Prop):Prop:=∃ v,o=some v∧Q v
section
variable {α β:Type} {Φ:Fns} {σ:Loc} {H:AH} {Q:AV→AH→Prop} {T:Bool→AH→Prop} {N:Loc→AH→Prop} {R:AV→AH→Prop}
theorem W.mono {r:Rs α} {P Q:α→AH→Prop} (h:W r P) (q:∀ a H,P a H→Q a H):W r Q:=by
 refine e2a2 h fun a H e p=>?_
 exact ⟨a,H,e,q a H p⟩
theorem W.bind {r:Rs α} {f:α→AH→Rs β} {Q:β→AH→Prop} (h:W r fun a H=>W (f a H) Q):W (r.bind f) Q:=by
 refine Zam h fun a H e b H' e' q=>?_
 exact ⟨b,H',by rw [e]; exact e',q⟩
theorem W.bindB {r:Rs α} {f:α→AH→Rs β} {Q:β→AH→Prop} (h:W r fun a H=>W (f a H) Q):W (r.bindB f) Q:=by
 refine Zam h fun a H e b H' e' q=>?_
 exact ⟨b,H',by rw [e]; exact e',q⟩
theorem OB.of {o:Option α} {v:α} {Q:α→Prop} (e:o=some v) (q:Q v):OB o Q:=⟨v,e,q⟩
theorem toR_w {o:Option AV} (h:OB o fun v=>Q v H):W (toR H o) Q:=by
 refine e1a2 h fun v e q=>?_
 exact ⟨v,H,by rw [e]; rfl,q⟩
theorem w_cst {v:AV} (q:Q v H):W (dCst v σ H) Q:=⟨_,_,rfl,q⟩
theorem w_loc {i:Nat} {v:AV} (e:σ i=some v) (q:Q v H):W (dLoc i σ H) Q:=⟨v,H,by unfold dLoc; rw [e],q⟩
theorem w_bin {op:BOp} {a b:DE} (h:W (a σ H) fun x H₁=>W (b σ H₁) fun y H₂=>OB (binop H₂ op x y) fun v=>Q v H₂):W (dBin op a b σ H) Q :=
 W.bind (h.mono fun x H₁ h=>W.bind (h.mono fun y H₂ h=>toR_w h))
theorem w_neg {a:DE} (h:W (a σ H) fun x H₁=>∃ i,x=.int i∧Q (.int (-i)) H₁):W (dNeg a σ H) Q :=
 W.bind (h.mono fun x H₁ h=>by refine e1a2 h fun i eZ1 q=>?_; subst eZ1; exact ⟨_,_,rfl,q⟩)
theorem w_not {t:DT} (h:W (t σ H) fun b H₁=>Q (.bool (!b)) H₁):W (dNot t σ H) Q :=
 W.bind (h.mono fun b H₁ h=>⟨_,_,rfl,h⟩)
theorem w_cmp {op:COp} {a b:DE} (h:W (a σ H) fun x H₁=>W (b σ H₁) fun y H₂=>OB (cmpop H₂ op x y) fun c=>Q (.bool c) H₂):W (dCmp op a b σ H) Q :=
 W.bind (h.mono fun x H₁ h=>W.bind (h.mono fun y H₂ h=>toR_w (by refine e1a2 h fun c e q=>?_; exact ⟨_,by rw [e]; rfl,q⟩)))
theorem w_cmp2 {o₁ o₂:COp} {a b c:DE} (h:W (a σ H) fun x H₁=>W (b σ H₁) fun y H₂=>OB (cmpop H₂ o₁ x y) fun d=>(d=true→W (c σ H₂) fun z H₃=>OB (cmpop H₃ o₂ y z) fun g=>Q (.bool g) H₃)∧(d=false→Q (.bool false) H₂)):W (dCmp2 o₁ o₂ a b c σ H) Q :=
 W.bind (h.mono fun x H₁ h=>W.bind (h.mono fun y H₂ h=>by
  refine e1a2 h fun d e q=>?_
  simp only [e]
  cases d with
  | true=>exact W.bind ((q.1 rfl).mono fun z H₃ h=>toR_w (by refine e1a2 h fun c e q=>?_; exact ⟨_,by rw [e]; rfl,q⟩))
  | false=>exact ⟨_,_,rfl,q.2 rfl⟩))
theorem w_and {a b:DE} (h:W (a σ H) fun x H₁=>∃ c,x=.bool c∧(c=true→W (b σ H₁) Q)∧(c=false→Q (.bool false) H₁)):W (dAnd a b σ H) Q :=
 W.bind (h.mono fun x H₁ h=>by
  obtain ⟨c,rfl,h⟩:=h
  cases c with
  | true=>exact h.1 rfl
  | false=>exact ⟨_,_,rfl,h.2 rfl⟩)
theorem w_or {a b:DE} (h:W (a σ H) fun x H₁=>∃ c,x=.bool c∧(c=false→W (b σ H₁) Q)∧(c=true→Q (.bool true) H₁)):W (dOr a b σ H) Q :=
 W.bind (h.mono fun x H₁ h=>by
  obtain ⟨c,rfl,h⟩:=h
  cases c with
  | false=>exact h.1 rfl
  | true=>exact ⟨_,_,rfl,h.2 rfl⟩)
theorem w_nil {Q:List AV→AH→Prop} (q:Q [] H):W (dEach [] σ H) Q:=⟨_,_,rfl,q⟩
theorem w_cons {d:DE} {r:List DE} {Q:List AV→AH→Prop} (h:W (d σ H) fun v H₁=>W (dEach r σ H₁) fun vs H₂=>Q (v::vs) H₂):W (dEach (d::r) σ H) Q :=
 W.bind (h.mono fun x H₁ h=>W.bind (h.mono fun y H₂ h=>⟨_,_,rfl,h⟩))
theorem w_tup {l:List DE} (h:W (dEach l σ H) fun vs H₁=>Q (.tup vs) H₁):W (dTup l σ H) Q:=W.bind (h.mono fun x H₁ h=>⟨_,_,rfl,h⟩)
theorem w_lst {l:List DE} (h:W (dEach l σ H) fun vs H₁=>Q (.lst vs) H₁):W (dLst l σ H) Q:=W.bind (h.mono fun x H₁ h=>⟨_,_,rfl,h⟩)
theorem w_newL {l:List DE} (h:W (dEach l σ H) fun vs H₁=>Q (.ref H₁.length) (H₁++[.list vs])):W (dNewL l σ H) Q:=W.bind (h.mono fun x H₁ h=>⟨_,_,rfl,h⟩)
theorem w_sub {a i:DE} (h:W (a σ H) fun x H₁=>W (i σ H₁) fun k H₂=>OB (subop H₂ x k) fun v=>Q v H₂):W (dSub a i σ H) Q :=
 W.bind (h.mono fun x H₁ h=>W.bind (h.mono fun y H₂ h=>toR_w h))
theorem Zfv {k:Nat} {l:List DE} (h:W (dEach l σ H) fun vs H₁=>W (Φ k vs H₁) Q):W (dCall Φ (dCst (.fn k)) l σ H) Q :=
 W.bind ⟨_,_,rfl,W.bind (h.mono fun vs H₁ h=>h)⟩
theorem Zfw {n:BI} {l:List DE} (h:W (dEach l σ H) fun vs H₁=>OB (appBI H₁ n vs) fun v=>Q v H₁):W (dCall Φ (dCst (.bi n)) l σ H) Q :=
 W.bind ⟨_,_,rfl,W.bind (h.mono fun vs H₁ h=>toR_w h)⟩
theorem w_meth {f:List AV→List AV→Option (List AV)} {o:DE} {l:List DE} (h:W (o σ H) fun x H₁=>isL H₁ x=true∧W (dEach l σ H₁) fun us H₂=>OB (setAt H₂ x (f us)) fun H₃=>Q .none H₃):W (dMeth f o l σ H) Q :=
 W.bind (h.mono fun x H₁ h=>by
  show W (if isL H₁ x then _ else _) Q
  rw [if_pos h.1]
  exact W.bind (h.2.mono fun us H₂ h=>by refine e1a2 h fun H₃ e q=>?_; exact ⟨_,_,by rw [e]; rfl,q⟩))
theorem t_val {a:DE} (h:W (a σ H) fun x H₁=>∃ c,x=.bool c∧T c H₁):W (tVal a σ H) T :=
 W.bind (h.mono fun x H₁ h=>by obtain ⟨c,rfl,h⟩:=h; exact ⟨_,_,rfl,h⟩)
theorem t_cmp {op:COp} {a b:DE} (h:W (a σ H) fun x H₁=>W (b σ H₁) fun y H₂=>OB (cmpop H₂ op x y) fun c=>T c H₂):W (tVal (dCmp op a b) σ H) T :=
 t_val (w_cmp (h.mono fun x H₁ h=>h.mono fun y H₂ h=>by refine e1a2 h fun c e q=>?_; exact ⟨c,e,c,rfl,q⟩))
theorem t_not {t:DT} (h:W (t σ H) fun b H₁=>T (!b) H₁):W (tNot t σ H) T:=W.bind (h.mono fun b H₁ h=>⟨_,_,rfl,h⟩)
theorem t_and {a b:DT} (h:W (a σ H) fun c H₁=>(c=true→W (b σ H₁) T)∧(c=false→T false H₁)):W (tAnd a b σ H) T :=
 W.bind (h.mono fun c H₁ h=>by
  cases c with
  | true=>exact h.1 rfl
  | false=>exact ⟨_,_,rfl,h.2 rfl⟩)
theorem t_or {a b:DT} (h:W (a σ H) fun c H₁=>(c=true→T true H₁)∧(c=false→W (b σ H₁) T)):W (tOr a b σ H) T :=
 W.bind (h.mono fun c H₁ h=>by
  cases c with
  | false=>exact h.2 rfl
  | true=>exact ⟨_,_,rfl,h.1 rfl⟩)
theorem s_seq {a b:DS} (h:WS (a σ H) (fun σ₁ H₁=>WS (b σ₁ H₁) N R) R):WS (sSeq a b σ H) N R :=
 W.bind (W.mono h fun p H₁ h=>by
  obtain ⟨f,σ₁⟩:=p
  cases f with
  | next=>exact h
  | ret v=>exact ⟨_,_,rfl,h⟩)
theorem s_nil (h:N σ H):WS (sNil σ H) N R:=⟨_,_,rfl,h⟩
theorem s_ret {a:DE} (h:W (a σ H) fun v H₁=>R v H₁):WS (sRet a σ H) N R:=W.bind (h.mono fun v H₁ h=>⟨_,_,rfl,h⟩)
theorem s_asg {i:Nat} {a:DE} (h:W (a σ H) fun v H₁=>N (upd σ i v) H₁):WS (sAsg i a σ H) N R:=W.bind (h.mono fun v H₁ h=>⟨_,_,rfl,h⟩)
theorem s_expr {a:DE} (h:W (a σ H) fun _ H₁=>N σ H₁):WS (sExpr a σ H) N R:=W.bind (h.mono fun v H₁ h=>⟨_,_,rfl,h⟩)
theorem s_if {t:DT} {a b:DS} (h:W (t σ H) fun c H₁=>(c=true→WS (a σ H₁) N R)∧(c=false→WS (b σ H₁) N R)):WS (sIf t a b σ H) N R :=
 W.bind (h.mono fun c H₁ h=>by
  cases c with
  | true=>exact h.1 rfl
  | false=>exact h.2 rfl)
theorem Zfx {o k a:DE} (h:W (a σ H) fun v H₁=>W (o σ H₁) fun x H₂=>W (k σ H₂) fun p H₃=>OB (setAt H₃ x (stoF p v)) fun H₄=>N σ H₄):WS (sStore o k a σ H) N R :=
 W.bind (h.mono fun v H₁ h=>W.bind (h.mono fun v H₁ h=>W.bind (h.mono fun v H₁ h=>by
  refine e1a2 h fun H₄ e q=>?_
  exact ⟨_,_,by rw [e],q⟩)))
theorem Zfy {t:Tg} {b:DS} {I:List AV→Loc→AH→Prop} (hb:∀ v r σ H,I (v::r) σ H→∃ σ₁,t.bind v σ=some σ₁∧WS (b σ₁ H) (fun σ₂ H₂=>I r σ₂ H₂) R) (hN:∀ σ H,I [] σ H→N σ H) :
  ∀ (l:List AV) (σ:Loc) (H:AH),I l σ H→WS (forGo t b l σ H) N R
 | [],σ,H,i=>⟨_,_,rfl,hN σ H i⟩
 | v::r,σ,H,i=>by
  refine e1a2 (hb v r σ H i) fun σ₁ e h=>?_
  unfold forGo
  simp only [e]
  exact W.bind (W.mono h fun p H₁ h=>by
   obtain ⟨f,σ₁⟩:=p
   cases f with
   | next=>exact Zfy hb hN r _ _ h
   | ret v=>exact ⟨_,_,rfl,h⟩)
theorem s_for {t:Tg} {it:DE} {b:DS} (h:W (it σ H) fun x H₁=>OB (iter? x) fun l=>WS (forGo t b l σ H₁) N R):WS (sFor t it b σ H) N R :=
 W.bind (h.mono fun x H₁ h=>by
  refine e1a2 h fun l e q=>?_
  simp only [e]
  exact q)
theorem if_dec {p:Prop} [Decidable p] {A B:Prop} (a:p→A) (b:¬ p→B):(decide p=true→A)∧(decide p=false→B) :=
 ⟨fun h=>a (of_decide_eq_true h),fun h=>b (of_decide_eq_false h)⟩
theorem Zfz {p:Prop} [Decidable p] {A B:Prop} (a:¬ p→A) (b:p→B):((!decide p)=true→A)∧((!decide p)=false→B) :=
 ⟨fun h=>a (by simpa using h),fun h=>b (by simpa using h)⟩
theorem if_tt {A B:Prop} (a:A):(true=true→A)∧(true=false→B):=⟨fun _=>a,fun h=>nomatch h⟩
theorem if_ff {A B:Prop} (b:B):(false=true→A)∧(false=false→B):=⟨fun h=>(nomatch h),fun _=>b⟩
theorem if_ft {A B:Prop} (b:A):(false=false→A)∧(false=true→B):=⟨fun _=>b,fun h=>nomatch h⟩
theorem if_tf {A B:Prop} (b:B):(true=false→A)∧(true=true→B):=⟨fun h=>(nomatch h),fun _=>b⟩
theorem if_bl {c:Bool} {A B:Prop} (a:c=true→A) (b:c=false→B):(c=true→A)∧(c=false→B):=⟨a,b⟩
theorem Zf0 {c:Bool} {P:Bool→Prop} (h:P c):∃ d,AV.bool c=.bool d∧P d:=⟨_,rfl,h⟩
theorem int_ex {c:Int} {P:Int→Prop} (h:P c):∃ d,AV.int c=.int d∧P d:=⟨_,rfl,h⟩
end
theorem ob_mod {H:AH} {a b:Int} {Q:AV→Prop} (hb:b≠0) (q:Q (.int (a.fmod b))):OB (binop H .mod (.int a) (.int b)) Q :=
 ⟨_,by show (if b=0 then none else _)=_; rw [if_neg hb],q⟩
theorem Zf1 {H:AH} {a b:Int} {Q:AV→Prop} (hb:b≠0) (q:Q (.int (a.fdiv b))):OB (binop H .fdiv (.int a) (.int b)) Q :=
 ⟨_,by show (if b=0 then none else _)=_; rw [if_neg hb],q⟩
theorem ob_mul {H:AH} {a b:Int} {Q:AV→Prop} (hb:b.natAbs < 2 ^ 60∨a.natAbs < 2 ^ 60) (q:Q (.int (a * b))):OB (binop H .mul (.int a) (.int b)) Q :=
 ⟨_,by unfold binop intOp; simp only; rw [if_pos hb],q⟩
theorem ob_add {H:AH} {a b:Int} {Q:AV→Prop} (q:Q (.int (a+b))):OB (binop H .add (.int a) (.int b)) Q:=⟨_,rfl,q⟩
theorem ob_sub {H:AH} {a b:Int} {Q:AV→Prop} (q:Q (.int (a - b))):OB (binop H .sub (.int a) (.int b)) Q:=⟨_,rfl,q⟩
theorem Zf2 (a b:Int):PyData.eqv (.int a) (.int b)=decide (a=b):=by
 unfold PyData.eqv
 by_cases h:a=b <;> simp [h]
theorem Zf3 (a b:Str):PyData.eqv (.str a) (.str b)=decide (a=b):=by
 unfold PyData.eqv
 by_cases h:a=b <;> simp [h]
theorem Zf4 (H:AH) (a b:Int):eqD H (.int a) (.int b)=some (decide (a=b)):=by
 show (if SeqAt.shaped (.int a)&&SeqAt.shaped (.int b) then some (PyData.eqv (.int a) (.int b)) else none)=_
 rw [Zf2]; rfl
theorem Zf5 (H:AH) {a b:Str} (ha:SeqAt.shaped (.str a)=true) (hb:SeqAt.shaped (.str b)=true):eqD H (.str a) (.str b)=some (decide (a=b)):=by
 show (if SeqAt.shaped (.str a)&&SeqAt.shaped (.str b) then some (PyData.eqv (.str a) (.str b)) else none)=_
 rw [Zf3,ha,hb]; rfl
theorem Zf6 {H:AH} {a:AV} {d:PyData} (h:data H 12 a=some d) (hs:SeqAt.shaped d=true):eqD H a a=some true:=by
 unfold eqD
 rw [h]
 simp only [hs,Bool.and_self,if_true]
 rw [SeqAt.eqv_refl d (SeqAt.canLay_of_shaped hs)]
theorem ob_eqI {H:AH} {a b:Int} {Q:Bool→Prop} (q:Q (decide (a=b))):OB (cmpop H .eq (.int a) (.int b)) Q:=⟨_,Zf4 H a b,q⟩
theorem ob_neI {H:AH} {a b:Int} {Q:Bool→Prop} (q:Q (!decide (a=b))):OB (cmpop H .ne (.int a) (.int b)) Q:=⟨_,by unfold cmpop; simp only [Zf4]; rfl,q⟩
theorem ob_eqS {H:AH} {a b:Str} {Q:Bool→Prop} (ha:SeqAt.shaped (.str a)=true) (hb:SeqAt.shaped (.str b)=true) (q:Q (decide (a=b))):OB (cmpop H .eq (.str a) (.str b)) Q:=⟨_,Zf5 H ha hb,q⟩
theorem Zf7 {l:List AV} {k:Int} {v:AV} (h₀:0≤k) (h₁:k≤1048576) (e:l[k.toNat]?=some v):itemAt l k=some v:=by
 unfold itemAt
 rw [if_pos ⟨by omega,by assumption⟩,if_pos h₀]
 exact e
theorem fm (a:Int) {b:Int} (h:0 < b):0≤a.fmod b∧a.fmod b < b:=⟨Int.fmod_nonneg_of_pos a h,Int.fmod_lt_of_pos a h⟩
theorem fd (a:Int) {b:Int} (ha:0≤a) (h:0 < b):0≤a.fdiv b:=Int.fdiv_nonneg ha (by exact Int.le_of_lt (by assumption))
theorem run_w {m:Nat} {b:Fns→DS} {Φ:Fns} {args:List AV} {H:AH} {Q:AV→AH→Prop} (hl:args.length=m) (h:WS (b Φ (args0 args 0) H) (fun _ H₁=>H₁.take H.length=H∧Q .none H) (fun v H₁=>H₁.take H.length=H∧OB (freeze H.length H₁ 12 v) fun v'=>Q v' H)) :
  W (Fun.run ⟨m,true,b⟩ Φ args H) Q:=by
 refine e2a2 h fun qZ0 H₁ e q=>?_; obtain ⟨f,σ⟩:=qZ0
 cases f with
 | next =>
  refine ⟨_,_,?_,q.2⟩
  unfold Fun.run
  rw [if_pos hl]
  simp only [e,Rs.bind_ok,Rs.bindB_ok,if_pos q.1,Fl.val]
  rfl
 | ret v =>
  obtain ⟨ht,v',hv,q⟩:=q
  refine ⟨_,_,?_,q⟩
  unfold Fun.run
  rw [if_pos hl]
  simp only [e,Rs.bind_ok,Rs.bindB_ok,if_pos ht,Fl.val,hv]
  rfl
theorem fns_w {t:Nat→Option Fun} {n k:Nat} {f:Fun} {args:List AV} {H:AH} {Q:AV→AH→Prop} (h:t k=some f) (q:W (f.run (fns t n) args H) Q):W (fns t (n+1) k args H) Q:=by
 have:fns t (n+1) k args H=f.run (fns t n) args H:=by
  show (match t k with|some f=>f.run (fns t n) args H|none=>.bad)=_
  rw [h]
 rw [this]; exact q
theorem Zf8 (H:AH) (o:AO):(H++[o])[H.length]?=some o:=by simp
theorem Zf9 (H X:AH):(H++X).take H.length=H:=by simp
theorem Zga (H:AH):H.take H.length=H:=by simp
theorem Zgb (H:AH) (l:List AV):isL (H++[.list l]) (.ref H.length)=true:=by unfold isL; simp
theorem Zgc (H:AH) (l:List AV):listOf? (H++[.list l]) (.ref H.length)=some l:=by unfold listOf?; simp
theorem Zgd {H:AH} {l l':List AV} {f:List AV→Option (List AV)} (e:f l=some l'):setAt (H++[.list l]) (.ref H.length) f=some (H++[.list l']):=by
 unfold setAt
 simp [e]
theorem Zge {H:AH} {l:List AV} {v:AV} (h:l.length≤1048576):setAt (H++[.list l]) (.ref H.length) (appM [v])=some (H++[.list (l++[v])]) :=
 Zgd (by unfold appM appF; simp [h])
noncomputable def flat:Nat→AV→Bool
 | 0,_=>false
 | n+1,v=>match v with
  | .tup l=>l.all (flat n)
  | .lst l=>l.all (flat n)
  | .ref _=>false
  | .inst _ _=>false
  | .exc _=>false
  | _=>true
theorem Zgf {f:AV→Option AV}:∀ {l:List AV},(∀ v∈l,f v=some v)→l.mapM f=some l
 | [],_=>rfl
 | v::r,h=>by
  rw [List.mapM_cons,h v (List.mem_cons_self ..),Zgf (l:=r) fun w hw=>h w (List.mem_cons_of_mem _ hw)]
  rfl
theorem Zgg {m:Nat} {H:AH}:∀ (n:Nat) (v:AV),flat n v=true→freeze m H n v=some v
 | 0,_,h=>nomatch h
 | n+1,v,h=>by
  cases v with
  | tup l =>
   have h:l.all (flat n)=true:=h
   show (l.mapM (freeze m H n)).map AV.tup=_
   rw [Zgf fun v hv=>Zgg n v (List.all_eq_true.mp h v hv)]; rfl
  | lst l =>
   have h:l.all (flat n)=true:=h
   show (l.mapM (freeze m H n)).map AV.lst=_
   rw [Zgf fun v hv=>Zgg n v (List.all_eq_true.mp h v hv)]; rfl
  | ref _=>exact nomatch h
  | inst _ _=>exact nomatch h
  | exc _=>exact nomatch h
  | _=>rfl
theorem Zgh:∀ {n k:Nat} (v:AV),n≤k→flat n v=true→flat k v=true
 | 0,_,_,_,h=>nomatch h
 | n+1,0,_,hk,_=>by omega
 | n+1,k+1,v,hk,h=>by
  cases v with
  | tup l =>
   have h:l.all (flat n)=true:=h
   show l.all (flat k)=true
   exact List.all_eq_true.mpr fun v hv=>Zgh v (by omega) (List.all_eq_true.mp h v hv)
  | lst l =>
   have h:l.all (flat n)=true:=h
   show l.all (flat k)=true
   exact List.all_eq_true.mpr fun v hv=>Zgh v (by omega) (List.all_eq_true.mp h v hv)
  | ref _=>exact nomatch h
  | inst _ _=>exact nomatch h
  | exc _=>exact nomatch h
  | _=>rfl
theorem Zgi {H:AH} {l:List AV} {n:Nat} (h:∀ v∈l,flat n v=true):freeze H.length (H++[.list l]) (n+1) (.ref H.length)=some (.lst l):=by
 unfold freeze
 simp only
 rw [if_neg (by exact Nat.lt_irrefl _),Zf8]
 show Option.map AV.lst (l.mapM (freeze H.length (H++[.list l]) n))=_
 rw [Zgf fun v hv=>Zgg n v (h v hv)]; rfl
end Mine
namespace Mine
open PySem
set_option linter.unusedVariables false
set_option Elab.async false
variable {σ:Loc} {H:AH} {N:Loc→AH→Prop} {R:AV→AH→Prop}
theorem Zgj {i:Nat} {b:Int} {body:DS} (I:Nat→Loc→AH→Prop) (hb:∀ (j:Nat) σ H,(j:Int) < b→I j σ H→WS (body (upd σ i (.int j)) H) (I (j+1)) R) (hN:∀ σ H,I b.toNat σ H→N σ H) (h₀:I 0 σ H) :
  WS (forGo (.one i) body (rangeL b) σ H) N R:=by
 refine Zfy (I:=fun r σ H=>∃ j,j≤b.toNat∧r=(List.range' j (b.toNat - j)).map (fun k:Nat=>AV.int (k:Int))∧I j σ H) ?_ ?_ _ _ _ ⟨0,by exact Nat.zero_le _,?_,h₀⟩
 ·intro v r σ H h
  obtain ⟨j,hj,e,h⟩:=h
  by_cases hlt:j < b.toNat
  ·have hs:=Zap hlt
   rw [hs,List.range'_succ,List.map_cons] at e
   injection e with e₁ e₂
   subst e₁
   exact ⟨_,rfl,W.mono (hb j σ H (Int.lt_toNat.mp hlt) h) fun p H₁ q=>by
    obtain ⟨f,σ₁⟩:=p
    cases f with
    | next=>exact ⟨j+1,by assumption,e₂,q⟩
    | ret v=>exact q⟩
  ·have hs:b.toNat - j=0:=Nat.sub_eq_zero_of_le (Nat.le_of_not_lt hlt)
   rw [hs] at e
   injection e
 ·intro σ H h
  obtain ⟨j,hj,e,h⟩:=h
  by_cases hlt:j < b.toNat
  ·have hs:=Zap hlt
   rw [hs,List.range'_succ,List.map_cons] at e
   injection e
  ·have:j=b.toNat:=Nat.le_antisymm hj (Nat.le_of_not_lt hlt)
   subst this
   exact hN σ H h
 ·show (List.range b.toNat).map _=_
  rw [List.range_eq_range']
  rfl
theorem Zgk {X:Type} {i:Nat} {f:X→AV} {body:DS} (I:List X→Loc→AH→Prop) (hb:∀ x r σ H,I (x::r) σ H→WS (body (upd σ i (f x)) H) (I r) R) (hN:∀ σ H,I [] σ H→N σ H) {l:List X} (h₀:I l σ H) :
  WS (forGo (.one i) body (l.map f) σ H) N R:=by
 refine Zfy (I:=fun r σ H=>∃ xs,r=xs.map f∧I xs σ H) ?_ ?_ _ _ _ ⟨l,rfl,h₀⟩
 ·intro v r σ H h
  obtain ⟨xs,e,h⟩:=h
  cases xs with
  | nil=>injection e
  | cons x xs =>
   injection e with e₁ e₂
   subst e₁
   exact ⟨_,rfl,W.mono (hb x xs σ H h) fun p H₁ q=>by
    obtain ⟨f,σ₁⟩:=p
    cases f with
    | next=>exact ⟨xs,e₂,q⟩
    | ret v=>exact q⟩
 ·intro σ H h
  obtain ⟨xs,e,h⟩:=h
  cases xs with
  | nil=>exact hN σ H h
  | cons x xs=>injection e
theorem ob_two {a b:AV} {k:Int} {Q:AV→Prop} (h₀:0≤k) (h₁:k < 2) (qa:k=0→Q a) (qb:k=1→Q b):OB (subop H (.lst [a,b]) (.int k)) Q:=by
 have:k=0∨k=1:=by omega
 rcases this with rfl|rfl
 ·exact ⟨_,rfl,qa rfl⟩
 ·exact ⟨_,rfl,qb rfl⟩
theorem Zgl {b:Int} {Q:AV→Prop} (h₀:0≤b) (h₁:b≤1000000) (q:Q (.rng b)):OB (appBI H .range [.int b]) Q :=
 ⟨_,by show (if -1048576≤b∧b≤1048576 then some (AV.rng b) else none)=_; rw [if_pos ⟨by omega,by exact Int.le_trans (by assumption) (by decide)⟩],q⟩
theorem Zgm {b:Int} {Q:List AV→Prop} (h₀:0≤b) (h₁:b≤1000000) (q:Q (rangeL b)):OB (iter? (.rng b)) Q :=
 ⟨_,by show (if -1048576≤b∧b≤1048576 then some (rangeL b) else none)=_; rw [if_pos ⟨by omega,by exact Int.le_trans (by assumption) (by decide)⟩],q⟩
noncomputable def ov:Option Int→AV
 | none=>.none
 | some i=>.int i
theorem Zgn (v:Option Int) {n:Nat}:flat (n+1) (ov v)=true:=by cases v <;> rfl
theorem ob_opt {x:Int} {c:Bool} {Q:AV→Prop} (q:∀ v:Option Int,(∀ i,v=some i→i=x)→Q (ov v)):OB (subop H (.lst [.int x,.none]) (.int (if c=true then 1 else 0))) Q:=by
 cases c with
 | true=>exact ⟨_,rfl,q none fun i h=>nomatch h⟩
 | false=>exact ⟨_,rfl,q (some x) fun i h=>by injection h with h; exact h.symm⟩
theorem Zgo {c:Bool} {Q:AV→Prop} (q:Q (.int (if c=true then 1 else 0))):OB (appBI H .int [.bool c]) Q:=⟨_,rfl,q⟩
theorem Zgp (a:Int) {b:Int} (h:0≤b):a.fdiv b=a / b:=Int.fdiv_eq_ediv_of_nonneg a h
theorem Zgq {l:List AV} {k:Int} {v:AV} {Q:AV→Prop} (h₀:0≤k) (h₁:k≤1000000) (e:l[k.toNat]?=some v) (q:Q v):OB (subop H (.tup l) (.int k)) Q:=⟨v,Zf7 h₀ (by exact Int.le_trans (by assumption) (by decide)) e,q⟩
theorem Zgr {l:List AV} {k:Int} {v:AV} {Q:AV→Prop} (h₀:0≤k) (h₁:k≤1000000) (e:l[k.toNat]?=some v) (q:Q v):OB (subop H (.lst l) (.int k)) Q:=⟨v,Zf7 h₀ (by exact Int.le_trans (by assumption) (by decide)) e,q⟩
theorem Zgs {l:List AV} {Q:AV→Prop} (h:l.length≤1000000) (q:Q (.tup l)):OB (appBI (H++[.list l]) .tuple [.ref H.length]) Q:=by
 refine ⟨_,?_,q⟩
 show tupOp (H++[.list l]) (.ref H.length)=_
 unfold tupOp
 rw [Zgc]
 simp only
 rw [if_pos (by exact Nat.le_trans (by assumption) (by decide))]
theorem Zgt {l:List AV} {Q:AV→Prop} (h:l.length≤1000000) (q:Q (.tup l)):OB (appBI H .tuple [.lst l]) Q:=by
 refine ⟨_,?_,q⟩
 show (if l.length≤1048576 then some (AV.tup l) else none)=_
 rw [if_pos (by exact Nat.le_trans (by assumption) (by decide))]
theorem ob_cat {a b:List AV} {Q:AV→Prop} (h:a.length+b.length≤1000000) (q:Q (.tup (a++b))):OB (binop H .add (.tup a) (.tup b)) Q:=by
 refine ⟨_,?_,q⟩
 show (if a.length+b.length≤1048576 then some (AV.tup (a++b)) else none)=_
 rw [if_pos (by exact Nat.le_trans (by assumption) (by decide))]
theorem ob_app {l:List AV} {v:AV} {Q:AH→Prop} (h:l.length≤1000000) (q:Q (H++[.list (l++[v])])):OB (setAt (H++[.list l]) (.ref H.length) (appM [v])) Q:=⟨_,Zge (by exact Nat.le_trans (by assumption) (by decide)),q⟩
theorem Zgu {l:List AV} {n:Nat} (h:∀ v∈l,flat n v=true):flat (n+1) (.tup l)=true:=List.all_eq_true.mpr h
theorem Zgv {l:List AV} {n:Nat} (h:∀ v∈l,flat n v=true):flat (n+1) (.lst l)=true:=List.all_eq_true.mpr h
theorem Zgw {v:AV} {Q:AV→AH→Prop} {X:AH} (h:flat 12 v=true) (q:Q v H):(H++X).take H.length=H∧OB (freeze H.length (H++X) 12 v) fun v'=>Q v' H:=⟨Zf9 H X,_,Zgg _ _ h,q⟩
theorem Zgx {v:AV} {Q:AV→AH→Prop} (h:flat 12 v=true) (q:Q v H):H.take H.length=H∧OB (freeze H.length H 12 v) fun v'=>Q v' H:=⟨Zga H,_,Zgg _ _ h,q⟩
theorem Zgy {l:List AV} {Q:AV→AH→Prop} (h:∀ v∈l,flat 11 v=true) (q:Q (.lst l) H):(H++[AO.list l]).take H.length=H∧OB (freeze H.length (H++[AO.list l]) 12 (.ref H.length)) fun v'=>Q v' H:=⟨Zf9 H _,_,Zgi h,q⟩
theorem Zgz {f:AV→Option AV} {a b:AV} {r r':List AV} (h:f a=some b) (h₂:r.mapM f=some r'):(a::r).mapM f=some (b::r'):=by
 rw [List.mapM_cons,h,h₂]; rfl
theorem Zg0 {f:AV→Option AV}:([]:List AV).mapM f=some []:=rfl
theorem Zg1 {m n:Nat} {l l':List AV} (h:l.mapM (freeze m H n)=some l'):freeze m H (n+1) (.tup l)=some (.tup l'):=by
 unfold freeze
 simp only
 rw [h]; rfl
theorem Zg2 {m n:Nat} {i:Int}:freeze m H (n+1) (.int i)=some (.int i):=rfl
theorem Zg3 {a:Str} {Q:Bool→Prop} (h:SeqAt.shaped (.str a)=true) (q:Q true):OB (cmpop H .eq (.str a) (.str a)) Q:=ob_eqS h h (by simpa using q)
theorem Zg4 {a b:Str} {Q:Bool→Prop} (h:(SeqAt.shaped (.str a)&&SeqAt.shaped (.str b)&&!decide (a=b))=true) (q:Q false):OB (cmpop H .eq (.str a) (.str b)) Q:=by
 simp only [Bool.and_eq_true,Bool.not_eq_true',decide_eq_false_iff_not] at h
 exact ob_eqS h.1.1 h.1.2 (by simpa [h.2] using q)
inductive All2 {α β:Type} (P:α→β→Prop):List α→List β→Prop
 | nil:All2 P [] []
 | cons {a:α} {b:β} {l:List α} {k:List β}:P a b→All2 P l k→All2 P (a::l) (b::k)
theorem All2.map_eq {α β:Type} {f:α→β}:∀ {l:List α} {k:List β},All2 (fun a b=>b=f a) l k→k=l.map f
 | _,_,.nil=>rfl
 | _,_,.cons h r=>by rw [h,r.map_eq]; rfl
theorem All2.length {α β:Type} {P:α→β→Prop}:∀ {l:List α} {k:List β},All2 P l k→k.length=l.length
 | _,_,.nil=>rfl
 | _,_,.cons _ r=>by simp [r.length]
theorem All2.mem {α β:Type} {P:α→β→Prop}:∀ {l:List α} {k:List β},All2 P l k→∀ b∈k,∃ a∈l,P a b
 | _,_,.nil,b,h=>nomatch h
 | _,_,.cons p r,b,h=>by
  rcases List.mem_cons.mp h with rfl|h
  ·exact ⟨_,List.mem_cons_self ..,p⟩
  ·refine e1a2 (r.mem b h) fun a ha q=>?_
   exact ⟨a,List.mem_cons_of_mem _ ha,q⟩
theorem Zg5 {X:Type} {f:X→AV} {elt:DE} {k:Nat} {σ:Loc} {P:X→AV→Prop}:∀ (l:List X) (acc:List AV) (H:AH),(∀ v∈l,∀ H',W (elt (upd σ k (f v)) H') fun x H''=>H''=H'∧P v x)→acc.length+l.length≤1048576 →
  ∃ xs,All2 P l xs∧compGo elt tTrue k σ H.length (l.map f) (H++[.list acc])=.ok () (H++[.list (acc++xs)])
 | [],acc,H,_,_=>⟨[],.nil,by simp [compGo]⟩
 | v::r,acc,H,h,hl=>by
  have hl:acc.length+(r.length+1)≤1048576:=hl
  refine e2a3 (h v (List.mem_cons_self ..) (H++[.list acc])) fun x H'' e eZ3 hp=>?_; subst eZ3
  refine e1a2 (Zg5 (f:=f) (k:=k) (σ:=σ) (elt:=elt) (P:=P) r (acc++[x]) H (fun w hw=>h w (List.mem_cons_of_mem _ hw)) (by simp; omega)) fun xs ha e'=>?_
  refine ⟨x::xs,.cons hp ha,?_⟩
  rw [List.map_cons]
  unfold compGo
  simp only [tTrue,Rs.bind_ok,Rs.bindB_ok,if_true,e]
  rw [Zgd (l':=acc++[x]) (by unfold appF; simp; omega)]
  show compGo elt tTrue k σ H.length (r.map f) _=_
  rw [e']
  simp
theorem All2.imp {α β:Type} {P Q:α→β→Prop} (h:∀ a b,P a b→Q a b):∀ {l:List α} {k:List β},All2 P l k→All2 Q l k
 | _,_,.nil=>.nil
 | _,_,.cons p r=>.cons (h _ _ p) (r.imp h)
theorem Zg6 {X:Type} {f:X→AV} {elt it:DE} {k:Nat} {σ:Loc} {H:AH} {Q:AV→AH→Prop} {P:X→AV→Prop} (h:W (it σ H) fun x H₁=>∃ l:List X,iter? x=some (l.map f)∧l.length≤1000000∧(∀ v∈l,∀ H',W (elt (upd σ k (f v)) H') fun x H''=>H''=H'∧flat 10 x=true∧P v x)∧∀ xs,All2 P l xs→Q (.lst xs) H₁) :
  W (dComp elt tTrue k it σ H) Q :=
 W.bind (h.mono fun x H₁ h=>by
  refine e1a4 h fun l e hl he q=>?_
  refine e1a2 (Zg5 (elt:=elt) (f:=f) (k:=k) (σ:=σ) (P:=fun v x=>flat 10 x=true∧P v x) l [] H₁ he (by simp; exact Nat.le_trans (by assumption) (by decide))) fun xs ha e'=>?_
  refine ⟨_,_,?_,q xs (ha.imp fun _ _ p=>p.2)⟩
  simp only [e]
  unfold Zax
  rw [e']
  simp only [Rs.bind_ok,Rs.bindB_ok,if_pos (Zf9 H₁ _)]
  rw [show (12:Nat)=11+1 from rfl,Zgi (n:=11)]
  ·simp
  ·intro v hv
   simp at hv
   refine e1a3 (ha.mem v hv) fun a _ p _=>?_
   exact Zgh _ (by decide) p)
end Mine
namespace Mine
open PySem
set_option linter.unusedVariables false
set_option Elab.async false
section
variable {σ:Loc} {H:AH} {N:Loc→AH→Prop} {R:AV→AH→Prop} {Q:AV→AH→Prop}
noncomputable def pln:Nat→AV→Bool
 | 0,_=>false
 | n+1,v=>match v with
  | .none=>true
  | .int _=>true
  | .str x=>SeqAt.shaped (.str x)
  | .tup l=>decide (l.length≤1000)&&l.all (pln n)
  | .lst l=>decide (l.length≤1000)&&l.all (pln n)
  | _=>false
theorem Zg7:∀ {n k:Nat} (v:AV),n≤k→pln n v=true→pln k v=true
 | 0,_,_,_,h=>nomatch h
 | n+1,0,_,hk,_=>by omega
 | n+1,k+1,v,hk,h=>by
  cases v with
  | tup l =>
   have h:(decide (l.length≤1000)&&l.all (pln n))=true:=h
   obtain ⟨hl,h⟩:=Bool.and_eq_true_iff.mp h
   show (decide (l.length≤1000)&&l.all (pln k))=true
   exact Bool.and_eq_true_iff.mpr ⟨hl,List.all_eq_true.mpr fun v hv=>Zg7 v (by omega) (List.all_eq_true.mp h v hv)⟩
  | lst l =>
   have h:(decide (l.length≤1000)&&l.all (pln n))=true:=h
   obtain ⟨hl,h⟩:=Bool.and_eq_true_iff.mp h
   show (decide (l.length≤1000)&&l.all (pln k))=true
   exact Bool.and_eq_true_iff.mpr ⟨hl,List.all_eq_true.mpr fun v hv=>Zg7 v (by omega) (List.all_eq_true.mp h v hv)⟩
  | none=>rfl
  | int _=>rfl
  | str x=>exact h
  | _=>exact nomatch h
theorem Zg8:∀ {n:Nat} {v:AV},pln n v=true→flat n v=true
 | 0,_,h=>nomatch h
 | n+1,v,h=>by
  cases v with
  | tup l =>
   have h:(decide (l.length≤1000)&&l.all (pln n))=true:=h
   obtain ⟨hl,h⟩:=Bool.and_eq_true_iff.mp h
   exact List.all_eq_true.mpr fun v hv=>Zg8 (List.all_eq_true.mp h v hv)
  | lst l =>
   have h:(decide (l.length≤1000)&&l.all (pln n))=true:=h
   obtain ⟨hl,h⟩:=Bool.and_eq_true_iff.mp h
   exact List.all_eq_true.mpr fun v hv=>Zg8 (List.all_eq_true.mp h v hv)
  | none=>rfl
  | int _=>rfl
  | str x=>rfl
  | _=>exact nomatch h
theorem Zg9 {l:List AV} {n:Nat} (hl:l.length≤1000) (h:∀ v∈l,pln n v=true):pln (n+1) (.tup l)=true:=Bool.and_eq_true_iff.mpr ⟨decide_eq_true hl,List.all_eq_true.mpr h⟩
theorem Zha {l:List AV} {n:Nat} (hl:l.length≤1000) (h:∀ v∈l,pln n v=true):pln (n+1) (.lst l)=true:=Bool.and_eq_true_iff.mpr ⟨decide_eq_true hl,List.all_eq_true.mpr h⟩
theorem Zhb {l:List AV} {n:Nat} (h:(decide (l.length≤1000)&&l.all (pln n))=true):l.length≤1000∧∀ v∈l,pln n v=true:=by
 refine e0a2' (Bool.and_eq_true_iff.mp h) fun h1 h2=>?_
 exact ⟨of_decide_eq_true h1,List.all_eq_true.mp h2⟩
theorem Zhc {n:Nat} (ih:∀ v:AV,pln n v=true→∃ d,data H n v=some d∧d.canLay0=true∧d.depth≤n):∀ {l:List AV},(∀ v∈l,pln n v=true)→∃ ds,l.mapM (data H n)=some ds∧PyData.canLayAll0 ds=true∧PyData.depthAll ds≤n
 | [],_=>⟨[],rfl,rfl,by simp [PyData.depthAll]⟩
 | v::r,h=>by
  refine e1a3 (ih v (h v (List.mem_cons_self ..))) fun d h1 h2 h3=>?_
  refine e1a3 (Zhc ih (l:=r) fun w hw=>h w (List.mem_cons_of_mem _ hw)) fun ds k1 k2 k3=>?_
  refine ⟨d::ds,by rw [List.mapM_cons,h1,k1]; rfl,by simp [PyData.canLayAll0,h2,k2],?_⟩
  rw [PyData.depthAll]
  omega
theorem Zhd:∀ (n:Nat) (v:AV),pln n v=true→∃ d,data H n v=some d∧d.canLay0=true∧d.depth≤n
 | 0,_,h=>nomatch h
 | n+1,v,h=>by
  cases v with
  | tup l =>
   have h:(decide (l.length≤1000)&&l.all (pln n))=true:=h
   obtain ⟨hl,h⟩:=Bool.and_eq_true_iff.mp h
   refine e1a3 (Zhc (H:=H) (fun v hv=>Zhd n v hv) (List.all_eq_true.mp h)) fun ds h1 h2 h3=>?_
   refine ⟨.tuple ds,?_,by rw [PyData.canLay0]; exact h2,by rw [PyData.depth]; omega⟩
   show (l.mapM (data H n)).map PyData.tuple=_
   rw [h1]; rfl
  | lst l =>
   have h:(decide (l.length≤1000)&&l.all (pln n))=true:=h
   obtain ⟨hl,h⟩:=Bool.and_eq_true_iff.mp h
   refine e1a3 (Zhc (H:=H) (fun v hv=>Zhd n v hv) (List.all_eq_true.mp h)) fun ds h1 h2 h3=>?_
   refine ⟨.list ds,?_,by rw [PyData.canLay0]; exact h2,by rw [PyData.depth]; omega⟩
   show (l.mapM (data H n)).map PyData.list=_
   rw [h1]; rfl
  | none=>exact ⟨.none,rfl,rfl,by simp [PyData.depth]⟩
  | int i=>exact ⟨.int i,rfl,rfl,by simp [PyData.depth]⟩
  | str x=>exact ⟨.str x,rfl,SeqAt.canLay_of_shaped h,by simp [PyData.depth]⟩
  | _=>exact nomatch h
theorem Zhe {a b:AV} (h:pln 12 b=true) (e:data H 12 a=data H 12 b):eqD H a b=some true:=by
 refine e1a3 (Zhd (H:=H) 12 b h) fun d h1 h2 h3=>?_
 have hs:SeqAt.shaped d=true:=by
  unfold SeqAt.shaped
  rw [h2]
  simp; exact Nat.le_trans (by assumption) (by decide)
 unfold eqD
 rw [e,h1]
 simp only [hs,Bool.and_self,if_true]
 rw [SeqAt.eqv_refl d (SeqAt.canLay_of_shaped hs)]
theorem Zhf {a b:AV} {Q:Bool→Prop} (h:pln 12 b=true) (e:data H 12 a=data H 12 b) (q:Q true):OB (cmpop H .eq a b) Q:=⟨true,Zhe h e,q⟩
theorem Zhg {a b:AV} {Q:Bool→Prop} (h:pln 12 b=true) (e:data H 12 a=data H 12 b) (q:Q false):OB (cmpop H .ne a b) Q:=⟨false,by unfold cmpop; simp only [Zhe h e]; rfl,q⟩
theorem Zhh {k:Nat} {l:List AV} (h:H[k]?=some (.list l)):data H 12 (.ref k)=data H 12 (.lst l):=by
 show (match H[k]? with|some (.list l)=>(l.mapM (data H 11)).map PyData.list|_=>none)=_
 rw [h]; rfl
theorem run_u {m:Nat} {b:Fns→DS} {Φ:Fns} {args:List AV} (hl:args.length=m) (h:WS (b Φ (args0 args 0) H) (fun _ H₁=>Q .none H₁) (fun v H₁=>Q v H₁)):W (Fun.run ⟨m,false,b⟩ Φ args H) Q:=by
 refine e2a2 h fun qZ0 H₁ e q=>?_; obtain ⟨f,σ⟩:=qZ0
 cases f with
 | next =>
  refine ⟨_,_,?_,q⟩
  unfold Fun.run
  rw [if_pos hl]
  simp only [e,Rs.bind_ok,Rs.bindB_ok,Fl.val]
  rfl
 | ret v =>
  refine ⟨_,_,?_,q⟩
  unfold Fun.run
  rw [if_pos hl]
  simp only [e,Rs.bind_ok,Rs.bindB_ok,Fl.val]
  rfl
theorem s_asgT {t:Tg} {a:DE} (h:W (a σ H) fun v H₁=>OB (t.bind v σ) fun σ₁=>N σ₁ H₁):WS (sAsgT t a σ H) N R :=
 W.bind (h.mono fun v H₁ h=>by
  refine e1a2 h fun σ₁ e q=>?_
  simp only [e]
  exact ⟨_,_,rfl,q⟩)
theorem w_isiT {d:DE} {ts:List BI} (h:W (d σ H) fun x H₁=>OB (isiTOp H₁ x ts) fun b=>Q (.bool b) H₁):W (dIsiT d ts σ H) Q :=
 W.bind (h.mono fun x H₁ h=>toR_w (by refine e1a2 h fun c e q=>?_; exact ⟨_,by rw [e]; rfl,q⟩))
theorem p_none {Q:Option Int→AH→Prop} (q:Q none H):W (evPart none σ H) Q:=⟨_,_,rfl,q⟩
theorem p_some {d:DE} {Q:Option Int→AH→Prop} (h:W (d σ H) fun x H₁=>∃ i,x=.int i∧Q (some i) H₁):W (evPart (some d) σ H) Q :=
 W.bind (h.mono fun x H₁ h=>by refine e1a2 h fun i eZ1 q=>?_; subst eZ1; exact ⟨_,_,rfl,q⟩)
theorem w_slc {a:DE} {lo hi:Option DE} (h:W (a σ H) fun x H₁=>W (evPart lo σ H₁) fun l H₂=>W (evPart hi σ H₂) fun u H₃=>OB (slcOp H₃ x l u) fun v=>Q v H₃):W (dSl a lo hi σ H) Q :=
 W.bind (h.mono fun x H₁ h=>W.bind (h.mono fun l H₂ h=>W.bind (h.mono fun u H₃ h=>toR_w h)))
theorem Zhi {l:List AV} {lo hi:Option Int} {Q:AV→Prop} (h:(okB lo&&okB hi)=true) (hl:l.length≤1000000) (q:Q (.tup (cut l lo hi))):OB (slcOp H (.tup l) lo hi) Q:=by
 refine ⟨_,?_,q⟩
 unfold slcOp
 rw [if_pos h]
 simp only
 rw [if_pos (by exact Nat.le_trans (by assumption) (by decide))]
theorem Zhj {l:List AV} {lo hi:Option Int} {Q:AV→Prop} (h:(okB lo&&okB hi)=true) (hl:l.length≤1000000) (q:Q (.lst (cut l lo hi))):OB (slcOp H (.lst l) lo hi) Q:=by
 refine ⟨_,?_,q⟩
 unfold slcOp
 rw [if_pos h]
 simp only [listOf?]
 rw [if_pos (by exact Nat.le_trans (by assumption) (by decide))]
theorem Zhk {t:Tg} {b:DS} {src:AH→Option (List AV)} {l:List AV} {I:List AV→Loc→AH→Prop} (hs:∀ r σ H,I r σ H→src H=some l) (hb:∀ v r σ H,I (v::r) σ H→∃ σ₁,t.bind v σ=some σ₁∧WS (b σ₁ H) (fun σ₂ H₂=>I r σ₂ H₂) R) (hN:∀ σ H,I [] σ H→N σ H) :
  ∀ (f i:Nat) (σ:Loc) (H:AH),l.length - i < f→i≤l.length→I (l.drop i) σ H→WS (forSrc t b src f i σ H) N R
 | 0,_,_,_,h,_,_=>by omega
 | f+1,i,σ,H,h,h',hi=>by
  unfold forSrc
  rw [hs _ _ _ hi]
  simp only
  by_cases hlt:i < l.length
  ·rw [List.drop_eq_getElem_cons hlt] at hi
   refine e1a2 (hb _ _ _ _ hi) fun σ₁ e hw=>?_
   simp only [List.getElem?_eq_getElem hlt,e]
   exact W.bind (W.mono hw fun p H₁ h₁=>by
    obtain ⟨fl,σ₂⟩:=p
    cases fl with
    | next=>exact Zhk hs hb hN f (i+1) _ _ (by omega) (by assumption) h₁
    | ret v=>exact ⟨_,_,rfl,h₁⟩)
  ·rw [List.drop_eq_nil_of_le (by omega)] at hi
   simp only [List.getElem?_eq_none (Nat.le_of_not_lt hlt),show l.length=i by omega,if_true]
   exact ⟨_,_,rfl,hN _ _ hi⟩
theorem s_forR {t:Tg} {it:DE} {b:DS} (h:W (it σ H) fun x H₁=>∃ k,x=.ref k∧WS (forSrc t b (fun H=>listOf? H (.ref k)) 20000 0 σ H₁) N R):WS (sFor t it b σ H) N R :=
 W.bind (h.mono fun x H₁ h=>by
  refine e1a2 h fun k eZ1 q=>?_; subst eZ1
  exact q)
theorem Zhl {elt:DE} {k:Nat} {σ:Loc} {P:AV→AV→Prop} {src:AH→Option (List AV)} {l:List AV} {H:AH} (hs:∀ acc,src (H++[.list acc])=some l) (he:∀ v∈l,∀ H',W (elt (upd σ k v) H') fun x H''=>H''=H'∧P v x) :
  ∀ (f i:Nat) (acc:List AV),l.length - i < f→i≤l.length→acc.length+(l.length - i)≤1048576→∃ xs,All2 P (l.drop i) xs∧Zav elt tTrue k σ H.length src f i (H++[.list acc])=.ok () (H++[.list (acc++xs)])
 | 0,_,_,h,_,_=>by omega
 | f+1,i,acc,h,h',hl=>by
  unfold Zav
  rw [hs acc]
  simp only
  by_cases hlt:i < l.length
  ·rw [List.drop_eq_getElem_cons hlt]
   refine e2a3 (he l[i] (List.getElem_mem hlt) (H++[.list acc])) fun x H'' e eZ3 hp=>?_; subst eZ3
   refine e1a2 (Zhl hs he f (i+1) (acc++[x]) (by omega) (by assumption) (by simp; omega)) fun xs ha e'=>?_
   refine ⟨x::xs,.cons hp ha,?_⟩
   simp only [List.getElem?_eq_getElem hlt,tTrue,Rs.bind_ok,Rs.bindB_ok,if_true,e]
   rw [Zgd (l':=acc++[x]) (by unfold appF; simp; omega)]
   show Zav elt tTrue k σ H.length src f (i+1) _=_
   rw [e']
   simp
  ·rw [List.drop_eq_nil_of_le (by omega)]
   refine ⟨[],.nil,?_⟩
   simp only [List.getElem?_eq_none (Nat.le_of_not_lt hlt),show l.length=i by omega,if_true,List.append_nil]
theorem Zhm {H:AH} {j:Nat} {l:List AV} (h:H[j]?=some (.list l)) (X:AH):listOf? (H++X) (.ref j)=some l:=by
 have hj:=(List.getElem?_eq_some_iff.mp h).1
 show (match (H++X)[j]? with|some (.list l)=>some l|_=>none)=_
 rw [List.getElem?_append_left hj,h]
theorem Zhn {elt it:DE} {k:Nat} {P:AV→AV→Prop} (h:W (it σ H) fun x H₁=>∃ j l,x=.ref j∧H₁[j]?=some (.list l)∧l.length≤10000∧(∀ v∈l,∀ H',W (elt (upd σ k v) H') fun x H''=>H''=H'∧flat 10 x=true∧P v x)∧∀ xs,All2 P l xs→Q (.lst xs) H₁) :
  W (dComp elt tTrue k it σ H) Q :=
 W.bind (h.mono fun x H₁ h=>by
  refine e2a5 h fun j l eZ2 hj hl he q=>?_; subst eZ2
  refine e1a2 (Zhl (elt:=elt) (k:=k) (σ:=σ) (H:=H₁) (src:=fun H=>listOf? H (.ref j)) (l:=l) (P:=fun v x=>flat 10 x=true∧P v x) (fun acc=>Zhm hj _) he 20000 0 [] (by exact Nat.lt_of_le_of_lt (by assumption) (by decide)) (by exact Nat.zero_le _) (by simp; exact Nat.le_trans (by assumption) (by decide))) fun xs ha e'=>?_
  rw [List.drop_zero] at ha
  refine ⟨_,_,?_,q xs (ha.imp fun _ _ p=>p.2)⟩
  show Zax H₁ _=_
  unfold Zax
  rw [e']
  simp only [Rs.bind_ok,Rs.bindB_ok,if_pos (Zf9 H₁ _)]
  rw [show (12:Nat)=11+1 from rfl,Zgi (n:=11)]
  ·simp
  ·intro v hv
   simp at hv
   refine e1a3 (ha.mem v hv) fun a _ p _=>?_
   exact Zgh _ (by decide) p)
theorem ob_ins {l:List AV} {v:AV} {j:Int} {Q:AH→Prop} (h:l.length≤1000000) (h0:0≤j) (h1:j≤l.length) (q:Q (H++[.list (l.take j.toNat++v::l.drop j.toNat)])):OB (setAt (H++[.list l]) (.ref H.length) (insM [.int j,v])) Q:=by
 refine ⟨_,Zgd ?_,q⟩
 unfold insM insF
 simp only
 rw [if_pos ⟨by exact Nat.le_trans (by assumption) (by decide),h0,h1⟩]
theorem Zho {l:List AV} {Q:AV→Prop} (h:l.length≤1000000) (q:Q (.int l.length)):OB (appBI H .len [.tup l]) Q:=⟨_,by show (if _ then _ else _)=_; rw [if_pos (by exact Nat.le_trans (by assumption) (by decide))],q⟩
theorem Zhp {l:List AV} {Q:AV→Prop} (h:l.length≤1000000) (q:Q (.int l.length)):OB (appBI H .len [.lst l]) Q:=⟨_,by show (if _ then _ else _)=_; rw [if_pos (by exact Nat.le_trans (by assumption) (by decide))],q⟩
theorem Zhq {l:List AV} {Q:AV→Prop} (h:l.length≤1000000) (q:Q (.int l.length)):OB (appBI (H++[.list l]) .len [.ref H.length]) Q:=by
 refine ⟨_,?_,q⟩
 show lenOp (H++[.list l]) (.ref H.length)=_
 unfold lenOp
 simp only
 rw [Zgc]
 simp only
 rw [if_pos (by exact Nat.le_trans (by assumption) (by decide))]
theorem Zhr {l:List AV} {Q:AV→Prop} (h:l.length≤1000000) (q:Q (.lst l)):OB (appBI H .list [.lst l]) Q:=by
 refine ⟨_,?_,q⟩
 show (if l.length≤1048576 then some (AV.lst l) else none)=_
 rw [if_pos (by exact Nat.le_trans (by assumption) (by decide))]
theorem Zhs {H:AH}:∀ (l:List AV),(∀ v∈l,v=.bool true)→allTrue? l=some true
 | [],_=>rfl
 | v::r,h=>by
  rw [h v (List.mem_cons_self ..)]
  show (allTrue? r).map _=_
  rw [Zhs (H:=H) r fun w hw=>h w (List.mem_cons_of_mem _ hw)]; rfl
theorem Zht {l:List AV} {Q:AV→Prop} (h:∀ v∈l,v=.bool true) (q:Q (.bool true)):OB (appBI H .all [.lst l]) Q:=by
 refine ⟨_,?_,q⟩
 show Option.map AV.bool (allTrue? l)=_
 rw [Zhs (H:=H) l h]; rfl
theorem All2.pick {α:Type} {P:α→AV→Prop} {X:Type} {f:X→AV} {R:X→Prop}:∀ {l:List α} {k:List AV},All2 P l k→(∀ a b,P a b→∃ x,R x∧b=f x)→∃ xs:List X,k=xs.map f∧∀ x∈xs,R x
 | _,_,.nil,_=>⟨[],rfl,fun _ h=>(nomatch h)⟩
 | _,_,.cons p r,h=>by
  refine e1a2 (h _ _ p) fun x hx e=>?_
  refine e1a2 (r.pick h) fun xs e' hxs=>?_
  refine ⟨x::xs,by rw [e,e']; rfl,?_⟩
  intro y hy
  rcases List.mem_cons.mp hy with rfl|hy
  ·exact hx
  ·exact hxs y hy
theorem All2.all {α β:Type} {P:α→β→Prop} {T:β→Prop} (h:∀ a b,P a b→T b) {l:List α} {k:List β} (a:All2 P l k):∀ b∈k,T b:=fun b hb=>by
 refine e1a2 (a.mem b hb) fun x _ p=>?_
 exact h x b p
theorem Zhu {X:Type} {f:X→AV} {l:List X} {Q:AV→Prop} (h:l.length≤1000000) (q:Q (.int l.length)):OB (appBI H .len [.lst (l.map f)]) Q:=Zhp (by simpa using h) (by simpa using q)
theorem Zhv {X:Type} {f:X→AV} {l:List X} {Q:AV→Prop} (h:l.length≤1000000) (q:Q (.int l.length)):OB (appBI (H++[.list (l.map f)]) .len [.ref H.length]) Q:=Zhq (by simpa using h) (by simpa using q)
theorem Zhw {X:Type} {t:Tg} {f:X→AV} {body:DS} {src:AH→Option (List AV)} {l:List X} (I:List X→Loc→AH→Prop) (hs:∀ r σ H,I r σ H→src H=some (l.map f)) (hb:∀ x r σ H,I (x::r) σ H→∃ σ₁,t.bind (f x) σ=some σ₁∧WS (body σ₁ H) (I r) R) (hN:∀ σ H,I [] σ H→N σ H) (hl:l.length≤10000) (h₀:I l σ H) :
  WS (forSrc t body src 20000 0 σ H) N R:=by
 refine Zhk (l:=l.map f) (I:=fun r σ H=>∃ xs,r=xs.map f∧I xs σ H) ?_ ?_ ?_ _ _ _ _ (by simp; exact Nat.lt_of_le_of_lt (by assumption) (by decide)) (by exact Nat.zero_le _) ⟨l,by simp,h₀⟩
 ·intro r σ H h
  obtain ⟨xs,e,h⟩:=h
  exact hs _ _ _ h
 ·intro v r σ H h
  obtain ⟨xs,e,h⟩:=h
  cases xs with
  | nil=>injection e
  | cons x xs =>
   injection e with e₁ e₂
   subst e₁
   refine e1a2 (hb x xs σ H h) fun σ₁ eb hw=>?_
   exact ⟨σ₁,eb,W.mono hw fun p H₁ q=>by
    obtain ⟨f,σ₁⟩:=p
    cases f with
    | next=>exact ⟨xs,e₂,q⟩
    | ret v=>exact q⟩
 ·intro σ H h
  obtain ⟨xs,e,h⟩:=h
  cases xs with
  | nil=>exact hN σ H h
  | cons x xs=>injection e
theorem w_newC {a:DE} (h:W (a σ H) fun x H₁=>OB (copyOf H₁ x) fun l=>Q (.ref H₁.length) (H₁++[.list l])):W (dNewC a σ H) Q :=
 W.bind (h.mono fun x H₁ h=>by
  refine e1a2 h fun l e q=>?_
  exact ⟨_,_,by rw [e],q⟩)
noncomputable def Z {α:Type} (r:Rs α) (c:Nat) (H:AH):Prop:=r=.err (.exc c) H
variable {c:Nat} {H':AH}
theorem Z.bind {α γ:Type} {r:Rs α} {f:α→AH→Rs γ} (h:Z r c H'):Z (r.bind f) c H':=by
 unfold Z at h ⊢; rw [h]; rfl
theorem Z.after {α γ:Type} {r:Rs α} {f:α→AH→Rs γ} (h:W r fun a H₁=>Z (f a H₁) c H'):Z (r.bind f) c H':=by
 refine e2a2 h fun a H₁ e z=>?_
 unfold Z at z ⊢; rw [e]; exact z
theorem z_seq1 {a b:DS} (h:Z (a σ H) c H'):Z (sSeq a b σ H) c H':=Z.bind h
theorem z_seq {a b:DS} (h:WS (a σ H) (fun σ₁ H₁=>Z (b σ₁ H₁) c H') (fun _ _=>False)):Z (sSeq a b σ H) c H' :=
 Z.after (W.mono h fun p H₁ h=>by
  obtain ⟨f,σ₁⟩:=p
  cases f with
  | next=>exact h
  | ret v=>exact h.elim)
theorem z_if {t:DT} {a b:DS} (h:W (t σ H) fun x H₁=>(x=true→Z (a σ H₁) c H')∧(x=false→Z (b σ H₁) c H')):Z (sIf t a b σ H) c H' :=
 Z.after (h.mono fun x H₁ h=>by
  cases x with
  | true=>exact h.1 rfl
  | false=>exact h.2 rfl)
theorem Zhx {a:DE} (h:W (a σ H) fun _ H₁=>H₁=H'):Z (sRaise c a σ H) c H':=Z.after (h.mono fun _ H₁ e=>by rw [e]; rfl)
theorem z_expr {a:DE} (h:Z (a σ H) c H'):Z (sExpr a σ H) c H':=Z.bind h
theorem Zhy {Φ:Fns} {k:Nat} {l:List DE} (h:W (dEach l σ H) fun vs H₁=>Z (Φ k vs H₁) c H'):Z (dCall Φ (dCst (.fn k)) l σ H) c H' :=
 Z.after ⟨_,_,rfl,Z.after (h.mono fun vs H₁ h=>h)⟩
theorem z_run {m:Nat} {fz:Bool} {b:Fns→DS} {Φ:Fns} {args:List AV} (hl:args.length=m) (h:Z (b Φ (args0 args 0) H) c H'):Z (Fun.run ⟨m,fz,b⟩ Φ args H) c H':=by
 unfold Fun.run
 rw [if_pos hl]
 exact Z.bind h
theorem z_fns {t:Nat→Option Fun} {n k:Nat} {f:Fun} {args:List AV} (h:t k=some f) (q:Z (f.run (fns t n) args H) c H'):Z (fns t (n+1) k args H) c H':=by
 have:fns t (n+1) k args H=f.run (fns t n) args H:=by
  show (match t k with|some f=>f.run (fns t n) args H|none=>.bad)=_
  rw [h]
 rw [this]; exact q
theorem s_try2 {a:DE} {cs:List Nat} {i:Nat} {d:DS} {H₁:AH} (h:Z (a σ H) c H₁) (hc:c∈cs) (hd:WS (d (upd σ i (.exc c)) H₁) (fun _ H₂=>N noLoc H₂) R):WS (sTry a cs i d σ H) N R:=by
 refine e2a2 hd fun qZ0 H₂ e q=>?_; obtain ⟨f,σ₁⟩:=qZ0
 unfold Z at h
 refine ⟨(f,noLoc),H₂,?_,?_⟩
 ·unfold sTry
  rw [h]
  simp only [excCls,if_pos hc,e,Rs.bindB_ok]
 ·cases f with
  | next=>exact q
  | ret v=>exact q
theorem Zhz {a b:List AV} {Q:AV→Prop} (h:a.length+b.length≤1000000) (q:Q (.lst (a++b))):OB (binop H .add (.lst a) (.lst b)) Q:=by
 refine ⟨_,?_,q⟩
 show (if a.length+b.length≤1048576 then some (AV.lst (a++b)) else none)=_
 rw [if_pos (by exact Nat.le_trans (by assumption) (by decide))]
theorem ob_rep {l:List AV} {j:Int} {Q:AV→Prop} (h:l.length * j.toNat≤1000000∧-1000000≤j∧j≤1000000) (q:Q (.lst (List.replicate j.toNat l).flatten)):OB (binop H .rep (.lst l) (.int j)) Q:=by
 refine ⟨_,?_,q⟩
 show (if l.length * j.toNat≤1048576∧-1048576≤j∧j≤1048576 then some (AV.lst (List.replicate j.toNat l).flatten) else none)=_
 rw [if_pos ⟨by omega,by omega,by omega⟩]
theorem w_newD (q:Q (.ref H.length) (H++[.dict []])):W (dNewD σ H) Q:=⟨_,_,rfl,q⟩
theorem Zh0 {t:DT} {b:DS} {I:Nat→Loc→AH→Prop} (hs:∀ k σ H,I k σ H→W (t σ H) fun c H₁=>(c=true→∃ j,k=j+1∧WS (b σ H₁) (I j) R)∧(c=false→N σ H₁)) :
  ∀ (f k:Nat) (σ:Loc) (H:AH),k < f→I k σ H→WS (Za0 t b f σ H) N R
 | 0,_,_,_,h,_=>by omega
 | f+1,k,σ,H,h,i=>by
  refine W.bindB ((hs k σ H i).mono fun c H₁ hc=>?_)
  cases c with
  | true =>
   refine e1a2 (hc.1 rfl) fun j eZ1 hb=>?_; subst eZ1
   refine W.bindB (W.mono hb fun p H₂ hp=>?_)
   obtain ⟨fl,σ₂⟩:=p
   cases fl with
   | next=>exact Zh0 hs f j σ₂ H₂ (by omega) hp
   | ret w=>exact ⟨_,_,rfl,hp⟩
  | false=>exact ⟨_,_,rfl,hc.2 rfl⟩
theorem Zh1 {t:DT} {b:DS} (I:Nat→Loc→AH→Prop) (k:Nat) (hk:k < 20000) (h₀:I k σ H) (hs:∀ k σ H,I k σ H→W (t σ H) fun c H₁=>(c=true→∃ j,k=j+1∧WS (b σ H₁) (I j) R)∧(c=false→N σ H₁)):WS (sWhile t b σ H) N R :=
 Zh0 hs _ k σ H hk h₀
theorem w_hasI {k d:DE} (h:W (k σ H) fun x H₁=>W (d σ H₁) fun y H₂=>OB (hasI H₂ x y) fun v=>Q v H₂):W (dHasI k d σ H) Q :=
 W.bind (h.mono fun x H₁ h=>W.bind (h.mono fun y H₂ h=>toR_w h))
theorem w_getI {k d:DE} (h:W (d σ H) fun x H₁=>W (k σ H₁) fun y H₂=>OB (getI H₂ x y) fun v=>Q v H₂):W (dGetI d k σ H) Q :=
 W.bind (h.mono fun x H₁ h=>W.bind (h.mono fun y H₂ h=>toR_w h))
theorem s_putI {o k a:DE} (h:W (a σ H) fun v H₁=>W (o σ H₁) fun x H₂=>W (k σ H₂) fun p H₃=>OB (putI H₃ x p v) fun H₄=>N σ H₄):WS (sPutI o k a σ H) N R :=
 W.bind (h.mono fun v H₁ h=>W.bind (h.mono fun v H₁ h=>W.bind (h.mono fun v H₁ h=>by
  refine e1a2 h fun H₄ e q=>?_
  exact ⟨_,_,by rw [e],q⟩)))
theorem Zh2 {l:List (Int×AV)} {k:Int} {Q:AV→Prop} (q:Q (.bool (lookD l k).isSome)):OB (hasI (H++[.dict l]) (.int k) (.ref H.length)) Q :=
 ⟨_,by unfold hasI dictI?; simp,q⟩
theorem Zh3 {l:List (Int×AV)} {k:Int} {v:AV} {Q:AH→Prop} (h:l.length≤1000000) (q:Q (H++[.dict (putD l k v)])):OB (putI (H++[.dict l]) (.ref H.length) (.int k) v) Q :=
 ⟨_,by unfold putI; simp [h],q⟩
theorem Zh4 {t:Tg} {b:DS} {P:AH→Prop} {I:List AV→Loc→AH→Prop} (hb:∀ v r σ H,I (v::r) σ H→∃ σ₁,t.bind v σ=some σ₁∧((∃ H',P H'∧Z (b σ₁ H) c H')∨WS (b σ₁ H) (I r) (fun _ _=>False))) (hN:∀ σ H,¬ I [] σ H) :
  ∀ (l:List AV) (σ:Loc) (H:AH),I l σ H→∃ H',P H'∧Z (forGo t b l σ H) c H'
 | [],σ,H,i=>(hN σ H i).elim
 | v::r,σ,H,i=>by
  refine e1a2 (hb v r σ H i) fun σ₁ e h=>?_
  unfold forGo
  simp only [e]
  rcases h with ⟨H',p,z⟩|h
  ·exact ⟨H',p,Z.bind z⟩
  ·refine e2a2 h fun qZ0 H₂ e₂ q=>?_; obtain ⟨f,σ₂⟩:=qZ0
   cases f with
   | next =>
    refine e1a2 (Zh4 hb hN r σ₂ H₂ q) fun H' p z=>?_
    exact ⟨H',p,Z.after ⟨_,_,e₂,z⟩⟩
   | ret v=>exact q.elim
theorem z_for {t:Tg} {it:DE} {b:DS} {P:AH→Prop} (h:W (it σ H) fun x H₁=>OB (iter? x) fun l=>∃ H',P H'∧Z (forGo t b l σ H₁) c H'):∃ H',P H'∧Z (sFor t it b σ H) c H':=by
 refine Zal h fun x H₁ e l el H' p z=>?_
 refine ⟨H',p,Z.after ⟨_,_,e,?_⟩⟩
 simp only [el]
 exact z
theorem Zh5 {j:Nat} {l:List (Int×AV)} {k:Int} {Q:AV→Prop} (h:H[j]?=some (.dict l)) (q:Q (.bool (lookD l k).isSome)):OB (hasI H (.int k) (.ref j)) Q :=
 ⟨_,by unfold hasI dictI?; simp [h],q⟩
theorem Zh6 {j:Nat} {l:List (Int×AV)} {k:Int} {v:AV} {Q:AV→Prop} (h:H[j]?=some (.dict l)) (e:lookD l k=some v) (q:Q v):OB (getI H (.ref j) (.int k)) Q :=
 ⟨_,by unfold getI dictI?; simp [h,e],q⟩
theorem w_newS (q:Q (.ref H.length) (H++[.dictS []])):W (dNewS σ H) Q:=⟨_,_,rfl,q⟩
theorem w_hasT {k d:DE} (h:W (k σ H) fun x H₁=>W (d σ H₁) fun y H₂=>OB (hasT H₂ x y) fun v=>Q v H₂):W (dHasT k d σ H) Q :=
 W.bind (h.mono fun x H₁ h=>W.bind (h.mono fun y H₂ h=>toR_w h))
theorem w_getT {k d:DE} (h:W (d σ H) fun x H₁=>W (k σ H₁) fun y H₂=>OB (getT H₂ x y) fun v=>Q v H₂):W (dGetT d k σ H) Q :=
 W.bind (h.mono fun x H₁ h=>W.bind (h.mono fun y H₂ h=>toR_w h))
theorem w_lenT {d:DE} (h:W (d σ H) fun x H₁=>OB (lenT H₁ x) fun v=>Q v H₁):W (dLenT d σ H) Q:=W.bind (h.mono fun x H₁ h=>toR_w h)
theorem s_putT {o k a:DE} (h:W (a σ H) fun v H₁=>W (o σ H₁) fun x H₂=>W (k σ H₂) fun p H₃=>OB (putT H₃ x p v) fun H₄=>N σ H₄):WS (sPutT o k a σ H) N R :=
 W.bind (h.mono fun v H₁ h=>W.bind (h.mono fun v H₁ h=>W.bind (h.mono fun v H₁ h=>by
  refine e1a2 h fun H₄ e q=>?_
  exact ⟨_,_,by rw [e],q⟩)))
theorem Zh7:∀ xs:List Int,ints? (xs.map .int)=some xs
 | []=>rfl
 | x::xs=>by
  show (ints? (xs.map .int)).map (x::·)=_
  rw [Zh7 xs]; rfl
theorem Zh8 (k:Int×List Int):keyT (stAV k)=some k:=by
 show (ints? (k.2.map .int)).map _=_
 rw [Zh7]; rfl
theorem Zh9 {l:List ((Int×List Int)×AV)} {k:Int×List Int} {Q:AV→Prop} (q:Q (.bool (lookD l k).isSome)):OB (hasT (H++[.dictS l]) (stAV k) (.ref H.length)) Q :=
 ⟨_,by unfold hasT dictS?; rw [Zh8]; simp,q⟩
theorem Zia {l:List ((Int×List Int)×AV)} {k:Int×List Int} {v:AV} {Q:AV→Prop} (e:lookD l k=some v) (q:Q v):OB (getT (H++[.dictS l]) (.ref H.length) (stAV k)) Q :=
 ⟨_,by unfold getT dictS?; rw [Zh8]; simp [e],q⟩
theorem Zib {l:List ((Int×List Int)×AV)} {Q:AV→Prop} (h:l.length≤1000000) (q:Q (.int l.length)):OB (lenT (H++[.dictS l]) (.ref H.length)) Q :=
 ⟨_,by unfold lenT dictS?; simp; exact Nat.le_trans (by assumption) (by decide),q⟩
theorem Zic {l:List ((Int×List Int)×AV)} {k:Int×List Int} {v:AV} {Q:AH→Prop} (h:l.length≤1000000) (q:Q (H++[.dictS (putD l k v)])):OB (putT (H++[.dictS l]) (.ref H.length) (stAV k) v) Q :=
 ⟨_,by unfold putT; rw [Zh8]; simp [h],q⟩
theorem run_g {m:Nat} {b:Fns→DS} {Φ:Fns} {args:List AV} (hl:args.length=m) (h:∀ R:AV→AH→Prop,(∀ v H₁,(H₁.take H.length=H∧OB (freeze H.length H₁ 12 v) fun v'=>Q v' H)→R v H₁)→WS (b Φ (args0 args 0) H) (fun _ _=>False) R) :
  W (Fun.run ⟨m,true,b⟩ Φ args H) Q :=
 run_w hl (W.mono (h _ fun _ _ h=>h) fun p H h=>by
  obtain ⟨f,σ⟩:=p
  cases f with
  | next=>exact h.elim
  | ret v=>exact h)
theorem run_g1 {b:Fns→DS} {Φ:Fns} {a0:AV} (h:∀ (σ:Loc) (R:AV→AH→Prop),σ 0=some a0→(∀ v H₁,(H₁.take H.length=H∧OB (freeze H.length H₁ 12 v) fun v'=>Q v' H)→R v H₁)→WS (b Φ σ H) (fun _ _=>False) R) :
  W (Fun.run ⟨1,true,b⟩ Φ [a0] H) Q:=run_g rfl fun R=>h _ R rfl
theorem run_g2 {b:Fns→DS} {Φ:Fns} {a0 a1:AV} (h:∀ (σ:Loc) (R:AV→AH→Prop),σ 0=some a0→σ 1=some a1→(∀ v H₁,(H₁.take H.length=H∧OB (freeze H.length H₁ 12 v) fun v'=>Q v' H)→R v H₁)→WS (b Φ σ H) (fun _ _=>False) R) :
  W (Fun.run ⟨2,true,b⟩ Φ [a0,a1] H) Q:=run_g rfl fun R=>h _ R rfl rfl
theorem run_g3 {b:Fns→DS} {Φ:Fns} {a0 a1 a2:AV} (h:∀ (σ:Loc) (R:AV→AH→Prop),σ 0=some a0→σ 1=some a1→σ 2=some a2→(∀ v H₁,(H₁.take H.length=H∧OB (freeze H.length H₁ 12 v) fun v'=>Q v' H)→R v H₁)→WS (b Φ σ H) (fun _ _=>False) R) :
  W (Fun.run ⟨3,true,b⟩ Φ [a0,a1,a2] H) Q:=run_g rfl fun R=>h _ R rfl rfl rfl
theorem run_g4 {b:Fns→DS} {Φ:Fns} {a0 a1 a2 a3:AV} (h:∀ (σ:Loc) (R:AV→AH→Prop),σ 0=some a0→σ 1=some a1→σ 2=some a2→σ 3=some a3→(∀ v H₁,(H₁.take H.length=H∧OB (freeze H.length H₁ 12 v) fun v'=>Q v' H)→R v H₁)→WS (b Φ σ H) (fun _ _=>False) R) :
  W (Fun.run ⟨4,true,b⟩ Φ [a0,a1,a2,a3] H) Q:=run_g rfl fun R=>h _ R rfl rfl rfl rfl
variable {P:AV→AH→Prop}
theorem w_notT {k d:DE} (h:W (k σ H) fun x H₁=>W (d σ H₁) fun y H₂=>OB (hasT H₂ x y) fun v=>∃ b,v=.bool b∧Q (.bool (!b)) H₂):W (dNotT k d σ H) Q :=
 W.bind (h.mono fun x H₁ h=>W.bind (h.mono fun y H₂ h=>by
  refine meaea h fun v e b eZ3 q=>?_; subst eZ3
  exact toR_w ⟨_,by rw [e]; rfl,q⟩))
end
end Mine
namespace Mine
open PySem PySem.W PyProof.Rows PySem.Calls PySem.SeqAt
set_option linter.unusedVariables false
noncomputable def clrM:List AV→List AV→Option (List AV)
 | [],l=>if l.length≤1000000 then some [] else none
 | _::_,_=>none
noncomputable def revOp (H:AH) (v:AV) (st:Option Int):Option AV:=if st=some (-1) then (match listOf? H v with
 | some l=>if l.length≤1048576 then some (.lst l.reverse) else none
 | none=>none) else none
noncomputable def dRev (a:DE) (st:Option DE):DE:=fun σ H=>(a σ H).bind fun x H₁=>(evPart st σ H₁).bind fun k H₂=>toR H₂ (revOp H₂ x k)
section
variable {C:Cx} {n:Nat} {S:Sco} {env:Env} {β β':List Addr} {s s':Shared} {σ σ':Loc} {H H':AH} {A:Around} {E:Value→Shared→Prop} {mg mb:Str→Option Value}
theorem SE.meth0 {o:Expr} {name:Str} {apos pos:Pos} {id:String} {d:DE} {f:List AV→List AV→Option (List AV)}
  (slot:Slot "list" name id) (hty:typeOf (.builtin id)=pure (.type "method_descriptor")) (hcall:MethOk C n id f) (ho:SE C n S o d)
  (hbase:∀ env,attributeBase o name env (eval o env)=eval o env)
  (hfew:∀ env,((backTo pos (starEach [] env)).all (fun x=>!x.1)&&(backToKw pos (keywordEach [] env)).all (fun x=>x.1.isSome)&&decide (([]:List Expr).length+([]:List Keyword).length+(if ([]:List Keyword).isEmpty then 0 else 1) < 30))=true)
  (hline:(apos.endLine == pos.line)=true) :
  SE C n S (.Call (.Attribute o name apos) [] [] pos) (dMeth f d []):=by
 refine ⟨fun A env σ H β s Q E P hp=>?_⟩
 refine wpAny_Call_method (hbase env) (hfew env) hline PySem.F.plainAttrs_list slot hty (Pst.then hp (fun _ h'=>ho.go A env σ H β s _ E P h') ?_)
 intro x s₁ v H₁ β₁ _ a₁ vx hp₁
 split at hp₁
 ·rename_i hL
  refine e2a2 (Zcu hL) fun i l eZ2 hl=>?_; subst eZ2
  refine e1a2 vx.inv fun a e0 hb=>?_
  subst e0
  refine e1a2 (a₁.inv.obj i a _ hb hl) fun items qZ1 hv=>?_; refine Exists.elim qZ1 fun m hpl=>?_
  refine ⟨⟨_,hpl,rfl⟩,fun b hb'=>by cases hb'; exact ⟨_,hpl,rfl⟩,?_⟩
  have key:wpAny (model C.prog C.w) A (spliced (backTo pos (starEach [] env))) (fun vs s₂=>wpAny (model C.prog C.w) A (call (.builtin id) ([.ref a]++vs)) Q E s₂) E s₁:=by
   refine Pst.then hp₁ (fun _ h'=>(SEs.nil (C:=C) (n:=n) (S:=S)).go A env σ H₁ β₁ s₁ _ E pos (P.after a₁) h') ?_
   intro ys s₂ us H₂ β₂ _ a₂ vy hp₂
   refine e1a2 (Zcv hp₂) fun H₃ hset hp₃=>?_
   refine e3a4 (Zct hset) fun i' l₂ l₂' e1 hl₂ hf eZ6=>?_; subst eZ6
   cases e1
   refine e1a2 a₂.grow.ext fun ν eZ1 _=>?_; subst eZ1
   have hb₂:(β₁++ν)[i]?=some a:=by rw [List.getElem?_append_left (List.getElem?_eq_some_iff.mp hb).1]; exact hb
   refine e1a2 (a₂.inv.obj i a _ hb₂ hl₂) fun items₂ hpl₂ hv₂=>?_
   exact hcall a₂.inv P.room hpl₂ hv₂ vy hf fun h' items' tk hs hp' hv'=>hp₃ _ _ _ (a₂.inv.setList hb₂ hl₂ hs hp' hv' tk) .none
  exact callWith_builtin rfl (Zfr (pos:=pos) _ _ env _ _ _ _ key)
 ·exact hp₁.elim
theorem Zid:MethOk C n "list.clear" clrM:=by
 intro A β s H a items l l' ys us Q E I R hpl hv vy hf hq
 cases us with
 | cons u us=>injection hf
 | nil =>
  have hf:(if l.length≤1000000 then some [] else none)=some l':=hf
  by_cases hle:l.length≤1000000
  ·rw [if_pos hle] at hf
   obtain rfl:=inj hf
   have hys:=vy.nil_inv
   subst hys
   have hlen:=hv.length
   rw [Array.length_toList] at hlen
   obtain ⟨m,hpl⟩:=hpl
   refine call_meets PySem.F.slot_list_clear ⟨_,hpl,rfl⟩ PySem.F.entry_list_clear (PySem.F.args_list_clear_1 _) (PySem.AutoSeq1.list_clear_list_0 a items m (by rw [hlen]; exact Nat.le_trans hle (by decide))) ⟨hpl,?_⟩
   exact hq _ _ s.toks (Heap.SameBut.update ..) ⟨_,Heap.get?_update_self _ hpl rfl⟩ .nil
  ·rw [if_neg hle] at hf; injection hf
theorem VRs.rev {vs:List Value} {l:List AV} {h:Heap} (hv:VRs C β h vs l):VRs C β h vs.reverse l.reverse:=by
 induction vs generalizing l with
 | nil=>cases hv; exact .nil
 | cons v vs ih =>
  cases l with
  | nil=>cases hv
  | cons a l =>
   rw [List.reverse_cons,List.reverse_cons]
   exact (ih (VRs.uncons hv).2).append (.cons (VRs.uncons hv).1 .nil)
theorem SE.rev {e:Expr} {st:Expr} {p pos:Pos} {a:DE} {k:Option DE} (h:SE C n S e a) (hk:SP C n S (some st) k)
  (hs:∀ o v,subscripted (.Slice none none (some st) p) false o v=operate [o,v] (getItem o v)):SE C n S (.Subscript e (.Slice none none (some st) p) pos) (dRev a k):=by
 refine ⟨fun A env σ H β s Q E P hp=>?_⟩
 refine Subscript_ (Pst.then hp (fun _ h'=>h.go A env σ H β s _ E P h') ?_)
 intro x s₁ v H₁ β₁ _ a₁ vx hp₁
 refine wpAny_Slice (wpAny_pure (wpAny_pure ?_))
 refine Pst.then hp₁ (fun _ h'=>hk.go A env σ H₁ β₁ s₁ _ E (P.after a₁) h') ?_
 intro z s₃ u H₃ β₃ _ a₃ vz hp₃
 refine e1a2 (Zbj hp₃) fun r hr hp₄=>?_
 have a₄:=a₃.inv.push (s:=s₃) { cls:=.type "slice",data:=.fields #[.none,.none,z] } s₃.toks
 have vx:=(vx.mono a₃.grow).mono a₄.grow
 have hp₅:=Pst.shift a₄ hp₄
 have hsl:Heap.IsSliceOf (s₃.heap.push { cls:=.type "slice",data:=.fields #[.none,.none,z] }) s₃.heap.objs.size .none .none z:=Heap.IsSliceOf.new ..
 unfold revOp at hr
 split at hr
 rotate_left
 ·injection hr
 rename_i hu
 subst hu
 split at hr
 ·rename_i l hl
  split at hr
  ·rename_i hlen
   obtain rfl:=inj hr
   refine e2a3 (Za5 a₄.inv vx hl) fun ad items eZ2 hli hv=>?_; subst eZ2
   have hl':=hv.length
   rw [Array.length_toList] at hl'
   refine Zb2 hli.typeIs slot_list_getitem.lookup (wpAny_getItem_list_slice hli hsl .none .none vz (by decide) ?_ (by rw [hl']; exact Nat.le_trans hlen (by decide))) (hs _ _)
   have a₅:=a₄.inv.push (s:={ s₃ with heap:=s₃.heap.push { cls:=.type "slice",data:=.fields #[.none,.none,z] } }) { cls:=.type "list",data:=.seq (slicePick items none none (some (-1))) } s₃.toks
   refine hp₅ _ _ _ a₅ (.lst (items:=slicePick items none none (some (-1))) ⟨_,Heap.get?_push_size _ rfl,rfl,_,rfl⟩ a₄.inv.new_notin ?_)
   have e:(slicePick items none none (some (-1))).toList=items.toList.reverse:=by rw [krv_pick]
   rw [e]
   exact (VRs.rev hv).mono a₅.grow
  ·injection hr
 ·injection hr
end
end Mine
namespace Mine
open PySem PySem.W PyProof.Rows PySem.Calls PySem.SeqAt
set_option linter.unusedVariables false
noncomputable def hasN (H:AH) (k d:AV):Option AV:=match k with
 | .none=>match dictS? H d with
  | some _=>some (.bool false)
  | none=>none
 | k=>hasT H k d
noncomputable def dHasN (k d:DE):DE:=fun σ H=>(k σ H).bind fun x H₁=>(d σ H₁).bind fun y H₂=>toR H₂ (hasN H₂ x y)
theorem Zie (xs:List Int):PyData.canLayAll0 (xs.map .int)=true∧PyData.depthAll (xs.map .int)=0:=by
 induction xs with
 | nil=>exact ⟨rfl,rfl⟩
 | cons x r ih=>exact ⟨by simp [PyData.canLayAll0,PyData.canLay0,ih.1],by simp [PyData.depthAll,PyData.depth,ih.2]⟩
theorem Zif {H:AH} {k:Nat} (xs:List Int):(xs.map AV.int).mapM (data H (k+1))=some (xs.map PyData.int):=by
 induction xs with
 | nil=>rfl
 | cons x r ih=>rw [List.map_cons,List.mapM_cons,ih]; rfl
theorem Zig {H:AH} (k:SK):data H 12 (stAV k)=some (.tuple [.int k.1,.tuple (k.2.map .int)]):=by
 show Option.map PyData.tuple ([AV.int k.1,.tup (k.2.map .int)].mapM (data H 11))=_
 rw [List.mapM_cons,List.mapM_cons]
 show Option.map PyData.tuple ((data H 11 (.int k.1)).bind fun a=>((Option.map PyData.tuple ((k.2.map AV.int).mapM (data H 10))).bind fun b=>some [b]).bind fun r=>some (a::r))=_
 rw [Zif]; rfl
theorem Zih (k:SK):SeqAt.shaped (.tuple [.int k.1,.tuple (k.2.map .int)])=true:=by
 have h:=Zie k.2
 simp [SeqAt.shaped,PyData.canLay0,PyData.canLayAll0,PyData.depth,PyData.depthAll,h.1,h.2]
section
variable {C:Cx} {n:Nat} {S:Sco} {env:Env} {β β':List Addr} {s s':Shared} {σ σ':Loc} {H H':AH} {A:Around} {E:Value→Shared→Prop} {mg mb:Str→Option Value}
theorem Zii {Q:Int→Shared→Prop} (h:∀ tk,Q 0xFCA86420 { s with toks:=tk }):wpAny (model C.prog C.w) A (pyHash .none) Q E s:=by
 have hT:s.TypeIs .none "NoneType":=by first|exact typeIs_none s|rfl
 unfold pyHash pyHashByItsType
 refine wpAny_bind ?_
 rw [cRoomFor,if_neg (by decide)]; refine wpAny_pure ?_
 refine wpAny_bind (wpAny_specialOf hT PySem.F.slot_NoneType_hash.lookup ?_)
 show wpAny _ _ (if (some (Value.builtin "NoneType.__hash__") == some Value.none)=true then _ else _) Q E s
 rw [if_neg (by rw [beq_builtin_none]; exact Bool.false_ne_true)]
 refine wpAny_bind (wpAny_specialOf hT PySem.F.slot_NoneType_hash.lookup ?_)
 show wpAny _ _ (callSpecialIfBoundUnlessNone? .none "__hash__" _ >>= _) Q E s
 refine wpAny_bind (wpAny_callSpecialIfBoundUnlessNone?_slot hT PySem.F.slot_NoneType_hash
  (wpAny_call_entry PySem.F.slot_NoneType_hash hT PySem.F.entry_NoneType_hash
   (show wpAny _ _ (do ret (← mkInt 0xFCA86420)) _ _ s from wpAny_ret_mkInt ?_) (PySem.F.args_NoneType_hash_1 _)))
 show wpAny _ _ (if (decide (-(2:Int) ^ 63≤0xFCA86420)&&decide ((0xFCA86420:Int) < 2 ^ 63))=true then _ else _) Q E _
 rw [if_pos (by decide)]
 exact wpAny_pure (h _)
theorem Zij {d:Addr} {o:Obj} {es:Array DictEntry} {ep:Nat} {h:Int} {Q:Option Nat→Shared→Prop} (ho:s.heap.get? d=some o) (hd:o.data=.dict es ep)
  (hes:∀ e∈es,∃ b,e.key=.ref b∧(∀ Q':Bool→Shared→Prop,Q' true s→wpAny (model C.prog C.w) A (eqIsQuiet 8 (.ref b)) Q' E s)∧∀ Q':Bool→Shared→Prop,Q' false s→wpAny (model C.prog C.w) A (eqBool (.ref b) .none) Q' E s)
  (hQ:Q none s):wpAny (model C.prog C.w) A (dictFind d .none h) Q E s:=by
 have hst:∀ v∈(placesWithHash es.size (fun i=>es[i]?.map (·.hash)) h).filterMap (fun i=>es[i]?.map (·.key)),∃ e∈es,e.key=v:=by
  intro v hv
  refine e1a2 (List.mem_filterMap.mp hv) fun i _ hi=>?_
  cases hei:es[i]? with
  | none=>rw [hei] at hi; injection hi
  | some e =>
   rw [hei] at hi
   exact ⟨e,Array.mem_of_getElem? hei,Option.some.inj hi⟩
 have hin:∀ i∈placesWithHash es.size (fun i=>es[i]?.map (·.hash)) h,∃ e,es[i]?=some e:=by
  intro i hi
  have:=List.mem_range.mp (List.mem_filter.mp hi).1
  exact ⟨es[i],Array.getElem?_eq_getElem this⟩
 unfold dictFind
 try with_reducible refine wpAny_holding ?_
 refine wpAny_bind (wpAny_dictEntries ho hd ?_)
 dsimp only
 generalize hpl:placesWithHash es.size (fun i=>es[i]?.map (·.hash)) h=places at hst hin ⊢
 cases places with
 | nil =>
  rw [if_pos (by rfl)]
  unfold dictWalkPlain
  refine wpAny_bind ?_
  refine wpAny_forIn_list _ (fun rest r s'=>s'=s∧r=(none,())∧rest=[]) _ ?_ ?_ _ _ ⟨rfl,rfl,rfl⟩
  ·intro x rest r s' hZ; refine e0a3 hZ fun _ _ e=>?_; injection e
  ·intro r s' hZ; refine e0a3 hZ fun eZ0 eZ1 _=>?_; subst eZ0; subst eZ1
   exact wpAny_pure hQ
 | cons i rest =>
  refine Exists.elim (hin i List.mem_cons_self) fun e he=>?_
  refine e1a2 (hes e (Array.mem_of_getElem? he)) fun b hb _=>?_
  have hall:¬ ((Value.none::(i::rest).filterMap (fun i=>es[i]?.map (·.key))).all carriedByValue)=true:=by
   simp [he,hb,carriedByValue]
  rw [if_neg hall]
  have hone:¬ (((i::rest).filterMap (fun i=>es[i]?.map (·.key))) == [Value.none])=true:=by
   simp [he,hb]
  rw [if_neg hone]
  have htell:wpAny (model C.prog C.w) A (tableMayTell .none ((i::rest).filterMap (fun i=>es[i]?.map (·.key)))) (fun t s'=>t=false∧s'=s) E s:=by
   unfold tableMayTell
   split
   ·exact wpAny_pure ⟨rfl,rfl⟩
   ·refine wpAny_bind (wpAny_pure ?_)
    simp only [Bool.not_true,Bool.false_eq_true,if_false]
    refine wpAny_bind ?_
    refine wpAny_forIn_list _ (fun rest r s'=>s'=s∧r=(none,())∧∀ v∈rest,∃ e∈es,e.key=v) _ ?_ ?_ _ _ ⟨rfl,rfl,hst⟩
    ·intro x rest r s' hZ; refine e0a3 hZ fun eZ0 eZ1 hr=>?_; subst eZ0; subst eZ1
     refine e1a2 (hr x List.mem_cons_self) fun e' he' eZ2=>?_; subst eZ2
     refine e1a3 (hes e' he') fun b' hb' hq _=>?_
     rw [hb']
     refine wpAny_bind (hq _ ?_)
     simp only [Bool.not_true,Bool.false_eq_true,if_false]
     exact wpAny_pure ⟨rfl,rfl,fun v hv=>hr v (List.mem_cons_of_mem _ hv)⟩
    ·intro r s' hZ; refine e0a3 hZ fun eZ0 eZ1 _=>?_; subst eZ0; subst eZ1
     exact wpAny_pure ⟨rfl,rfl⟩
  refine wpAny_bind (wpAny_mono htell ?_ fun _ _ x=>x)
  rintro t s' ⟨rfl,rfl⟩
  rw [if_neg (by simp)]
  refine wpAny_bind ?_
  refine wpAny_forIn_list _ (fun rest r s''=>s''=s'∧r=(none,none)∧∀ i∈rest,∃ e,es[i]?=some e) _ ?_ ?_ _ _ ⟨rfl,rfl,hin⟩
  ·intro x rest r s'' hZ; refine e0a3 hZ fun eZ0 eZ1 hr=>?_; subst eZ0; subst eZ1
   refine Exists.elim (hr x List.mem_cons_self) fun e' he'=>?_
   refine e1a3 (hes e' (Array.mem_of_getElem? he')) fun b' hb' _ hq=>?_
   rw [he']
   dsimp only
   by_cases hh:(e'.hash == h)=true
   ·rw [if_pos hh,hb']
    refine wpAny_bind (wpAny_dictEpoch ho hd (wpAny_bind (hq _ (wpAny_bind (wpAny_dictEpoch ho hd ?_)))))
    show wpAny _ _ (if (ep != ep)=true then _ else _) _ E _
    rw [if_neg (by simp)]
    simp only [Bool.false_eq_true,if_false]
    refine wpAny_bind (wpAny_rule ?_)
    first|rw [if_neg (by simp)]|skip
    first
     | exact wpAny_pure ⟨rfl,rfl,fun v hv=>hr v (List.mem_cons_of_mem _ hv)⟩
     | exact wpAny_bind (wpAny_pure (wpAny_pure ⟨rfl,rfl,fun v hv=>hr v (List.mem_cons_of_mem _ hv)⟩))
   ·rw [if_neg hh]
    exact wpAny_pure ⟨rfl,rfl,fun v hv=>hr v (List.mem_cons_of_mem _ hv)⟩
  ·intro r s'' hZ; refine e0a3 hZ fun eZ0 eZ1 _=>?_; subst eZ0; subst eZ1
   exact wpAny_pure hQ
theorem Zik (R:Room n A) (I:Inv C β s.heap H) {a:Addr} {k:SK} (v:VR C β s.heap (.ref a) (stAV k)) {Q:Bool→Shared→Prop} (h:Q false s):wpAny (model C.prog C.w) A.in1 (eqBool (.ref a) .none) Q E s:=by
 refine Exists.elim (v.reads I 12 (Zig k)) fun as ra=>?_
 refine Exists.elim ((VR.none:VR C β s.heap .none .none).reads I 12 (x:=.none) rfl) fun bs rb=>?_
 refine eqAt_reads _ _ _ _ _ _ _ _ ra rb (canLay_of_shaped (Zih k)) rfl (room_of_shaped (Zih k) ?_) _ _ _ _ ?_
 ·have:=R.units
  show A.units+1+64 < cLine; omega
 ·exact h
theorem key_at {h:Heap} {xs:List (SK×Addr×Value)} (hk:VRs C β h (xs.map fun x=>.ref x.2.1) (xs.map fun x=>stAV x.1)) {x:SK×Addr×Value} (hx:x∈xs):VR C β h (.ref x.2.1) (stAV x.1):=by
 induction xs with
 | nil=>cases hx
 | cons y xs ih =>
  rcases List.mem_cons.mp hx with e|hx
  ·rw [e]; exact (VRs.uncons hk).1
  ·exact ih (VRs.uncons hk).2 hx
theorem Zil (B:Base C mg mb) (R:Room n A) (I:Inv C β s.heap H) {y:Value} {u:AV} {l:List (SK×AV)} {Q:Value→Shared→Prop} (vy:VR C β s.heap y u) (hd:dictS? H u=some l) (hp:∀ tk,Q (.bool false) { s with toks:=tk }) :
  wpAny (model C.prog C.w) A (compareOp .In .none y) Q E s:=by
 refine e2a4 (Zfh I vy hd) fun ad j eZ2 eZ3 hb hH=>?_; subst eZ2; subst eZ3
 refine e1a4 (Zfi (I.obj j ad _ hb hH)) fun xs hD hk hl hv=>?_
 have hm:=I.notMods B hb
 have hT:=hD.typeIs
 refine e3a6 hD fun o es ep ho hx hdt he his hn=>?_
 show wpAny _ _ (do return .bool (← contains (.ref ad) .none)) Q E s
 refine wpAny_bind ?_
 unfold contains
 try with_reducible refine wpAny_holding ?_
 refine wpAny_bind (wpAny_specialOf hT slot_dict_contains.lookup ?_)
 show wpAny _ _ (if (some (Value.builtin "dict.__contains__") == some Value.none)=true then _ else _) _ E s
 rw [if_neg (by rw [beq_builtin_none]; exact Bool.false_ne_true)]
 refine wpAny_bind (wpAny_callSpecialUnlessNone?_slot (name:=Str.ofString "__contains__") hT slot_dict_contains
  (wpAny_call_entry slot_dict_contains hT entry_dict_contains ?_ (args_dict_contains _ _)))
 show wpAny _ _ (dictGet ad .none >>= _) _ _ s
 refine wpAny_bind ?_
 unfold dictGet
 try with_reducible refine wpAny_holding ?_
 refine wpAny_bind (Zii fun tk=>wpAny_bind (Zij (s:={ s with toks:=tk }) ho hdt ?_ ?_))
 ·intro e hem
  have hem:e∈xs.map (entryOfKey (stKind C.prog C.w)):=he ▸ Array.mem_toList_iff.mpr hem
  refine e1a2 (List.mem_map.mp hem) fun x hx' eZ2=>?_; subst eZ2
  exact ⟨x.2.1,rfl,fun Q' h'=>(stKind C.prog C.w).quiet (his x hx') h',fun Q' h'=>Zik (s:={ s with toks:=tk }) R I (key_at hk hx') h'⟩
 ·refine wpAny_pure ?_
  show wpAny _ _ (Builtin.Dict.pendingKey? ad .none >>= _) _ _ _
  exact wpAny_bind (wpAny_pendingKey_other hm (wpAny_pure ⟨_,rfl,wpAny_truthy_bool (wpAny_pure (hp tk))⟩))
theorem Zim {v u r:AV} (hc:hasN H v u=some r):(v=.none∧(∃ l,dictS? H u=some l)∧r=.bool false)∨(hasT H v u=some r∧∃ b,r=.bool b):=by
 by_cases hv:v=.none
 ·subst hv
  have hc:(match dictS? H u with|some _=>some (.bool false)|none=>none)=some r:=hc
  cases hd:dictS? H u with
  | none=>rw [hd] at hc; injection hc
  | some l =>
   rw [hd] at hc
   obtain rfl:=inj hc
   exact .inl ⟨rfl,⟨l,rfl⟩,rfl⟩
 ·have hc:hasT H v u=some r:=by
   cases v <;> first|exact hc|exact absurd rfl hv
  refine e2a3 (Zfk hc) fun l i _ _ e=>?_
  exact .inr ⟨hc,_,e⟩
theorem Zin (B:Base C mg mb) (R:Room n A) (I:Inv C β s.heap H) {x y:Value} {v u r:AV} {Q:Value→Shared→Prop} (vx:VR C β s.heap x v) (vy:VR C β s.heap y u) (hc:hasN H v u=some r) (hp:Pst C Nix (VR C) β s (.ok r H) Q E) :
  wpAny (model C.prog C.w) A (compareOp .In x y) Q E s:=by
 rcases Zim hc with ⟨rfl,⟨l,hd⟩,rfl⟩|⟨hc,_⟩
 ·have hx:=vx.inv
  subst hx
  exact Zil B R I vy hd fun tk=>hp _ _ _ (I.toks _) (.bool _)
 ·exact Zfm B R I vx vy hc hp
theorem ST.hasN (B:Base C mg mb) {l r:Expr} {pos:Pos} {a b:DE} (hl:SE C n S l a) (hr:SE C n S r b) (hm:behindInMarks .In r=false):ST C n S (.Compare l [.In] [r] pos) (tVal (dHasN a b)):=by
 refine ⟨fun A env σ H β s Q E P hp=>?_⟩
 have hp:=Pst.bind (R:=VR C) hp
 refine wpAny_isTrue_Compare1 (Pst.then hp (fun _ h'=>hl.go A env σ H β s _ E P h') ?_) hm
 intro x s₁ v H₁ β₁ _ a₁ vx hp₁
 refine Pst.then hp₁ (fun _ h'=>hr.go A env σ H₁ β₁ s₁ _ E (P.after a₁) h') ?_
 intro y s₂ u H₂ β₂ _ a₂ vy hp₂
 refine e1a2 (Zbj hp₂) fun c hc hp₃=>?_
 refine Zin (E:=E) B P.room a₂.inv (vx.mono a₂.grow) vy hc ?_
 intro z s' β' af hz
 obtain ⟨b,rfl⟩:∃ b,c=.bool b:=by
  rcases Zim hc with ⟨_,_,e⟩|⟨_,e⟩
  ·exact ⟨_,e⟩
  ·exact e
 cases hz
 exact wpAny_truthy_bool (tv_end (hp₃ _ _ _ af (.bool _)))
end
end Mine
namespace Mine
open PySem PySem.W PyProof.Rows PySem.Calls PySem.SeqAt
set_option linter.unusedVariables false
noncomputable def Zio (h:Heap) (d:Addr) (es:Array DictEntry) (ep:Nat):Prop:=∃ o,h.get? d=some o∧o.ExactDict∧o.data=.dict es ep
theorem Zio.kept {h h':Heap} {d:Addr} {es:Array DictEntry} {ep:Nat} (x:Zio h d es ep) (e:∀ o,h.get? d=some o→h'.get? d=some o):Zio h' d es ep:=let ⟨o,ho,r⟩:=x; ⟨o,e _ ho,r⟩
theorem Zio.typeIs {s:Shared} {d:Addr} {es:Array DictEntry} {ep:Nat} (x:Zio s.heap d es ep):s.TypeIs (.ref d) "dict":=let ⟨o,ho,hx,_⟩:=x; ⟨o,ho,hx.1⟩
section
variable {prog:Program} {w:World} {A:Around} {E:Value→Shared→Prop} {s:Shared}
theorem Zip {d:Addr} {es:Array DictEntry} {ep:Nat} {Q:Value→Shared→Prop} (hd:(d == sysModules)=false) (hm:Zio s.heap d es ep)
  (hQ:Q (.ref s.heap.objs.size) { s with heap:=s.heap.push { cls:=.type "dict_keyiterator",data:=.fields #[.ref d,.int 0 0,.int es.size 0,.int ep 0] } }) :
  wpAny (model prog w) A (pyIter (.ref d)) Q E s:=by
 have hT:=hm.typeIs
 refine e1a3 hm fun o ho hx hdat=>?_
 refine wpAny_pyIter_slot hT F.slot_dict_iter (wpAny_call_entry F.slot_dict_iter hT F.entry_dict_iter ?_ (F.args_dict_iter_1 _))
 unfold Builtin.«dict.__iter__»
 refine wpAny_bind ?_
 unfold Builtin.Dict.dictSlotNone
 refine wpAny_bind (wpAny_notOrdered_dict hT ?_)
 refine wpAny_pure ?_
 show wpAny _ _ (Builtin.Dict.showsAll d >>= _) _ _ s
 unfold Builtin.Dict.showsAll
 rw [if_neg (by rw [hd]; exact Bool.false_ne_true)]
 refine wpAny_bind (wpAny_pure (wpAny_bind (wpAny_dictEntries ho hdat (wpAny_bind (wpAny_dictEpoch ho hdat ?_)))))
 refine wpAny_bind (wpAny_newObj_type (wpAny_pure ⟨_,rfl,"dict_keyiterator",_,⟨_,Heap.get?_push_size _ rfl,rfl⟩,F.slot_dict_keyiterator_next.lookup,?_⟩))
 simpa [rawInt] using hQ
theorem Ziq {it d:Addr} {i ep:Nat} {es:Array DictEntry} {e:DictEntry} {Q:Option Value→Shared→Prop} (hit:s.heap.IsKeyIter it d i es.size ep) (hm:Zio s.heap d es ep) (he:es[i]?=some e)
  (hQ:∀ h',h'.IsKeyIter it d (i+1) es.size ep→Heap.SameBut it s.heap h'→Q (some e.key) { s with heap:=h' }):wpAny (model prog w) A (pyNext (.ref it)) Q E s:=by
 refine e1a3 (id hit) fun o ho hc hd=>?_
 refine e1a3 (id hm) fun od hod hcd hdd=>?_
 unfold pyNext
 refine wpAny_bind (wpAny_attempt (wpAny_callSpecial?_slot (name:=Str.ofString "__next__") hit.typeIs F.slot_dict_keyiterator_next
  (wpAny_call_entry F.slot_dict_keyiterator_next hit.typeIs F.entry_dict_keyiterator_next ?_ (F.args_dict_keyiterator_next_1 _))))
 refine wpAny_bind (wpAny_pure (wpAny_bind (wpAny_bind ?_)))
 first|refine wpAny_bind (wpAny_typeNameOfWhole_keyiter hit.typeIs (wpAny_pure ?_))|refine wpAny_bind (wpAny_typeNameOf_keyiter hit.typeIs (wpAny_pure ?_))
 refine wpAny_bind (wpAny_fieldsOf ho hd ?_)
 have hown:Builtin.Dict_items.ownsTuple "dict_keyiterator"=false:=by decide
 rw [hown]
 show wpAny _ _ (if (Value.ref d == Value.none)=true then _ else _) _ _ s
 rw [if_neg (show ¬ ((Value.ref d == Value.none)=true) from Bool.false_ne_true)]
 refine wpAny_bind (wpAny_pure (wpAny_bind (wpAny_dictEntries hod hdd ?_)))
 rw [if_neg (by simp)]
 refine wpAny_bind (wpAny_pure (wpAny_bind (wpAny_dictEpoch hod hdd ?_)))
 rw [if_neg (by simp)]
 refine wpAny_pure ?_
 simp only [show ¬ ((i:Int) < 0) from Int.not_lt.mpr (Int.natCast_nonneg i),if_false,Int.toNat_natCast,he]
 refine wpAny_bind ?_
 first|refine wpAny_bind (wpAny_typeNameOfWhole_keyiter hit.typeIs (wpAny_pure ?_))|refine wpAny_bind (wpAny_typeNameOf_keyiter hit.typeIs (wpAny_pure ?_))
 refine wpAny_bind (wpAny_isOneOf_keyiter hit.typeIs ?_)
 show wpAny _ _ (setField (.ref it) 1 (rawInt ((i:Int)+1)) >>= _) _ _ s
 refine wpAny_bind (wpAny_setField ho hd (by simp) ?_)
 have hit':(s.heap.update it (Obj.mapFields (·.setIfInBounds 1 (rawInt ((i:Int)+1))))).IsKeyIter it d (i+1) es.size ep :=
  ⟨_,Heap.get?_update_self _ ho (Obj.isFreed_of_fields (Obj.data_mapFields hd _)),(Obj.cls_mapFields ..).trans hc,by rw [Obj.data_mapFields hd]; simp [rawInt]⟩
 refine wpAny_bind (wpAny_holding (wpAny_bind (wpAny_isOneOf_keyiter (s:={ s with heap:=s.heap.update it (Obj.mapFields (·.setIfInBounds 1 (rawInt ((i:Int)+1)))) }) hit'.typeIs ?_)))
 exact wpAny_pure (wpAny_pure ⟨_,rfl,wpAny_pure (hQ _ hit' (Heap.SameBut.update ..))⟩)
theorem Zir {it d:Addr} {i ep:Nat} {es:Array DictEntry} {Q:Option Value→Shared→Prop} (hh:A.handled=none) (hit:s.heap.IsKeyIter it d i es.size ep) (hm:Zio s.heap d es ep) (he:es.size≤i)
  (hQ:∀ h',Heap.ExtBut it s.heap h'→Q none { s with heap:=h' }):wpAny (model prog w) A (pyNext (.ref it)) Q E s:=by
 refine e1a3 (id hit) fun o ho hc hd=>?_
 refine e1a3 (id hm) fun od hod hcd hdd=>?_
 unfold pyNext
 refine wpAny_bind (wpAny_attempt (wpAny_callSpecial?_slot (name:=Str.ofString "__next__") hit.typeIs F.slot_dict_keyiterator_next
  (wpAny_call_entry F.slot_dict_keyiterator_next hit.typeIs F.entry_dict_keyiterator_next ?_ (F.args_dict_keyiterator_next_1 _))))
 refine wpAny_bind (wpAny_pure (wpAny_bind (wpAny_bind ?_)))
 first|refine wpAny_bind (wpAny_typeNameOfWhole_keyiter hit.typeIs (wpAny_pure ?_))|refine wpAny_bind (wpAny_typeNameOf_keyiter hit.typeIs (wpAny_pure ?_))
 refine wpAny_bind (wpAny_fieldsOf ho hd ?_)
 have hown:Builtin.Dict_items.ownsTuple "dict_keyiterator"=false:=by decide
 rw [hown]
 show wpAny _ _ (if (Value.ref d == Value.none)=true then _ else _) _ _ s
 rw [if_neg (show ¬ ((Value.ref d == Value.none)=true) from Bool.false_ne_true)]
 refine wpAny_bind (wpAny_pure (wpAny_bind (wpAny_dictEntries hod hdd ?_)))
 rw [if_neg (by simp)]
 refine wpAny_bind (wpAny_pure (wpAny_bind (wpAny_dictEpoch hod hdd ?_)))
 rw [if_neg (by simp)]
 refine wpAny_pure ?_
 simp only [show ¬ ((i:Int) < 0) from Int.not_lt.mpr (Int.natCast_nonneg i),if_false,Int.toNat_natCast,Array.getElem?_eq_none he]
 refine wpAny_bind ?_
 first|refine wpAny_bind (wpAny_typeNameOfWhole_keyiter hit.typeIs (wpAny_pure ?_))|refine wpAny_bind (wpAny_typeNameOf_keyiter hit.typeIs (wpAny_pure ?_))
 show wpAny _ _ (setField (.ref it) 0 .none >>= _) _ _ s
 refine wpAny_bind (wpAny_setField ho hd (by simp) ?_)
 show wpAny _ _ (newExc (.type "StopIteration") [] >>= _) _ _ _
 refine wpAny_bind ?_
 simp only [newExc,newTuple]
 refine wpAny_bind (wpAny_newObj_type ?_ (by size_fits))
 refine wpAny_bind (m:=firstArgMember _ _) (wpAny_of_eq (a:=Value.none) (by first|rfl|(simp only [firstArgMember]; rfl)) ?_)
 refine wpAny_newObj_type ?_ (by size_fits)
 simp only [raiseNew]
 refine wpAny_bind (wpAny_handled ?_)
 rw [show A.in1.handled=none from hh]
 refine wpAny_bind (wpAny_pure (wpAny_throw ?_))
 refine wpAny_bind (wpAny_isInstance (T:="StopIteration") (b:=true) ⟨_,Heap.get?_push_size _ rfl,rfl⟩ isSubtype_stop ?_)
 exact wpAny_pure (hQ _ (((Heap.SameBut.update ..).extBut.push _).push _))
theorem Zis (hh:A.handled=none) (I d:Addr) (hne:d≠I) (es:Array DictEntry) (ep:Nat) :
  Walks prog w A I [I,d] [I] es.size (fun i v=>∃ e,es[i]?=some e∧v=e.key) (fun i h=>h.IsKeyIter I d i es.size ep∧Zio h d es ep) where
 sub:=fun b hb=>by simp at hb; simp [hb]
 frame:=fun _ _ _ st hk=>⟨st.1.at fun o e=>hk I (by simp) o e,st.2.kept fun o e=>hk d (by simp) o e⟩
 item:=fun i s Q E hi st hQ=>by
  obtain ⟨e,he⟩:∃ e,es[i]?=some e:=⟨es[i],Array.getElem?_eq_getElem hi⟩
  refine Ziq st.1 st.2 he fun h' hit' hs'=>?_
  exact hQ e.key h' s.toks ⟨e,he,rfl⟩ ⟨hit',st.2.kept fun o ho=>hs'.extBut d o hne ho⟩ fun b o hb e=>hs'.extBut b o (fun h=>hb (by simp [h])) e
 done:=fun s Q E st hQ=>Zir hh st.1 st.2 (Nat.le_refl _) fun h' he'=>hQ h' s.toks fun b o hb e=>he' b o (fun h=>hb (by simp [h])) e
 self:=fun _ _ _ _ st hQ=>wpAny_pyIter_keyiter st.1 hQ
theorem Zit {d:Addr} {es:Array DictEntry} {ep:Nat} {Q:Bool→Shared→Prop} (hm:Zio s.heap d es ep) (h:Q false s):wpAny (model prog w) A (Builtin.List.listLengthHint (.ref d)) Q E s:=by
 unfold Builtin.List.listLengthHint
 refine wpAny_bind (wpAny_specialOf hm.typeIs F.slot_dict_len.lookup ?_)
 generalize hid:("dict.__len__":String)=id0
 wp_delta
 rw [show splitId id0=some ("dict","__len__") from by subst hid; decide +kernel]
 subst hid
 refine wpAny_bind (wpAny_isInstance (T:="dict") (b:=true) hm.typeIs isSubtype_dict_dict ?_)
 refine wpAny_ite_split (fun hab=>absurd hab (by decide)) (fun _=>?_)
 refine wpAny_ite_split (fun _=>?_) (fun hab=>absurd (by decide +kernel) hab)
 refine wpAny_bind (wpAny_typeOf hm.typeIs ?_)
 exact wpAny_pure h
theorem Ziu {R:Result→Shared→Prop} {d:Addr} {es:Array DictEntry} {ep:Nat} (hh:A.handled=none) (hsys:(d == sysModules)=false) (hm:Zio s.heap d es ep) (hlen:es.size≤sizeLine) (S:Addr) (res:Value) (c₀:Nat) (hS:s.heap.get? S=some { cls:=.type "list",data:=.seq #[] c₀ })
  (hR:∀ h' tk acc' c',(∀ b o,b≠S→s.heap.get? b=some o→h'.get? b=some o)→h'.get? S=some { cls:=.type "list",dict:=none,data:=.seq acc' c',slots:=#[] } →
   ItemsOf (fun i v=>∃ e,es[i]?=some e∧v=e.key) acc' es.size→R (.ok (.ret res)) { s with heap:=h',toks:=tk }) :
  wpAny (model prog w) A.in1 (Builtin.List.listExtendWith (.ref S) (.ref d) res)
   (fun fin s'=>match fin with|.done f=>R (.ok f) s'|.again c'=>c'.quiet=true∧codeAny (model prog w) A c' R s') (fun e s'=>R (.error e) s') s:=by
 refine e1a3 (id hm) fun o ho hx hd=>?_
 have hSd:S≠d:=fun e=>by rw [e,ho] at hS; injection hS with hS; rw [hS] at hd; injection hd
 have hSI:S≠s.heap.objs.size:=Nat.ne_of_lt (Heap.lt_size hS)
 have hdI:d≠s.heap.objs.size:=Nat.ne_of_lt (Heap.lt_size ho)
 have W:=(Zis (prog:=prog) (w:=w) (A:=A.in1) hh s.heap.objs.size d hdI es ep).toS
 unfold Builtin.List.listExtendWith
 refine wpAny_bind (wpAny_typeOf hm.typeIs ?_)
 have h1:Builtin.List.listSameRef (.ref S) (.ref d)=false:=by simp [Builtin.List.listSameRef,hSd]
 have h2:(Value.type "dict" == Value.type "list")=false:=by decide
 have h3:(Value.type "dict" == Value.type "tuple")=false:=by decide
 simp only [h1,h2,h3,Bool.or_false,Bool.false_eq_true,if_false]
 refine wpAny_bind (Zip hsys hm ?_)
 refine wpAny_bind (wpAny_holding (Zit (hm.kept fun o e=>Heap.get?_push_of_some _ e) ?_))
 have hS₁:=Heap.get?_push_of_some { cls:=.type "dict_keyiterator",data:=.fields #[.ref d,.int 0 0,.int es.size 0,.int ep 0] } hS
 refine wpAny_ite_split (fun _=>?_) (fun hab=>absurd (by decide +kernel) hab)
 refine wpAny_bind (wpAny_rule (wpAny_bind ?_))
 show wpAny _ _ (updateSeq S (·.push .none) >>= fun _=>updateSeq S (·.pop)) _ _ _
 refine wpAny_bind (wpAny_updateSeq hS₁ rfl ?_)
 have hS₂:=Heap.get?_update_self (Obj.mapSeq (·.push Value.none)) hS₁ rfl
 refine wpAny_updateSeq (hz:=by seq_fits) hS₂ rfl ?_
 have hS₃:=Heap.get?_update_self (Obj.mapSeq (·.pop)) hS₂ rfl
 have oth:∀ b o',S≠b→(s.heap.push { cls:=.type "dict_keyiterator",data:=.fields #[.ref d,.int 0 0,.int es.size 0,.int ep 0] }).get? b=some o'→(((s.heap.push { cls:=.type "dict_keyiterator",data:=.fields #[.ref d,.int 0 0,.int es.size 0,.int ep 0] }).update S (Obj.mapSeq (·.push Value.none))).update S (Obj.mapSeq (·.pop))).get? b=some o' :=
  fun b o' hb e=>(Heap.get?_update_other _ _ hb).trans ((Heap.get?_update_other _ _ hb).trans e)
 refine wpAny_pure ⟨plainId_quiet F.plain_extend_loop _,?_⟩
 refine codeAny_extend_loopS W hlen S (by simp [hSI,hSd]) res es.size 0 _ #[] _ rfl (Nat.zero_le _) ⟨⟨_,oth _ _ hSI (Heap.get?_push_size _ rfl),rfl,rfl⟩,hm.kept fun o' e=>oth _ _ hSd (Heap.get?_push_of_some _ e)⟩ hS₃ (ItemsOf.nil _) fun s' acc' c' hmv hS' hacc=>?_
 rw [Moved.eq_with hmv]
 refine hR s'.heap s'.toks acc' c' (fun b o hb e=>hmv.heap b o (fun hmem=>?_) (oth b o (Ne.symm hb) (Heap.get?_push_of_some _ e))) hS' hacc
 rcases List.mem_cons.mp hmem with e'|hmem
 ·exact hb e'
 ·exact absurd (Heap.lt_size e) (by rw [List.mem_singleton.mp hmem]; exact Nat.lt_irrefl _)
theorem Ziv {Q:Value→Shared→Prop} {d:Addr} {es:Array DictEntry} {ep:Nat} (hh:A.handled=none) (hsys:(d == sysModules)=false) (hm:Zio s.heap d es ep) (hlen:es.size≤sizeLine)
  (hQ:∀ h' tk acc' c',(∀ b o,s.heap.get? b=some o→h'.get? b=some o)→h'.get? s.heap.objs.size=some { cls:=.type "list",dict:=none,data:=.seq acc' c',slots:=#[] } →
   ItemsOf (fun i v=>∃ e,es[i]?=some e∧v=e.key) acc' es.size→Q (.ref s.heap.objs.size) { s with heap:=h',toks:=tk }) :
  wpAny (model prog w) A (call (.type "list") [.ref d]) Q E s:=by
 refine callType_codes (Q₁:=fun obj s₁=>obj=.ref s.heap.objs.size∧s₁={ s with heap:=s.heap.push { cls:=.type "list",data:=.seq #[] } }) F.called_list (F.typeCall_list_1 _) F.entry_list_init
  (code_list_new _ ⟨rfl,rfl⟩) fun obj s₁ h₁=>?_
 refine e0a2' h₁ fun eZ0 eZ1=>?_; subst eZ0; subst eZ1
 have hS:(s.heap.push { cls:=.type "list",data:=.seq #[] }).get? s.heap.objs.size=some { cls:=.type "list",data:=.seq #[] }:=Heap.get?_push_size _ rfl
 have hm₁:Zio (s.heap.push { cls:=.type "list",data:=.seq #[] }) d es ep:=hm.kept fun o e=>Heap.get?_push_of_some _ e
 refine ⟨⟨_,hS,rfl⟩,F.args_list_init_2 _ _,?_⟩
 show wpAny _ _ (do let old ← Builtin.List.listItems (.ref s.heap.objs.size); Builtin.List.listUpdate (.ref s.heap.objs.size) (fun _=>#[]); letGo old.toList.reverse; Builtin.List.listExtendWith (.ref s.heap.objs.size) (.ref d) .none) _ _ _
 refine wpAny_bind ?_
 unfold Builtin.List.listItems
 refine wpAny_bind (wpAny_seqItems hS rfl (wpAny_pure ?_))
 show wpAny _ _ (updateSeq s.heap.objs.size (fun _=>#[]) >>= fun _=>letGo (#[]:Array Value).toList.reverse >>= fun _=>Builtin.List.listExtendWith (.ref s.heap.objs.size) (.ref d) .none) _ _ _
 refine wpAny_bind (wpAny_updateSeq hS rfl ?_)
 have hS₂:=Heap.get?_update_self (Obj.mapSeq (fun _=>(#[]:Array Value))) hS rfl
 have hne:∀ b o,s.heap.get? b=some o→s.heap.objs.size≠b:=fun b o e=>Ne.symm (Nat.ne_of_lt (Heap.lt_size e))
 refine wpAny_bind (wpAny_letGo ?_)
 refine e1a2 (id hm) fun o ho _=>?_
 refine Ziu (A:=A.in1) hh hsys (hm₁.kept fun o' e=>(Heap.get?_update_other _ _ (hne d o ho)).trans e) hlen _ .none _ hS₂ fun h' tk acc' c' hk hS' hacc=>?_
 exact ⟨rfl,hQ h' tk acc' c' (fun b o e=>hk b o (Ne.symm (hne b o e)) ((Heap.get?_update_other _ _ (hne b o e)).trans (Heap.get?_push_of_some _ e))) hS' hacc⟩
end
end Mine
namespace Mine
open PySem PySem.W PyProof.Rows PySem.Calls PySem.SeqAt
noncomputable def keysT (H:AH) (v:AV):Option AV:=match dictS? H v with
 | some l=>if l.length≤1048576 then some (.lst (l.map fun p=>stAV p.1)) else none
 | none=>none
noncomputable def dKeysT (d:DE):DE:=fun σ H=>(d σ H).bind fun x H₁=>toR H₁ (keysT H₁ x)
section
variable {C:Cx} {n:Nat} {S:Sco} {env:Env} {β β':List Addr} {s s':Shared} {σ σ':Loc} {H H':AH} {A:Around} {E:Value→Shared→Prop} {mg mb:Str→Option Value}
theorem Ziw {h:Heap} {xs:List (SK×Addr×Value)} {es:Array DictEntry} {acc:Array Value} (he:es.toList=xs.map (entryOfKey (stKind C.prog C.w))) (hk:VRs C β h (xs.map fun x=>.ref x.2.1) (xs.map fun x=>stAV x.1)) (ha:ItemsOf (fun i v=>∃ e,es[i]?=some e∧v=e.key) acc es.size):acc.toList=xs.map fun x=>Value.ref x.2.1:=by
 refine List.ext_getElem? fun i=>?_
 rw [List.getElem?_map]
 have hsz:es.size=xs.length:=by have:=congrArg List.length he; simpa using this
 have hei:es[i]?=(xs[i]?).map (entryOfKey (stKind C.prog C.w)):=by rw [← Array.getElem?_toList,he,List.getElem?_map]
 rw [Array.getElem?_toList]
 cases hv:acc[i]? with
 | some v =>
  refine e1a2 (ha.2 i v hv) fun e h1 h2=>?_
  rw [hei] at h1
  cases hx:xs[i]? with
  | none=>rw [hx] at h1; injection h1
  | some x=>rw [hx] at h1; rw [h2,← Option.some.inj h1]; rfl
 | none =>
  have hge:acc.size≤i:=Array.getElem?_eq_none_iff.mp hv
  rw [ha.1,hsz] at hge
  rw [List.getElem?_eq_none hge]; rfl
theorem Zix (B:Base C mg mb) (I:Inv C β s.heap H) (hh:A.handled=none) {x:Value} {v r:AV} {Q:Value→Shared→Prop} (vx:VR C β s.heap x v) (h:keysT H v=some r) (hp:Pst C Nix (VR C) β s (.ok r H) Q E):wpAny (model C.prog C.w) A (call (.type "list") [x]) Q E s:=by
 unfold keysT at h
 split at h
 ·rename_i l hl
  split at h
  ·rename_i hn
   obtain rfl:=inj h
   refine e2a4 (Zfh I vx hl) fun ad j eZ2 eZ3 hb hH=>?_; subst eZ2; subst eZ3
   obtain ⟨xs,o,es,ep,ho,hx,hd,he,hk,hkl,hv,_⟩:=I.obj j ad _ hb hH
   have hsz:es.size=l.length:=by
    have h1:=congrArg List.length he
    have h2:=congrArg List.length hkl
    simp at h1 h2
    omega
   refine Ziv hh (I.notMods B hb) ⟨o,ho,hx,hd⟩ (by rw [hsz]; exact Nat.le_trans hn (by decide)) fun h' tk acc' c' hkeep hnew hacc=>?_
   have af:=I.keeps tk hkeep
   refine hp _ _ _ af (.lst (items:=acc') ⟨_,hnew,rfl,_,rfl⟩ I.new_notin ?_)
   rw [Ziw he hk hacc]
   have e:(l.map fun p=>stAV p.1)=xs.map fun x=>stAV x.1:=by
    have:=congrArg (List.map stAV) hkl
    rw [List.map_map,List.map_map] at this
    exact this.symm
   rw [e]
   exact hk.mono af.grow
  ·injection h
 ·injection h
theorem SE.keysT (B:Base C mg mb) {func e:Expr} {pos:Pos} {d:DE} (hf:SE C n S func (dCst (.bi .list))) (he:SE C n S e d)
  (hc:∀ env,eval (.Call func [e] [] pos) env=(do callWith pos (← eval func env) [] (backTo pos (starEach [e] env)) (backToKw pos (keywordEach [] env))))
  (hstar:∀ env,starEach [e] env=(false,eval e env)::starEach [] env)
  (hplain:∀ env,(backTo pos (starEach [e] env)).any (·.1)=false) (hS:S.calm=true) :
  SE C n S (.Call func [e] [] pos) (dKeysT d):=by
 refine ⟨fun A env σ H β s Q E P hp=>?_⟩
 refine Call_ (wpAny_mono (hf.go A env σ H β s (fun x s₁=>∃ β₁,After C Nix β s β₁ s₁ H∧VR C β₁ s₁.heap x (.bi .list)) E P (fun x s' β' a hx=>⟨β',a,hx⟩)) ?_ fun _ _ e=>e) (hc env)
 intro x s₁ hZ; refine e1a2 hZ fun β₁ a₁ vx=>?_
 have e':=VR.inv vx
 subst e'
 have hp₁:=Pst.shift a₁ hp
 have hany:=hplain env
 have key:wpAny (model C.prog C.w) A (spliced (backTo pos (starEach [e] env))) (fun ys s₂=>wpAny (model C.prog C.w) A (call (.type "list") ys) Q E s₂) E s₁:=by
  refine wpAny_items_cons (Pst.then hp₁ (fun _ h'=>he.go A env σ H β₁ s₁ _ E (P.after a₁) h') ?_) (hstar env)
  intro y s₂ v H₂ β₂ _ a₂ vy hp₂
  refine e1a2 (Zbj hp₂) fun r hr hp₃=>?_
  exact wpAny_items_nil (Zix B a₂.inv (P.calm hS) vy hr hp₃)
 rw [hstar env] at key hany ⊢
 exact PyProof.Rows.callWith_type hany (evalArgs_plain key)
end
end Mine
namespace Mine
open PySem PySem.W PyProof.Rows PySem.Calls PySem.SeqAt
set_option linter.unusedVariables false
section
variable {prog:Program} {w:World} {A:Around} {E:Value→Shared→Prop} {s:Shared}
theorem Ziy {v d:Addr} {es:Array DictEntry} {ep:Nat} {Q:Value→Shared→Prop} (hv:s.heap.IsValuesView v d) (hm:Zio s.heap d es ep)
  (hQ:Q (.ref s.heap.objs.size) { s with heap:=s.heap.push { cls:=.type "dict_valueiterator",data:=.fields #[.ref d,.int 0 0,.int es.size 0,.int ep 0] } }) :
  wpAny (model prog w) A (pyIter (.ref v)) Q E s:=by
 refine e1a3 (id hv) fun ov hov hcv hdv=>?_
 refine e1a3 hm fun o ho hx hdat=>?_
 refine wpAny_pyIter_slot hv.typeIs F.slot_dict_values_iter (wpAny_call_entry F.slot_dict_values_iter hv.typeIs F.entry_dict_values_iter ?_ (F.args_dict_values_iter_1 _))
 unfold Builtin.«dict_values.__iter__»
 refine wpAny_bind (wpAny_pure (wpAny_bind ?_))
 unfold Builtin.Dict_items.dictOf
 refine wpAny_bind (wpAny_field hov hdv (x:=.ref d) rfl (wpAny_pure (wpAny_bind ?_)))
 unfold Builtin.Dict_items.newIterator
 refine wpAny_bind (wpAny_dictEntries ho hdat (wpAny_bind (wpAny_dictEpoch ho hdat ?_)))
 have hown:Builtin.Dict_items.ownsTuple "dict_valueiterator"=false:=by decide
 simp only [hown,Bool.false_eq_true,if_false]
 refine wpAny_newObj_type (wpAny_pure ⟨_,rfl,"dict_valueiterator",_,⟨_,Heap.get?_push_size _ rfl,rfl⟩,F.slot_dict_valueiterator_next.lookup,?_⟩)
 simpa [rawInt] using hQ
theorem Ziz {it d:Addr} {i ep:Nat} {es:Array DictEntry} {e:DictEntry} {Q:Option Value→Shared→Prop} (hit:s.heap.IsValIter it d i es.size ep) (hm:Zio s.heap d es ep) (he:es[i]?=some e)
  (hQ:∀ h',h'.IsValIter it d (i+1) es.size ep→Heap.SameBut it s.heap h'→Q (some e.val) { s with heap:=h' }):wpAny (model prog w) A (pyNext (.ref it)) Q E s:=by
 refine e1a3 (id hit) fun o ho hc hd=>?_
 refine e1a3 (id hm) fun od hod hcd hdd=>?_
 unfold pyNext
 refine wpAny_bind (wpAny_attempt (wpAny_callSpecial?_slot (name:=Str.ofString "__next__") hit.typeIs F.slot_dict_valueiterator_next
  (wpAny_call_entry F.slot_dict_valueiterator_next hit.typeIs F.entry_dict_valueiterator_next ?_ (F.args_dict_valueiterator_next_1 _))))
 refine wpAny_bind (wpAny_pure (wpAny_bind (wpAny_bind ?_)))
 first|refine wpAny_bind (wpAny_typeNameOfWhole_valiter hit.typeIs (wpAny_pure ?_))|refine wpAny_bind (wpAny_typeNameOf_valiter hit.typeIs (wpAny_pure ?_))
 refine wpAny_bind (wpAny_fieldsOf ho hd ?_)
 have hown:Builtin.Dict_items.ownsTuple "dict_valueiterator"=false:=by decide
 rw [hown]
 show wpAny _ _ (if (Value.ref d == Value.none)=true then _ else _) _ _ s
 rw [if_neg (show ¬ ((Value.ref d == Value.none)=true) from Bool.false_ne_true)]
 refine wpAny_bind (wpAny_pure (wpAny_bind (wpAny_dictEntries hod hdd ?_)))
 rw [if_neg (by simp)]
 refine wpAny_bind (wpAny_pure (wpAny_bind (wpAny_dictEpoch hod hdd ?_)))
 rw [if_neg (by simp)]
 refine wpAny_pure ?_
 simp only [show ¬ ((i:Int) < 0) from Int.not_lt.mpr (Int.natCast_nonneg i),if_false,Int.toNat_natCast,he]
 refine wpAny_bind ?_
 first|refine wpAny_bind (wpAny_typeNameOfWhole_valiter hit.typeIs (wpAny_pure ?_))|refine wpAny_bind (wpAny_typeNameOf_valiter hit.typeIs (wpAny_pure ?_))
 refine wpAny_bind (wpAny_isOneOf_valiter hit.typeIs ?_)
 show wpAny _ _ (setField (.ref it) 1 (rawInt ((i:Int)+1)) >>= _) _ _ s
 refine wpAny_bind (wpAny_setField ho hd (by simp) ?_)
 have hit':(s.heap.update it (Obj.mapFields (·.setIfInBounds 1 (rawInt ((i:Int)+1))))).IsValIter it d (i+1) es.size ep :=
  ⟨_,Heap.get?_update_self _ ho (Obj.isFreed_of_fields (Obj.data_mapFields hd _)),(Obj.cls_mapFields ..).trans hc,by rw [Obj.data_mapFields hd]; simp [rawInt]⟩
 refine wpAny_bind (wpAny_holding (wpAny_bind (wpAny_isOneOf_valiter (s:={ s with heap:=s.heap.update it (Obj.mapFields (·.setIfInBounds 1 (rawInt ((i:Int)+1)))) }) hit'.typeIs ?_)))
 refine wpAny_bind (wpAny_isOneOf_valiter (s:={ s with heap:=s.heap.update it (Obj.mapFields (·.setIfInBounds 1 (rawInt ((i:Int)+1)))) }) hit'.typeIs ?_)
 exact wpAny_pure (wpAny_pure ⟨_,rfl,wpAny_pure (hQ _ hit' (Heap.SameBut.update ..))⟩)
theorem Zi0 {it d:Addr} {i ep:Nat} {es:Array DictEntry} {Q:Option Value→Shared→Prop} (hh:A.handled=none) (hit:s.heap.IsValIter it d i es.size ep) (hm:Zio s.heap d es ep) (he:es.size≤i)
  (hQ:∀ h',Heap.ExtBut it s.heap h'→Q none { s with heap:=h' }):wpAny (model prog w) A (pyNext (.ref it)) Q E s:=by
 refine e1a3 (id hit) fun o ho hc hd=>?_
 refine e1a3 (id hm) fun od hod hcd hdd=>?_
 unfold pyNext
 refine wpAny_bind (wpAny_attempt (wpAny_callSpecial?_slot (name:=Str.ofString "__next__") hit.typeIs F.slot_dict_valueiterator_next
  (wpAny_call_entry F.slot_dict_valueiterator_next hit.typeIs F.entry_dict_valueiterator_next ?_ (F.args_dict_valueiterator_next_1 _))))
 refine wpAny_bind (wpAny_pure (wpAny_bind (wpAny_bind ?_)))
 first|refine wpAny_bind (wpAny_typeNameOfWhole_valiter hit.typeIs (wpAny_pure ?_))|refine wpAny_bind (wpAny_typeNameOf_valiter hit.typeIs (wpAny_pure ?_))
 refine wpAny_bind (wpAny_fieldsOf ho hd ?_)
 have hown:Builtin.Dict_items.ownsTuple "dict_valueiterator"=false:=by decide
 rw [hown]
 show wpAny _ _ (if (Value.ref d == Value.none)=true then _ else _) _ _ s
 rw [if_neg (show ¬ ((Value.ref d == Value.none)=true) from Bool.false_ne_true)]
 refine wpAny_bind (wpAny_pure (wpAny_bind (wpAny_dictEntries hod hdd ?_)))
 rw [if_neg (by simp)]
 refine wpAny_bind (wpAny_pure (wpAny_bind (wpAny_dictEpoch hod hdd ?_)))
 rw [if_neg (by simp)]
 refine wpAny_pure ?_
 simp only [show ¬ ((i:Int) < 0) from Int.not_lt.mpr (Int.natCast_nonneg i),if_false,Int.toNat_natCast,Array.getElem?_eq_none he]
 refine wpAny_bind ?_
 first|refine wpAny_bind (wpAny_typeNameOfWhole_valiter hit.typeIs (wpAny_pure ?_))|refine wpAny_bind (wpAny_typeNameOf_valiter hit.typeIs (wpAny_pure ?_))
 show wpAny _ _ (setField (.ref it) 0 .none >>= _) _ _ s
 refine wpAny_bind (wpAny_setField ho hd (by simp) ?_)
 show wpAny _ _ (newExc (.type "StopIteration") [] >>= _) _ _ _
 refine wpAny_bind ?_
 simp only [newExc,newTuple]
 refine wpAny_bind (wpAny_newObj_type ?_ (by size_fits))
 refine wpAny_bind (m:=firstArgMember _ _) (wpAny_of_eq (a:=Value.none) (by first|rfl|(simp only [firstArgMember]; rfl)) ?_)
 refine wpAny_newObj_type ?_ (by size_fits)
 simp only [raiseNew]
 refine wpAny_bind (wpAny_handled ?_)
 rw [show A.in1.handled=none from hh]
 refine wpAny_bind (wpAny_pure (wpAny_throw ?_))
 refine wpAny_bind (wpAny_isInstance (T:="StopIteration") (b:=true) ⟨_,Heap.get?_push_size _ rfl,rfl⟩ isSubtype_stop ?_)
 exact wpAny_pure (hQ _ (((Heap.SameBut.update ..).extBut.push _).push _))
theorem Zi1 (hh:A.handled=none) (I d:Addr) (hne:d≠I) (es:Array DictEntry) (ep:Nat) :
  Walks prog w A I [I,d] [I] es.size (fun i v=>∃ e,es[i]?=some e∧v=e.val) (fun i h=>h.IsValIter I d i es.size ep∧Zio h d es ep) where
 sub:=fun b hb=>by simp at hb; simp [hb]
 frame:=fun _ _ _ st hk=>⟨st.1.at fun o e=>hk I (by simp) o e,st.2.kept fun o e=>hk d (by simp) o e⟩
 item:=fun i s Q E hi st hQ=>by
  obtain ⟨e,he⟩:∃ e,es[i]?=some e:=⟨es[i],Array.getElem?_eq_getElem hi⟩
  refine Ziz st.1 st.2 he fun h' hit' hs'=>?_
  exact hQ e.val h' s.toks ⟨e,he,rfl⟩ ⟨hit',st.2.kept fun o ho=>hs'.extBut d o hne ho⟩ fun b o hb e=>hs'.extBut b o (fun h=>hb (by simp [h])) e
 done:=fun s Q E st hQ=>Zi0 hh st.1 st.2 (Nat.le_refl _) fun h' he'=>hQ h' s.toks fun b o hb e=>he' b o (fun h=>hb (by simp [h])) e
 self:=fun _ _ _ _ st hQ=>wpAny_pyIter_valiter st.1 hQ
theorem Zi2:plainId "proto.contains_iter"=true:=by decide +kernel
theorem Zi3:entryFor table "proto.contains_iter"=some Builtin.«proto.contains_iter»:=entryFor_of_fast (by kernel_rfl)
theorem Zi4 {I:Addr} {fp:List Addr} {n:Nat} {P:Nat→Value→Prop} {St:Nat→Heap→Prop} {R:Result→Shared→Prop} (W:Walks prog w A.in1 I fp [I] n P St) {a:Str} {ta:Tok} {bs:Nat→Bool}
  (hP:∀ i v,P i v→∃ b t,v=.str b t∧bs i=decide (b=a)):∀ (k i:Nat) (s:Shared),n - i=k→i≤n→St i s.heap →
  (∀ h' tk c,(c=true ↔ ∃ j,i≤j∧j < n∧bs j=true)→(∀ b o,b≠I→s.heap.get? b=some o→h'.get? b=some o)→R (.ok (.ret (.bool c))) { s with heap:=h',toks:=tk }) →
  codeAny (model prog w) A (.builtin "proto.contains_iter" ⟨[.ref I,.str a ta],[]⟩) R s:=by
 intro k
 induction k with
 | zero =>
  intro i s hk hi hst hR
  have hin:i=n:=by omega
  subst hin
  refine codeAny_builtin Zi3 ?_
  rw [Around.under_plainId Zi2 _]
  show wpAny _ A.in1 (pyNext (.ref I) >>= _) _ _ s
  refine wpAny_bind (W.done s _ _ hst fun h' tk hm=>?_)
  refine wpAny_bind (wpAny_rule (wpAny_pure ?_))
  exact hR h' tk false ⟨fun h=>(nomatch h),fun ⟨j,h1,h2,_⟩=>absurd h2 (Nat.not_lt.mpr h1)⟩ fun b o hb e=>hm b o (fun h=>hb (List.mem_singleton.mp h)) e
 | succ k ih =>
  intro i s hk hi hst hR
  have hlt:i < n:=by omega
  refine codeAny_builtin Zi3 ?_
  rw [Around.under_plainId Zi2 _]
  show wpAny _ A.in1 (pyNext (.ref I) >>= _) _ _ s
  refine wpAny_bind (W.item i s _ _ hlt hst fun v h' tk hPv hst' hm=>?_)
  refine e2a2 (hP i v hPv) fun b t eZ2 hb=>?_; subst eZ2
  refine wpAny_bind ((PySem.strKind prog w).eqBool (a:=b) (b:=a) (by simp [PySem.strKind,Value.isStrOf,Value.isStr]) (by simp [PySem.strKind,Value.isStrOf,Value.isStr]) ?_)
  have keep:∀ b o,b≠I→s.heap.get? b=some o→h'.get? b=some o:=fun b o hb e=>hm b o (fun h=>hb (List.mem_singleton.mp h)) e
  by_cases hba:b=a
  ·rw [decide_eq_true hba,if_pos rfl]
   refine wpAny_bind (wpAny_rule (wpAny_pure ?_))
   exact hR h' tk true ⟨fun _=>⟨i,Nat.le_refl _,hlt,by rw [hb]; exact decide_eq_true hba⟩,fun _=>rfl⟩ keep
  ·rw [decide_eq_false hba,if_neg Bool.false_ne_true]
   refine wpAny_pure ⟨plainId_quiet Zi2 _,ih (i+1) _ (by omega) hlt hst' fun h'' tk'' c hc hk''=>?_⟩
   refine hR h'' tk'' c (hc.trans ⟨fun ⟨j,h1,h2,h3⟩=>⟨j,Nat.le_of_succ_le h1,h2,h3⟩,fun ⟨j,h1,h2,h3⟩=>⟨j,?_,h2,h3⟩⟩) fun b o hb' e=>hk'' b o hb' (keep b o hb' e)
   rcases Nat.lt_or_ge i j with h|h
   ·exact h
   ·have:j=i:=Nat.le_antisymm h h1
    rw [this,hb,decide_eq_false hba] at h3
    injection h3
end
end Mine
namespace Mine
open PySem PySem.W PyProof.Rows PySem.Calls PySem.SeqAt
section
variable {prog:Program} {w:World} {A:Around} {E:Value→Shared→Prop} {s:Shared}
theorem Zi5:typeLookup (.type "dict_values") "__contains__"=pure none:=by rw [typeLookup_type,builtinLookup_eq_fast]; kernel_rfl
theorem Zi6 {v d:Addr} {es:Array DictEntry} {ep:Nat} {a:Str} {ta:Tok} {bs:Nat→Bool} {Q:Bool→Shared→Prop} (hh:A.handled=none) (hv:s.heap.IsValuesView v d) (hm:Zio s.heap d es ep)
  (hP:∀ i e,es[i]?=some e→∃ b t,e.val=.str b t∧bs i=decide (b=a))
  (hQ:∀ h' tk c,(c=true ↔ ∃ j,j < es.size∧bs j=true)→(∀ b o,s.heap.get? b=some o→h'.get? b=some o)→Q c { s with heap:=h',toks:=tk }) :
  wpAny (model prog w) A (contains (.ref v) (.str a ta)) Q E s:=by
 unfold contains
 try with_reducible refine wpAny_holding ?_
 refine wpAny_bind (wpAny_specialOf hv.typeIs Zi5 ?_)
 show wpAny _ _ (if ((none:Option Value) == some Value.none)=true then _ else _) _ E s
 rw [if_neg (by decide)]
 refine wpAny_bind (wpAny_callSpecialUnlessNone?_none (name:=Str.ofString "__contains__") hv.typeIs Zi5 ?_)
 refine wpAny_bind (wpAny_rule ?_)
 refine wpAny_bind (wpAny_tryCatch (Ziy hv hm ?_))
 have hdI:d≠s.heap.objs.size:=by
  refine e1a2 hm fun o ho _=>?_
  exact Nat.ne_of_lt (Heap.lt_size ho)
 refine wpAny_bind (wpAny_runValue (Zi4 (Zi1 (A:=A.in1) hh s.heap.objs.size d hdI es ep) (bs:=bs) ?_ es.size 0 _ rfl (Nat.zero_le _) ⟨⟨_,Heap.get?_push_size _ rfl,rfl,rfl⟩,hm.kept fun o e=>Heap.get?_push_of_some _ e⟩ ?_))
 ·intro i v hZ; refine e1a2 hZ fun e he eZ2=>?_; subst eZ2
  exact hP i e he
 ·intro h' tk c hc hk
  refine wpAny_pure (hQ h' tk c (hc.trans ⟨fun ⟨j,_,h2,h3⟩=>⟨j,h2,h3⟩,fun ⟨j,h2,h3⟩=>⟨j,Nat.zero_le _,h2,h3⟩⟩) fun b o e=>hk b o (Nat.ne_of_lt (Heap.lt_size e)) (Heap.get?_push_of_some _ e))
end
end Mine
namespace Mine
open PySem PySem.W PyProof.Rows PySem.Calls PySem.SeqAt
section
variable {prog:Program} {w:World} {A:Around} {E:Value→Shared→Prop} {s:Shared}
theorem Zi7 {d:Addr} {es:Array DictEntry} {ep:Nat} {Q:Value→Shared→Prop} (hsys:(d == sysModules)=false) (hm:Zio s.heap d es ep)
  (hQ:Q (.ref s.heap.objs.size) { s with heap:=s.heap.push { cls:=.type "dict_values",data:=.fields #[.ref d] } }):wpAny (model prog w) A (call (.builtin "dict.values") [.ref d]) Q E s:=by
 refine wpAny_call_entry F.slot_dict_values hm.typeIs F.entry_dict_values ?_ (F.args_dict_values_1 _)
 unfold Builtin.«dict.values»
 refine wpAny_bind ?_
 unfold Builtin.Dict.noArgs
 refine wpAny_bind (wpAny_notOrdered_dict hm.typeIs ?_)
 refine wpAny_pure ?_
 show wpAny _ _ (Builtin.Dict.showsAll d >>= _) _ _ s
 unfold Builtin.Dict.showsAll
 rw [if_neg (by rw [hsys]; exact Bool.false_ne_true)]
 refine wpAny_bind (wpAny_pure ?_)
 exact wpAny_bind (wpAny_newObj_type (wpAny_pure ⟨_,rfl,hQ⟩))
end
noncomputable def strOf?:AV→Option Str
 | .str a=>some a
 | _=>none
noncomputable def Zi8 (H:AH) (x d:AV):Option Bool:=match strOf? x,dictS? H d with
 | some a,some l=>(l.mapM fun p=>strOf? p.2).map fun ss=>ss.any fun b=>decide (b=a)
 | _,_=>none
noncomputable def dNotV (a d:DE):DE:=fun σ H=>(a σ H).bind fun x H₁=>(d σ H₁).bind fun y H₂=>toR H₂ ((Zi8 H₂ x y).map fun c=>.bool (!c))
section
variable {C:Cx} {n:Nat} {S:Sco} {env:Env} {β β':List Addr} {s s':Shared} {σ σ':Loc} {H H':AH} {A:Around} {E:Value→Shared→Prop} {mg mb:Str→Option Value}
theorem Zi9 {v:AV} {a:Str} (h:strOf? v=some a):v=.str a:=by
 cases v <;> first|(injection h; done)|(rw [inj h])|injection h
theorem Zja {h:Heap}:∀ {xs:List (SK×Addr×Value)} {l:List (SK×AV)} {ss:List Str},VRs C β h (xs.map fun x=>x.2.2) (l.map (·.2))→(l.mapM fun p=>strOf? p.2)=some ss→∀ (i:Nat) (x:SK×Addr×Value),xs[i]?=some x→∃ b t,x.2.2=.str b t∧ss[i]?=some b:=by
 intro xs
 induction xs with
 | nil=>intro l ss _ _ i x hx; simp at hx
 | cons y xs ih =>
  intro l ss hv hs i x hx
  cases l with
  | nil=>cases hv
  | cons p l =>
   rw [List.mapM_cons] at hs
   cases hp:strOf? p.2 with
   | none=>rw [hp] at hs; injection hs
   | some b =>
    rw [hp] at hs
    cases hr:(l.mapM fun p=>strOf? p.2) with
    | none=>rw [hr] at hs; injection hs
    | some r =>
     rw [hr] at hs
     have hs:some (b::r)=some ss:=hs
     obtain rfl:=inj hs
     refine e0a2' (VRs.uncons hv) fun h1 h2=>?_
     cases i with
     | zero =>
      have hx:some y=some x:=hx
      obtain rfl:=inj hx
      have h1:VR C β h y.2.2 p.2:=h1
      rw [Zi9 hp] at h1
      refine Exists.elim h1.inv fun t e=>?_
      exact ⟨b,t,e,rfl⟩
     | succ i=>exact ih h2 hr i x hx
theorem Zjb {x d:AV} {c:Bool} (h:Zi8 H x d=some c):∃ a l ss,x=.str a∧dictS? H d=some l∧(l.mapM fun p=>strOf? p.2)=some ss∧c=ss.any fun b=>decide (b=a):=by
 unfold Zi8 at h
 cases hx:strOf? x with
 | none=>rw [hx] at h; injection h
 | some a =>
  cases hd:dictS? H d with
  | none=>rw [hx,hd] at h; injection h
  | some l =>
   rw [hx,hd] at h
   have h:((l.mapM fun p=>strOf? p.2).map fun ss=>ss.any fun b=>decide (b=a))=some c:=h
   cases hm:(l.mapM fun p=>strOf? p.2) with
   | none=>rw [hm] at h; injection h
   | some ss =>
    rw [hm] at h
    exact ⟨a,l,ss,Zi9 hx,rfl,hm,(inj h).symm⟩
theorem SE.notV (B:Base C mg mb) {l o:Expr} {ap cp pos:Pos} {a b:DE} (hl:SE C n S l a) (ho:SE C n S o b) (hS:S.calm=true) (hm:behindInMarks .NotIn (.Call (.Attribute o "values" ap) [] [] cp)=false)
  (hbase:∀ env,attributeBase o "values" env (eval o env)=eval o env)
  (hfew:∀ env,((backTo cp (starEach [] env)).all (fun x=>!x.1)&&(backToKw cp (keywordEach [] env)).all (fun x=>x.1.isSome)&&decide (([]:List Expr).length+([]:List Keyword).length+(if ([]:List Keyword).isEmpty then 0 else 1) < 30))=true)
  (hline:(ap.endLine == cp.line)=true):SE C n S (.Compare l [.NotIn] [.Call (.Attribute o "values" ap) [] [] cp] pos) (dNotV a b):=by
 refine ⟨fun A env σ H β s Q E P hp=>?_⟩
 refine wpAny_Compare1 (Pst.then hp (fun _ h'=>hl.go A env σ H β s _ E P h') ?_) hm
 intro x s₁ v H₁ β₁ _ a₁ vx hp₁
 refine wpAny_Call_method (hbase env) (hfew env) hline PySem.F.plainAttrs_dict PySem.F.slot_dict_values PySem.F.type_dict_values (Pst.then hp₁ (fun _ h'=>ho.go A env σ H₁ β₁ s₁ _ E (P.after a₁) h') ?_)
 intro y s₂ u H₂ β₂ _ a₂ vy hp₂
 refine e1a2 (Zbj hp₂) fun r hr hp₃=>?_
 obtain ⟨c,hc,hrc⟩:∃ c,Zi8 H₂ v u=some c∧AV.bool (!c)=r:=by
  cases q:Zi8 H₂ v u with
  | none=>rw [q] at hr; injection hr
  | some c=>rw [q] at hr; exact ⟨c,rfl,inj hr⟩
 subst hrc
 refine e3a4 (Zjb hc) fun aw l ss eZ3 hd hms eZ6=>?_; subst eZ3; subst eZ6
 refine e2a4 (Zfh a₂.inv vy hd) fun ad j eZ2 eZ3 hb hH=>?_; subst eZ2; subst eZ3
 obtain ⟨xs,od,es,ep,hod,hx,hdt,he,hk,hkl,hv,_⟩:=a₂.inv.obj j ad _ hb hH
 have hraw:Zio s₂.heap ad es ep:=⟨od,hod,hx,hdt⟩
 have hsys:=a₂.inv.notMods B hb
 have hsz:es.size=xs.length:=by have:=congrArg List.length he; simpa using this
 have hei:∀ i,es[i]?=(xs[i]?).map fun x:SK×Addr×Value=>({ hash:=stHash x.1,key:=.ref x.2.1,val:=x.2.2 }:DictEntry):=fun i=>by rw [← Array.getElem?_toList,he,List.getElem?_map]
 obtain ⟨t,rfl⟩:∃ t,x=.str aw t:=(vx.mono a₂.grow).inv
 refine ⟨hraw.typeIs,fun b hb'=>by cases hb'; exact ⟨od,hod,hx.2.1⟩,?_⟩
 refine callWith_builtin rfl (Zfr (pos:=cp) _ _ env _ _ _ _ (wpAny_items_nil (Zi7 hsys hraw ?_)))
 have hview:Heap.IsValuesView (s₂.heap.push { cls:=.type "dict_values",data:=.fields #[.ref ad] }) s₂.heap.objs.size ad:=⟨_,Heap.get?_push_size _ rfl,rfl,rfl⟩
 show wpAny _ _ (do return .bool (!(← contains (.ref s₂.heap.objs.size) (.str aw t)))) Q E _
 refine wpAny_bind (Zi6 (A:=A) (P.calm hS) hview (hraw.kept fun o e=>Heap.get?_push_of_some _ e) (bs:=fun i=>decide (ss[i]?=some aw)) ?_ ?_)
 ·intro i e hie
  rw [hei] at hie
  cases hxi:xs[i]? with
  | none=>rw [hxi] at hie; injection hie
  | some x' =>
   rw [hxi] at hie
   refine e2a2 (Zja hv hms i x' hxi) fun b t' h1 h2=>?_
   refine ⟨b,t',by rw [← inj hie]; exact h1,?_⟩
   rw [h2]
   exact decide_eq_decide.mpr ⟨fun e=>inj e,fun e=>by rw [e]⟩
 ·intro h' tk c hc' hkeep
  have hlen:ss.length=xs.length:=by
   have h1:=congrArg List.length hkl
   have h2:∀ {l:List (SK×AV)} {ss:List Str},(l.mapM fun p=>strOf? p.2)=some ss→ss.length=l.length:=by
    intro l
    induction l with
    | nil=>intro ss h; rw [← inj h]; rfl
    | cons p l ih =>
     intro ss h
     rw [List.mapM_cons] at h
     cases hp:strOf? p.2 with
     | none=>rw [hp] at h; injection h
     | some b =>
      rw [hp] at h
      cases hr:(l.mapM fun p=>strOf? p.2) with
      | none=>rw [hr] at h; injection h
      | some r =>
       rw [hr] at h
       have h:some (b::r)=some ss:=h
       rw [← inj h,List.length_cons,List.length_cons,ih hr]
   rw [h2 hms]
   simpa using h1.symm
  have ec:c=ss.any fun b=>decide (b=aw):=by
   rw [Bool.eq_iff_iff,hc',List.any_eq_true]
   constructor
   ·intro hZ; refine e1a2 hZ fun j hj hbj=>?_
    exact ⟨aw,List.mem_of_getElem? (of_decide_eq_true hbj),decide_eq_true rfl⟩
   ·intro hZ; refine e1a2 hZ fun b hb1 hb2=>?_
    obtain ⟨j,hj,hj'⟩:=List.getElem_of_mem hb1
    refine ⟨j,by rw [hsz,← hlen]; exact hj,decide_eq_true ?_⟩
    rw [List.getElem?_eq_getElem hj,hj',of_decide_eq_true hb2]
  rw [ec]
  exact wpAny_pure (hp₃ _ _ _ (a₂.inv.keeps tk fun b o e=>hkeep b o (Heap.get?_push_of_some _ e)) (.bool _))
end
end Mine
namespace Mine
open PySem
set_option linter.unusedVariables false
section
variable {σ:Loc} {H:AH} {Q:AV→AH→Prop} {N:Loc→AH→Prop} {R:AV→AH→Prop}
theorem w_hasN {k d:DE} (h:W (k σ H) fun x H₁=>W (d σ H₁) fun y H₂=>OB (hasN H₂ x y) fun v=>Q v H₂):W (dHasN k d σ H) Q :=
 W.bind (h.mono fun x H₁ h=>W.bind (h.mono fun y H₂ h=>toR_w h))
theorem Zjc {d:DE} (h:W (d σ H) fun x H₁=>OB (keysT H₁ x) fun v=>Q v H₁):W (dKeysT d σ H) Q:=W.bind (h.mono fun x H₁ h=>toR_w h)
theorem w_rev {a:DE} {st:Option DE} (h:W (a σ H) fun x H₁=>W (evPart st σ H₁) fun k H₂=>OB (revOp H₂ x k) fun v=>Q v H₂):W (dRev a st σ H) Q :=
 W.bind (h.mono fun x H₁ h=>W.bind (h.mono fun k H₂ h=>toR_w h))
theorem w_notV {a d:DE} (h:W (a σ H) fun x H₁=>W (d σ H₁) fun y H₂=>OB (Zi8 H₂ x y) fun c=>Q (.bool (!c)) H₂):W (dNotV a d σ H) Q :=
 W.bind (h.mono fun x H₁ h=>W.bind (h.mono fun y H₂ h=>by
  refine e1a2 h fun c e q=>?_
  exact toR_w ⟨_,by rw [e]; rfl,q⟩))
theorem Zjd {j:Nat} {l:List ((Int×List Int)×AV)} {k:Int×List Int} {Q:AV→Prop} (h:H[j]?=some (.dictS l)) (q:Q (.bool (lookD l k).isSome)):OB (hasT H (stAV k) (.ref j)) Q :=
 ⟨_,by unfold hasT dictS?; rw [Zh8]; simp [h],q⟩
theorem Zje {j:Nat} {l:List ((Int×List Int)×AV)} {k:Int×List Int} {v:AV} {Q:AV→Prop} (h:H[j]?=some (.dictS l)) (e:lookD l k=some v) (q:Q v):OB (getT H (.ref j) (stAV k)) Q :=
 ⟨_,by unfold getT dictS?; rw [Zh8]; simp [h,e],q⟩
theorem Zjf {j:Nat} {l:List ((Int×List Int)×AV)} {k:Int×List Int} {v:AV} {Q:AH→Prop} (h:H[j]?=some (.dictS l)) (hl:l.length≤1000000) (q:Q (H.set j (.dictS (putD l k v)))):OB (putT H (.ref j) (stAV k) v) Q :=
 ⟨_,by unfold putT; rw [Zh8]; simp [h,hl],q⟩
theorem Zjg {j:Nat} {l:List ((Int×List Int)×AV)} {Q:AV→Prop} (h:H[j]?=some (.dictS l)) (hl:l.length≤1000000) (q:Q (.int l.length)):OB (lenT H (.ref j)) Q :=
 ⟨_,by unfold lenT dictS?; simp [h]; exact Nat.le_trans hl (by decide),q⟩
theorem Zjh {j:Nat} {l:List ((Int×List Int)×AV)} {k:Int×List Int} {Q:AV→Prop} (h:H[j]?=some (.dictS l)) (q:Q (.bool (lookD l k).isSome)):OB (hasN H (stAV k) (.ref j)) Q:=Zjd h q
theorem Zji {j:Nat} {l:List ((Int×List Int)×AV)} {Q:AV→Prop} (h:H[j]?=some (.dictS l)) (q:Q (.bool false)):OB (hasN H .none (.ref j)) Q :=
 ⟨_,by unfold hasN dictS?; simp [h],q⟩
theorem Zjj {j:Nat} {l:List ((Int×List Int)×AV)} {Q:AV→Prop} (h:H[j]?=some (.dictS l)) (hl:l.length≤1000000) (q:Q (.lst (l.map fun p=>stAV p.1))):OB (keysT H (.ref j)) Q :=
 ⟨_,by unfold keysT dictS?; simp [h]; exact Nat.le_trans hl (by decide),q⟩
theorem ob_rev {l:List AV} {Q:AV→Prop} (hl:l.length≤1000000) (q:Q (.lst l.reverse)):OB (revOp H (.lst l) (some (-1))) Q :=
 ⟨_,by unfold revOp listOf?; simp; exact Nat.le_trans hl (by decide),q⟩
theorem Zjk {j:Nat} {l:List ((Int×List Int)×AV)} {ss:List Str} {a:Str} {Q:Bool→Prop} (h:H[j]?=some (.dictS l)) (hs:(l.mapM fun p=>strOf? p.2)=some ss) (q:Q (ss.any fun b=>decide (b=a))):OB (Zi8 H (.str a) (.ref j)) Q :=
 ⟨_,by
  have hd:dictS? H (.ref j)=some l:=by unfold dictS?; simp [h]
  unfold Zi8
  rw [hd]
  show Option.map _ (l.mapM fun p=>strOf? p.2)=_
  rw [hs]; rfl,q⟩
end
end Mine
namespace Mine
open PySem PySem.W PyProof.Rows PySem.Calls PySem.SeqAt
set_option linter.unusedVariables false
set_option genInjectivity false
set_option genSizeOf false
noncomputable def lkS {α:Type} (l:List (Str×α)) (x:Str):Option α:=List.rec none (fun p _ ih=>Bool.rec ih (some p.2) (Fast.sEq x p.1)) l
theorem Zjl {α:Type} {x:Str} {a:α} {P:List (Str×α)→Prop} (h0:∀ r,P ((x,a)::r)) (h1:∀ y b r,x≠y→P r→P ((y,b)::r)):∀ {l:List (Str×α)},lkS l x=some a→P l
 | [],h=>nomatch h
 | (y,b)::r,h=>by
  have h:(Bool.rec (lkS r x) (some b) (Fast.sEq x y):Option α)=some a:=h
  cases hs:Fast.sEq x y with
  | true =>
   rw [hs] at h
   have h:some b=some a:=h
   obtain rfl:=inj h
   have e:=Fast.sEq_iff.mp hs
   subst e
   exact h0 r
  | false =>
   rw [hs] at h
   exact h1 y b r (fun e=>by rw [Fast.sEq_iff.mpr e] at hs; injection hs) (Zjl h0 h1 h)
theorem Zjm {α:Type} {l:List (Str×α)} {x:Str} {a:α} (h:lkS l x=some a):l.lookup x=some a :=
 Zjl (P:=fun l=>l.lookup x=some a) (fun _=>List.lookup_cons_self) (fun _ _ _ ne ih=>by rw [List.lookup_cons,beq_eq_false_iff_ne.mpr ne]; exact ih) h
theorem Zjn {α:Type} {l:List (Str×α)} {x:Str} {a:α} (h:lkS l x=some a):(x,a)∈l :=
 Zjl (P:=fun l=>(x,a)∈l) (fun _=>List.mem_cons_self) (fun _ _ _ _ ih=>List.mem_cons_of_mem _ ih) h
noncomputable def memS (x:Str) (l:List Str):Bool:=List.rec false (fun y _ ih=>Bool.rec ih true (Fast.sEq x y)) l
theorem Zjo {x:Str}:∀ {l:List Str},memS x l=true→x∈l
 | [],h=>nomatch h
 | y::r,h=>by
  have h:(Bool.rec (memS x r) true (Fast.sEq x y):Bool)=true:=h
  cases hs:Fast.sEq x y with
  | true=>rw [Fast.sEq_iff.mp hs]; exact List.mem_cons_self
  | false=>rw [hs] at h; exact List.mem_cons_of_mem _ (Zjo h)
noncomputable def lkN {α:Type} (l:List (Nat×α)) (x:Nat):Option α:=List.rec none (fun p _ ih=>Bool.rec ih (some p.2) (Nat.beq x p.1)) l
theorem Zjp {α:Type} {x:Nat} {a:α}:∀ {l:List (Nat×α)},lkN l x=some a→(x,a)∈l
 | [],h=>nomatch h
 | (y,b)::r,h=>by
  have h:(Bool.rec (lkN r x) (some b) (Nat.beq x y):Option α)=some a:=h
  cases hs:Nat.beq x y with
  | true =>
   rw [hs] at h
   obtain rfl:=inj (show some b=some a from h)
   rw [Nat.eq_of_beq_eq_true hs]; exact List.mem_cons_self
  | false=>rw [hs] at h; exact List.mem_cons_of_mem _ (Zjp h)
noncomputable def okN (x:Str):Bool:=!(Fast.sEq x "__debug__")&&!(Fast.sEq x "__classdict__")
theorem okN_d {x:Str} (h:okN x=true):(x == ("__debug__":Str))=false:=beq_eq_false_iff_ne.mpr fun e=>by
 unfold okN at h; rw [Fast.sEq_iff.mpr e] at h; injection h
theorem okN_c {x:Str} (h:okN x=true):(x == ("__classdict__":Str))=false:=beq_eq_false_iff_ne.mpr fun e=>by
 unfold okN at h; rw [Fast.sEq_iff.mpr e,Bool.not_true,Bool.and_false] at h; injection h
noncomputable def withO {α β:Type} (o:Option α) (f:∀ a,o=some a→Option β):Option β:=match o,f with
 | some a,f=>f a rfl
 | none,_=>none
noncomputable def withB {β:Type} (b:Bool) (f:b=true→Option β):Option β:=match b,f with
 | true,f=>f rfl
 | false,_=>none
noncomputable def orO {β:Type} (a b:Option β):Option β:=match a with
 | some x=>some x
 | none=>b
noncomputable def vE {M:Expr→Type} (e:Expr) (oth:∀ e,M e) (cst:∀ c k p,M (.Constant c k p)) (nam:∀ x p,M (.Name x p)) (bin:∀ l o r p,M (.BinOp l o r p)) (una:∀ o x p,M (.UnaryOp o x p)) (boo:∀ o es p,M (.BoolOp o es p)) (cmp:∀ l os rs p,M (.Compare l os rs p))
  (dic:∀ ks vs p,M (.Dict ks vs p)) (tup:∀ es k p,M (.Tuple es k p)) (lst:∀ es p,M (.List es p)) (slc:∀ lo hi st p,M (.Slice lo hi st p)) (sub:∀ v i p,M (.Subscript v i p)) (att:∀ o m p,M (.Attribute o m p)) (cal:∀ f es ks p,M (.Call f es ks p)) (com:∀ x gs sc p,M (.ListComp x gs sc p)):M e:=match e with
 | .Constant c k p=>cst c k p
 | .Name x p=>nam x p
 | .BinOp l o r p=>bin l o r p
 | .UnaryOp o x p=>una o x p
 | .BoolOp o es p=>boo o es p
 | .Compare l os rs p=>cmp l os rs p
 | .Dict ks vs p=>dic ks vs p
 | .Tuple es k p=>tup es k p
 | .List es p=>lst es p
 | .Slice lo hi st p=>slc lo hi st p
 | .Subscript v i p=>sub v i p
 | .Attribute o m p=>att o m p
 | .Call f es ks p=>cal f es ks p
 | .ListComp x gs sc p=>com x gs sc p
 | e=>oth e
noncomputable def vNam {M:Expr→Type} (e:Expr) (oth:∀ e,M e) (nam:∀ x p,M (.Name x p)):M e:=vE e oth (fun _ _ _=>oth _) nam (fun _ _ _ _=>oth _) (fun _ _ _=>oth _) (fun _ _ _=>oth _) (fun _ _ _ _=>oth _) (fun _ _ _=>oth _) (fun _ _ _=>oth _) (fun _ _=>oth _) (fun _ _ _ _=>oth _) (fun _ _ _=>oth _) (fun _ _ _=>oth _) (fun _ _ _ _=>oth _) fun _ _ _ _=>oth _
noncomputable def vL {α:Type} {M:List α→Type} (l:List α) (n:M []) (c:∀ a r,M (a::r)):M l:=match l with
 | []=>n
 | a::r=>c a r
noncomputable def vO {α:Type} {M:Option α→Type} (l:Option α) (n:M none) (c:∀ a,M (some a)):M l:=match l with
 | none=>n
 | some a=>c a
noncomputable def pk {β:Type} (h:Nat) (l:List (Option β)):Option β:=List.rec (fun _=>none) (fun a _ ih h=>Nat.rec a (fun k _=>ih k) h) l h
structure Pl (e:Expr):Prop where
 fold:∀ env x,foldedSetIterable e env x=pure x
 sub:∀ o v,subscripted e false o v=operate [o,v] (getItem o v)
 swap:∀ t l env,swapsWith e t l env=pure false
 mark:∀ o,behindInMarks o e=false
noncomputable def plE (e:Expr):Option (PLift (Pl e)):=vE (M:=fun e=>Option (PLift (Pl e))) e (fun _=>none) (fun _ _ _=>some ⟨⟨fun _ _=>rfl,fun _ _=>rfl,fun _ _ _=>rfl,fun _=>rfl⟩⟩) (fun _ _=>some ⟨⟨fun _ _=>rfl,fun _ _=>rfl,fun _ _ _=>rfl,fun _=>rfl⟩⟩) (fun _ _ _ _=>some ⟨⟨fun _ _=>rfl,fun _ _=>rfl,fun _ _ _=>rfl,fun _=>rfl⟩⟩)
 (fun _ _ _=>some ⟨⟨fun _ _=>rfl,fun _ _=>rfl,fun _ _ _=>rfl,fun _=>rfl⟩⟩) (fun _ _ _=>none) (fun _ _ _ _=>none) (fun _ _ _=>some ⟨⟨fun _ _=>rfl,fun _ _=>rfl,fun _ _ _=>rfl,fun _=>rfl⟩⟩)
 (fun _ _ _=>some ⟨⟨fun _ _=>rfl,fun _ _=>rfl,fun _ _ _=>rfl,fun _=>rfl⟩⟩) (fun _ _=>some ⟨⟨fun _ _=>rfl,fun _ _=>rfl,fun _ _ _=>rfl,fun _=>rfl⟩⟩) (fun _ _ _ _=>none) (fun _ _ _=>some ⟨⟨fun _ _=>rfl,fun _ _=>rfl,fun _ _ _=>rfl,fun _=>rfl⟩⟩)
 (fun _ _ _=>some ⟨⟨fun _ _=>rfl,fun _ _=>rfl,fun _ _ _=>rfl,fun _=>rfl⟩⟩) (fun _ _ _ _=>some ⟨⟨fun _ _=>rfl,fun _ _=>rfl,fun _ _ _=>rfl,fun _=>rfl⟩⟩) fun _ _ _ _=>none
theorem Pl.sole {t e:Expr} (h:Pl e) (l:Nat) (env:Env):swapsWithSole [t] e l env=pure false:=by
 show swapsWith e (some t) l env=_
 exact h.swap _ _ _
structure Si (e:Expr):Prop where
 nt:∀ es k tp env,swappedStores [.Tuple es k tp] e env=pure none
 tp:∀ env whole,isTrue e env whole=(do let v ← whole; standAt e.pos; holding [v] (truthy v))
noncomputable def siE (e:Expr):Option (PLift (Si e)):=vE (M:=fun e=>Option (PLift (Si e))) e (fun _=>none) (fun _ _ _=>none) (fun _ _=>some ⟨⟨fun _ _ _ _=>rfl,fun _ _=>rfl⟩⟩) (fun _ _ _ _=>some ⟨⟨fun _ _ _ _=>rfl,fun _ _=>rfl⟩⟩)
 (fun _ _ _=>none) (fun _ _ _=>none) (fun _ _ _ _=>none) (fun _ _ _=>none) (fun _ _ _=>none) (fun _ _=>none) (fun _ _ _ _=>none) (fun _ _ _=>some ⟨⟨fun _ _ _ _=>rfl,fun _ _=>rfl⟩⟩) (fun _ _ _=>some ⟨⟨fun _ _ _ _=>rfl,fun _ _=>rfl⟩⟩) (fun _ _ _ _=>some ⟨⟨fun _ _ _ _=>rfl,fun _ _=>rfl⟩⟩) fun _ _ _ _=>none
noncomputable def Ab (o:Expr):Prop:=∀ m env,attributeBase o m env (eval o env)=eval o env
noncomputable def abE (e:Expr):Option (PLift (Ab e)):=vE (M:=fun e=>Option (PLift (Ab e))) e (fun _=>none) (fun _ _ _=>none) (fun _ _=>some ⟨fun _ _=>rfl⟩) (fun _ _ _ _=>none) (fun _ _ _=>none) (fun _ _ _=>none) (fun _ _ _ _=>none) (fun _ _ _=>none) (fun _ _ _=>none) (fun _ _=>none) (fun _ _ _ _=>none) (fun _ _ _=>some ⟨fun _ _=>rfl⟩) (fun _ _ _=>some ⟨fun _ _=>rfl⟩) (fun _ _ _ _=>none) fun _ _ _ _=>none
theorem Zjq {env:Env} {pos:Pos}:∀ {es:List Expr},es.all Za1=true→(backTo pos (starEach es env)).all (fun x=>!x.1)=true
 | [],_=>rfl
 | e::es,h=>by
  obtain ⟨h1,h2⟩:=Bool.and_eq_true_iff.mp (show (Za1 e&&es.all Za1)=true from h)
  rw [Za2 h1]
  exact Zjq h2
theorem few_ok {es:List Expr} {pos:Pos} (h:es.all Za1=true) (hl:Nat.ble es.length 29=true) (env:Env):((backTo pos (starEach es env)).all (fun x=>!x.1)&&(backToKw pos (keywordEach [] env)).all (fun x=>x.1.isSome)&&decide (es.length+([]:List Keyword).length+(if ([]:List Keyword).isEmpty then 0 else 1) < 30))=true:=by
 rw [Zjq h]
 exact decide_eq_true (Nat.lt_succ_of_le (Nat.le_of_ble_eq_true hl))
theorem Zjr {e:Expr} {es:List Expr} (h:(e::es).all Za1=true):Za1 e=true:=(Bool.and_eq_true_iff.mp (show (Za1 e&&es.all Za1)=true from h)).1
theorem Zjs {e:Expr} {es:List Expr} (h:(e::es).all Za1=true):es.all Za1=true:=(Bool.and_eq_true_iff.mp (show (Za1 e&&es.all Za1)=true from h)).2
noncomputable def cop:(o:CmpOp)→{c:COp // c.op=o}
 | .Eq=>⟨.eq,rfl⟩
 | .NotEq=>⟨.ne,rfl⟩
 | .Lt=>⟨.lt,rfl⟩
 | .LtE=>⟨.le,rfl⟩
 | .Gt=>⟨.gt,rfl⟩
 | .GtE=>⟨.ge,rfl⟩
 | .Is=>⟨.is,rfl⟩
 | .IsNot=>⟨.isNot,rfl⟩
 | .In=>⟨.isIn,rfl⟩
 | .NotIn=>⟨.notIn,rfl⟩
noncomputable def bop (h:Nat):(o:Operator)→Option {c:BOp // c.op=o}
 | .Add=>some ⟨.add,rfl⟩
 | .Sub=>some ⟨.sub,rfl⟩
 | .Mult=>match h with
  | 0=>some ⟨.mul,rfl⟩
  | _=>some ⟨.rep,rfl⟩
 | .FloorDiv=>some ⟨.fdiv,rfl⟩
 | .Mod=>some ⟨.mod,rfl⟩
 | .Pow=>some ⟨.pow,rfl⟩
 | _=>none
structure Ck where
 gf:List (Str×Nat)
 gi:List (Str×Int)
 gb:List (Str×BI)
 cl:List (Str×Nat)
 own:List (Str×Nat)
 tr:List (Str×List Nat)
 x1:List (Nat×CT×List (Nat×Bool))
 xt:List (Nat×List CT×List (Nat×Bool))
 hint:List (Nat×Nat)
 comp:List (Nat×Sco×Nat)
noncomputable def key (p:Pos):Nat:=p.line * 1000000+p.col * 1000+p.endCol
noncomputable def Ck.h (D:Ck) (p:Pos):Nat:=(lkN D.hint (key p)).getD 0
noncomputable def GlOk (C:Cx) (x:Str) (v:AV):Prop:=okN x=true→∀ n S p,x∈S.G→SE C n S (.Name x p) (dCst v)
structure CkF (C:Cx) (K:Frag) (mg mb:Str→Option Value) (D:Ck):Prop where
 B:Base C mg mb
 kin:K.In C.base
 gf:∀ q∈D.gf,GlOk C q.1 (.fn q.2)
 gi:∀ q∈D.gi,GlOk C q.1 (.int q.2)
 gb:∀ q∈D.gb,GlOk C q.1 (.bi q.2)
 cl:∀ q∈D.cl,GlOk C q.1 (.cls q.2)
 own:∀ q∈D.own,OwnCls q.1 (C.clv q.2) [.type "ValueError",.type "Exception",.type "BaseException",.type "object"] "ValueError.__new__" mg C.base
 tr:∀ q∈D.tr,∃ k,mg q.1=some (.ref (C.clv k))∧∀ c∈q.2,exmOne K (.ref (C.clv c)) (.ref (C.clv k))=some true
 x1:∀ q∈D.x1,∀ c b,tab q.2.2 c=some b→excK K (C.clv c)=true∧kitOne K (.ref (C.clv c)) (q.2.1.val C)=some b
 xt:∀ q∈D.xt,∀ c b,tab q.2.2 c=some b→excK K (C.clv c)=true∧kitAny K (.ref (C.clv c)) (q.2.1.map (CT.val C))=some b
abbrev OE (C:Cx) (n:Nat) (S:Sco) (e:Expr):Type:=Option {d:DE // SE C (n+1) S e d}
abbrev OEs (C:Cx) (n:Nat) (S:Sco) (e:List Expr):Type:=Option {d:List DE // SEs C (n+1) S e d}
abbrev OT (C:Cx) (n:Nat) (S:Sco) (e:Expr):Type:=Option {d:DT // ST C (n+1) S e d}
abbrev OBs (C:Cx) (n:Nat) (S:Sco) (o:BoolOp) (e:List Expr):Type:=Option {d:DE // SBs C (n+1) S o e d}
abbrev OTs (C:Cx) (n:Nat) (S:Sco) (o:BoolOp) (e:List Expr):Type:=Option {d:DT // STs C (n+1) S o e d}
abbrev OS (C:Cx) (n:Nat) (S:Sco) (e:Stmt):Type:=Option {d:DS // SS C (n+1) S e d}
abbrev OSs (C:Cx) (n:Nat) (S:Sco) (e:List Stmt):Type:=Option {d:DS // SSs C (n+1) S e d}
abbrev Rec (C:Cx) (n:Nat):Type:=(∀ S e,OE C n S e)×(∀ S e,OEs C n S e)×(∀ S e,OT C n S e)×(∀ S o e,OBs C n S o e)×(∀ S o e,OTs C n S o e)×(∀ S e,OS C n S e)×(∀ S e,OSs C n S e)
section
variable {C:Cx} {K:Frag} {mg mb:Str→Option Value} {D:Ck} {n:Nat} {Φ:Fns}
noncomputable def Rec.E (R:Rec C n) (S:Sco) (e:Expr):OE C n S e:=R.1 S e
noncomputable def Rec.Es (R:Rec C n) (S:Sco) (e:List Expr):OEs C n S e:=R.2.1 S e
noncomputable def Rec.T (R:Rec C n) (S:Sco) (e:Expr):OT C n S e:=R.2.2.1 S e
noncomputable def Rec.Bs (R:Rec C n) (S:Sco) (o:BoolOp) (e:List Expr):OBs C n S o e:=R.2.2.2.1 S o e
noncomputable def Rec.Ts (R:Rec C n) (S:Sco) (o:BoolOp) (e:List Expr):OTs C n S o e:=R.2.2.2.2.1 S o e
noncomputable def Rec.St (R:Rec C n) (S:Sco) (e:Stmt):OS C n S e:=R.2.2.2.2.2.1 S e
noncomputable def Rec.Ss (R:Rec C n) (S:Sco) (e:List Stmt):OSs C n S e:=R.2.2.2.2.2.2 S e
noncomputable def cName (F:CkF C K mg mb D) (S:Sco) (x:Str) (pos:Pos):OE C n S (.Name x pos) :=
 withB (okN x) fun hn=>orO (withO (lkS S.Γ x) fun i h=>some ⟨dLoc i,SE.loc (Zjm h) (okN_d hn) (okN_c hn)⟩)
  (withB (memS x S.G) fun hg=>orO (withO (lkS D.gf x) fun v h=>some ⟨dCst (.fn v),F.gf (x,v) (Zjn h) hn _ _ _ (Zjo hg)⟩) (orO (withO (lkS D.gb x) fun v h=>some ⟨dCst (.bi v),F.gb (x,v) (Zjn h) hn _ _ _ (Zjo hg)⟩) (orO (withO (lkS D.gi x) fun v h=>some ⟨dCst (.int v),F.gi (x,v) (Zjn h) hn _ _ _ (Zjo hg)⟩) (withO (lkS D.cl x) fun v h=>some ⟨dCst (.cls v),F.cl (x,v) (Zjn h) hn _ _ _ (Zjo hg)⟩))))
noncomputable def cEs (R:Rec C n) (S:Sco) (es:List Expr):OEs C n S es:=vL (M:=OEs C n S) es (some ⟨[],SEs.nil⟩) fun e es=>withB (Za1 e) fun h=>(R.E S e).bind fun a=>(R.Es S es).bind fun b=>some ⟨a.1::b.1,SEs.cons a.2 b.2 fun _=>Za2 h⟩
noncomputable def cBs (R:Rec C n) (S:Sco) (o:BoolOp) (es:List Expr):OBs C n S o es:=vL (M:=OBs C n S o) es none fun e es=>(R.E S e).bind fun a=>vL (M:=fun es=>OBs C n S o (e::es)) es (some ⟨a.1,SBs.one a.2⟩) fun e' es=>match o with
  | .And=>(R.Bs S .And (e'::es)).bind fun b=>some ⟨dAnd a.1 b.1,SBs.and a.2 b.2⟩
  | .Or=>(R.Bs S .Or (e'::es)).bind fun b=>some ⟨dOr a.1 b.1,SBs.or a.2 b.2⟩
noncomputable def cTs (R:Rec C n) (S:Sco) (o:BoolOp) (es:List Expr):OTs C n S o es:=vL (M:=OTs C n S o) es none fun e es=>(R.T S e).bind fun a=>match o with
  | .And=>vL (M:=fun es=>OTs C n S .And (e::es)) es (some ⟨a.1,STs.andOne a.2⟩) fun e' es=>(R.Ts S .And (e'::es)).bind fun b=>some ⟨tAnd a.1 b.1,STs.and a.2 b.2⟩
  | .Or=>vL (M:=fun es=>OTs C n S .Or (e::es)) es (some ⟨a.1,STs.orOne a.2⟩) fun e' es=>(R.Ts S .Or (e'::es)).bind fun b=>some ⟨tOr a.1 b.1,STs.or a.2 b.2⟩
noncomputable def vCmp {M:List CmpOp→List Expr→Type} (os:List CmpOp) (rs:List Expr) (oth:∀ os rs,M os rs) (one:∀ o r,M [o] [r]) (two:∀ o o' r t,M [o,o'] [r,t]):M os rs:=match os,rs with
 | [o],[r]=>one o r
 | [o,o'],[r,t]=>two o o' r t
 | os,rs=>oth os rs
noncomputable def cCmp (F:CkF C K mg mb D) (R:Rec C n) (S:Sco) (l:Expr) (pos:Pos) (os:List CmpOp) (rs:List Expr):OE C n S (.Compare l os rs pos):=vCmp (M:=fun os rs=>OE C n S (.Compare l os rs pos)) os rs (fun _ _=>none)
 (fun o r=>(plE r).bind fun h=>(R.E S l).bind fun a =>
  orO (
  (R.E S r).bind fun b=>some ⟨dCmp (cop o).1 a.1 b.1,SE.cmp a.2 b.2 (cop o).2 (h.1.mark _)⟩
  ) (match o,r,h with
   | .NotIn,.Call (.Attribute x m ap) [] [] cp,h=>withB (Fast.sEq m "values") fun hm=>withB S.calm fun hS=>(abE x).bind fun hb=>withB (ap.endLine == cp.line) fun hln=>(R.E S x).bind fun b=>some ⟨dNotV a.1 b.1,Fast.sEq_iff.mp hm ▸ SE.notV F.B a.2 b.2 hS rfl (hb.1 _) (few_ok rfl rfl) hln⟩
   | _,_,_=>none)
  )
 fun o o' r t=>(plE t).bind fun h=>(R.E S l).bind fun a=>(R.E S r).bind fun b=>(R.E S t).bind fun c=>some ⟨dCmp2 (cop o).1 (cop o').1 a.1 b.1 c.1,SE.cmp2 a.2 b.2 c.2 (cop o).2 (cop o').2 (h.1.mark _)⟩
noncomputable def tCmp (F:CkF C K mg mb D) (R:Rec C n) (S:Sco) (l:Expr) (pos:Pos) (os:List CmpOp) (rs:List Expr):OT C n S (.Compare l os rs pos):=vCmp (M:=fun os rs=>OT C n S (.Compare l os rs pos)) os rs (fun _ _=>none)
 (fun o r=>(plE r).bind fun h=>(R.E S l).bind fun a=>(R.E S r).bind fun b=>match D.h pos,o with
  | 1,.In=>some ⟨tVal (dHasI a.1 b.1),ST.hasI F.B a.2 b.2 (h.1.mark _)⟩
  | 2,.In=>some ⟨tVal (dHasT a.1 b.1),ST.hasT F.B a.2 b.2 (h.1.mark _)⟩
  | 3,.NotIn=>some ⟨tVal (dNotT a.1 b.1),ST.notT F.B a.2 b.2 (h.1.mark _)⟩
  | 4,.In=>some ⟨tVal (dHasN a.1 b.1),ST.hasN F.B a.2 b.2 (h.1.mark _)⟩
  | _,o=>some ⟨tVal (dCmp (cop o).1 a.1 b.1),ST.cmp a.2 b.2 (cop o).2 (h.1.mark _)⟩)
 fun o o' r t=>(plE t).bind fun h=>(R.E S l).bind fun a=>(R.E S r).bind fun b=>(R.E S t).bind fun c=>some ⟨tVal (dCmp2 (cop o).1 (cop o').1 a.1 b.1 c.1),ST.cmp2 a.2 b.2 c.2 (cop o).2 (cop o').2 (h.1.mark _)⟩
noncomputable def tOth (R:Rec C n) (S:Sco) (e:Expr):OT C n S e:=(siE e).bind fun h=>(R.E S e).bind fun a=>some ⟨tVal a.1,ST.val a.2 h.1.tp⟩
noncomputable def cT (F:CkF C K mg mb D) (R:Rec C n) (S:Sco) (e:Expr):OT C n S e:=vE (M:=OT C n S) e (fun _=>none) (fun _ _ _=>none) (fun _ _=>tOth R S _) (fun _ _ _ _=>tOth R S _)
 (fun o x _=>match o with
  | .Not=>(R.T S x).bind fun a=>some ⟨tNot a.1,ST.not a.2⟩
  | _=>none)
 (fun o es _=>(R.Ts S o es).bind fun a=>some ⟨a.1,ST.boolOp a.2⟩) (fun l os rs pos=>tCmp F R S l pos os rs) (fun _ _ _=>none) (fun _ _ _=>none) (fun _ _=>none) (fun _ _ _ _=>none) (fun _ _ _=>tOth R S _) (fun _ _ _=>tOth R S _) (fun _ _ _ _=>tOth R S _) fun _ _ _ _=>none
noncomputable def cP (R:Rec C n) (S:Sco) (x:Option Expr):Option {d:Option DE // SP C (n+1) S x d}:=vO (M:=fun x=>Option {d:Option DE // SP C (n+1) S x d}) x (some ⟨none,SP.none⟩) fun e=>(R.E S e).bind fun a=>some ⟨some a.1,SP.some a.2⟩
noncomputable def cIfs (R:Rec C n) (S:Sco) (es:List Expr):Option {d:DT // STf C (n+1) S es d}:=vL (M:=fun es=>Option {d:DT // STf C (n+1) S es d}) es (some ⟨tTrue,STf.none⟩) fun e es=>vL (M:=fun es=>Option {d:DT // STf C (n+1) S (e::es) d}) es ((R.T S e).bind fun a=>some ⟨a.1,STf.one a.2⟩) fun _ _=>none
noncomputable def cComp {β:Type} (D:Ck) (R:Rec C n) (S:Sco) (elt iter:Expr) (ifs:List Expr) (scope:Scope) (x:Str) (pos:Pos) (f:∀ S' k it d t,SE C (n+1) S iter it→CompS S S' scope x k→SE C (n+1) S' elt d→STf C (n+1) S' ifs t→S.calm=true→(∀ env x,foldedSetIterable iter env x=pure x)→Option β):Option β :=
 (lkN D.comp (key pos)).bind fun q=>withB (Zds S q.1 scope x q.2) fun hc=>withB S.calm fun hS=>(plE iter).bind fun hp =>
  (R.E S iter).bind fun i=>(R.E q.1 elt).bind fun d=>(cIfs R q.1 ifs).bind fun t=>f q.1 q.2 i.1 d.1 t.1 i.2 (CompS.of hc) d.2 t.2 hS hp.1.fold
noncomputable def vGen {M:List Comprehension→Type} (gs:List Comprehension) (oth:∀ gs,M gs) (f:∀ x p iter ifs,M [⟨.Name x p,iter,ifs,0⟩]):M gs:=match gs with
 | [⟨t,iter,ifs,0⟩]=>vNam (M:=fun t=>M [⟨t,iter,ifs,0⟩]) t (fun _=>oth _) fun x p=>f x p iter ifs
 | gs=>oth gs
noncomputable def cCls (F:CkF C K mg mb D) (S:Sco) (x:Str) (p:Pos):Option {c:Nat // SE C (n+1) S (.Name x p) (dCst (.cls c))} :=
 withB (okN x) fun hn=>withB (memS x S.G) fun hg=>withO (lkS D.cl x) fun v hv=>some ⟨v,F.cl (x,v) (Zjn hv) hn _ _ _ (Zjo hg)⟩
noncomputable def cBI (F:CkF C K mg mb D) (S:Sco) (x:Str) (p:Pos):Option {b:BI // SE C (n+1) S (.Name x p) (dCst (.bi b))} :=
 withB (okN x) fun hn=>withB (memS x S.G) fun hg=>withO (lkS D.gb x) fun v hv=>some ⟨v,F.gb (x,v) (Zjn hv) hn _ _ _ (Zjo hg)⟩
noncomputable def cThe (F:CkF C K mg mb D) (S:Sco) (x:Str) (p:Pos) (b:BI):Option (PLift (SE C (n+1) S (.Name x p) (dCst (.bi b)))):=(cBI F S x p).bind fun q=>withB (decide (q.1=b)) fun h=>some ⟨of_decide_eq_true h ▸ q.2⟩
noncomputable def cCT (F:CkF C K mg mb D) (S:Sco) (e:Expr) (t:CT):Option (PLift (SE C (n+1) S e (dCst t.av))):=vNam (M:=fun e=>Option (PLift (SE C (n+1) S e (dCst t.av)))) e (fun _=>none) fun x p=>match t with
 | .own k=>(cCls F S x p).bind fun c=>withB (Nat.beq c.1 k) fun h=>some ⟨Nat.eq_of_beq_eq_true h ▸ c.2⟩
 | .bi b=>(cThe F S x p b).bind fun h=>some ⟨h.1⟩
noncomputable def cCTs (F:CkF C K mg mb D) (S:Sco) (es:List Expr) (ts:List CT):Option (PLift (SEs C (n+1) S es (ts.map fun t=>dCst t.av))):=List.rec (motive:=fun es=>∀ ts:List CT,Option (PLift (SEs C (n+1) S es (ts.map fun t=>dCst t.av))))
 (fun ts=>vL (M:=fun ts=>Option (PLift (SEs C (n+1) S [] (ts.map fun t=>dCst t.av)))) ts (some ⟨SEs.nil⟩) fun _ _=>none)
 (fun e es ih ts=>vL (M:=fun ts=>Option (PLift (SEs C (n+1) S (e::es) (ts.map fun t=>dCst t.av)))) ts none fun t ts=>withB (Za1 e) fun h=>(cCT F S e t).bind fun a=>(ih ts).bind fun b=>some ⟨SEs.cons a.1 b.1 fun _=>Za2 h⟩) es ts
noncomputable def cBIs (F:CkF C K mg mb D) (S:Sco) (es:List Expr):Option {ts:List BI // SEs C (n+1) S es (ts.map fun t=>dCst (.bi t))}:=List.rec (some ⟨[],SEs.nil⟩)
 (fun e es ih=>vNam (M:=fun e=>Option {ts:List BI // SEs C (n+1) S (e::es) (ts.map fun t=>dCst (.bi t))}) e (fun _=>none) fun x p=>(cBI F S x p).bind fun a=>ih.bind fun b=>some ⟨a.1::b.1,SEs.cons a.2 b.2 fun _=>Za2 rfl⟩) es
noncomputable def cOwn (F:CkF C K mg mb D) (R:Rec C n) (S:Sco) (x:Str) (p pos:Pos) (es:List Expr):OE C n S (.Call (.Name x p) es [] pos):=withB (es.all Za1) fun hs=>match es,hs with
 | [e],hs=>(R.E S e).bind fun a=>pk (D.h pos) [none,
   (cThe F S x p .list).bind fun f=>some ⟨dNewC a.1,SE.newC f.1 a.2 (fun _=>rfl) (fun _=>Za2 (Zjr hs)) (fun _=>Za3 hs)⟩
   ,(cThe F S x p .len).bind fun f=>some ⟨dLenT a.1,SE.lenT F.B f.1 a.2 (fun _=>rfl) (fun _=>Za2 (Zjr hs)) (fun _=>Za3 hs)⟩
   ,none,none
   ,withB S.calm fun hS=>(cThe F S x p .list).bind fun f=>some ⟨dKeysT a.1,SE.keysT F.B f.1 a.2 (fun _=>rfl) (fun _=>Za2 (Zjr hs)) (fun _=>Za3 hs) hS⟩
   ,(cThe F S x p .int).bind fun f=>some ⟨dInt a.1,SE.intB f.1 a.2 (fun _=>rfl) (fun _=>Za2 (Zjr hs)) (fun _=>Za3 hs)⟩
   ]
 | [e,.Tuple es k tp],hs=>(cThe F S x p .isinstance).bind fun f=>(R.E S e).bind fun a=>pk (D.h pos) [none,none,none,none,none,none,none,
   (cBIs F S es).bind fun b=>match b with
    | ⟨t::ts,h⟩=>withB (Nat.ble (t::ts).length 1048576) fun hl=>some ⟨dIsiT a.1 (t::ts),SE.isiT f.1 a.2 h (fun _=>rfl) (fun _=>Za2 (Zjr hs)) (fun _=>Za3 hs) (Nat.le_of_ble_eq_true hl)⟩
    | _=>none
   ,withO (lkN D.xt (key pos)) fun q hq=>(cCTs F S es q.1).bind fun b=>withB (Nat.ble q.1.length 1048576) fun hl=>some ⟨dIsiX (tab q.2) a.1,SE.isiXT F.kin f.1 a.2 b.1 (F.xt _ (Zjp hq)) (fun _=>rfl) (fun _=>Za2 (Zjr hs)) (fun _=>Za3 hs) (Nat.le_of_ble_eq_true hl)⟩
   ]
 | [e,t],hs=>(cThe F S x p .isinstance).bind fun f=>(R.E S e).bind fun a=>withO (lkN D.x1 (key pos)) fun q hq=>(cCT F S t q.1).bind fun b=>some ⟨dIsiX (tab q.2) a.1,SE.isiX1 F.kin f.1 a.2 b.1 (F.x1 _ (Zjp hq)) (fun _=>rfl) (fun _=>Za2 (Zjr hs)) (fun _=>Za2 (Zjr (Zjs hs))) (fun _=>Za3 hs)⟩
 | _,_=>none
noncomputable def cCallN (F:CkF C K mg mb D) (hF₀:FS C Φ n) (R:Rec C n) (S:Sco) (x:Str) (p pos:Pos) (e:Expr) (es:List Expr):OE C n S (.Call (.Name x p) (e::es) [] pos) :=
 orO (withB ((e::es).all Za1) fun hs=>withB S.calm fun hS=>(R.Es S (e::es)).bind fun a=>pk (D.h pos) [(R.E S (.Name x p)).bind fun f=>some ⟨dCall Φ f.1 a.1,SE.callF hF₀.up f.2 a.2 (fun _=>rfl) (fun _=>Za2 (Zjr hs)) (fun _=>Za3 hs) hS⟩,none,none
  ,none
  ]) (
  cOwn F R S x p pos (e::es)
  )
noncomputable def cMeth (R:Rec C n) (S:Sco) (o:Expr) (m:Str) (ap pos:Pos) (e:Expr) (es:List Expr) (hs:(e::es).all Za1=true) (hl:Nat.ble (e::es).length 29=true) (hb:Ab o) (hln:(ap.endLine == pos.line)=true) {id:String} {nm:Str} {f:List AV→List AV→Option (List AV)} (slot:Slot "list" nm id) (hty:typeOf (.builtin id)=pure (.type "method_descriptor")) (hcall:MethOk C (n+1) id f):OE C n S (.Call (.Attribute o m ap) (e::es) [] pos) :=
 withB (Fast.sEq m nm) fun hm=>(R.E S o).bind fun a=>(R.Es S (e::es)).bind fun b=>some ⟨dMeth f a.1 b.1,Fast.sEq_iff.mp hm ▸ SE.meth slot hty hcall a.2 b.2 (hb _) (few_ok hs hl) (fun _=>Za2 (Zjr hs)) (fun _=>Za3 hs) hln⟩
noncomputable def cCallA (F:CkF C K mg mb D) (hF₀:FS C Φ n) (R:Rec C n) (S:Sco) (o:Expr) (m:Str) (ap pos:Pos) (es:List Expr):OE C n S (.Call (.Attribute o m ap) es [] pos) :=
 withB (es.all Za1) fun hs=>withB (Nat.ble es.length 29) fun hl=>(abE o).bind fun hb=>withB (ap.endLine == pos.line) fun hln =>
  (vL (M:=fun es=>es.all Za1=true→Nat.ble es.length 29=true→OE C n S (.Call (.Attribute o m ap) es [] pos)) es
   (fun _ _=>withB (Fast.sEq m "clear") fun hm=>(R.E S o).bind fun a=>some ⟨dMeth clrM a.1 [],Fast.sEq_iff.mp hm ▸ SE.meth0 PySem.F.slot_list_clear PySem.F.type_list_clear Zid a.2 (hb.1 _) (few_ok rfl rfl) hln⟩)
   (fun e es hs hl=>pk (D.h pos) [none,
   cMeth R S o m ap pos e es hs hl hb.1 hln PySem.slot_list_append PySem.F.type_list_append Zcw,
   none,
   cMeth R S o m ap pos e es hs hl hb.1 hln PySem.F.slot_list_insert PySem.F.type_list_insert Zcx
   ]) hs hl)
noncomputable def cSub (D:Ck) (R:Rec C n) (S:Sco) (v i:Expr) (pos:Pos):OE C n S (.Subscript v i pos):=(plE i).bind fun h=>(R.E S v).bind fun a=>(R.E S i).bind fun b=>pk (D.h pos) [some ⟨dSub a.1 b.1,SE.sub a.2 b.2 h.1.sub⟩,
 some ⟨dGetI a.1 b.1,SE.getI a.2 b.2 h.1.sub⟩
 ,some ⟨dGetT a.1 b.1,SE.getT a.2 b.2 h.1.sub⟩
 ]
noncomputable def cE (F:CkF C K mg mb D) (hF₀:FS C Φ n) (R:Rec C n) (S:Sco) (e:Expr):OE C n S e:=vE (M:=OE C n S) e (fun _=>none)
 (fun c _ _=>match c with
  | .none=>some ⟨_,SE.cstNone⟩
  | .bool _=>some ⟨_,SE.cstBool⟩
  | .int _=>some ⟨_,SE.cstInt⟩
  | .str _=>some ⟨_,SE.cstStr⟩
  | _=>none)
 (fun x pos=>cName F S x pos)
 (fun l o r pos=>(bop (D.h pos) o).bind fun q=>(R.E S l).bind fun a=>(R.E S r).bind fun b=>some ⟨dBin q.1 a.1 b.1,SE.bin F.B a.2 b.2 q.2⟩)
 (fun o x _=>(R.E S x).bind fun a=>match o with
  | .Not=>some ⟨dNot (tVal a.1),SE.not a.2⟩
  | .USub=>some ⟨dNeg a.1,SE.neg a.2⟩
  | _=>none)
 (fun o es _=>(R.Bs S o es).bind fun a=>some ⟨a.1,SE.boolOp a.2⟩)
 (fun l os rs pos=>cCmp F R S l pos os rs)
 (fun ks vs pos=>vL (M:=fun ks=>OE C n S (.Dict ks vs pos)) ks (vL (M:=fun vs=>OE C n S (.Dict [] vs pos)) vs (pk (D.h pos) [some ⟨dNewD,SE.newD⟩,some ⟨dNewS,SE.newS⟩]) fun _ _=>none) fun _ _=>none)
 (fun es _ _=>(R.Es S es).bind fun a=>withB (Nat.ble a.1.length 1048576) fun h=>some ⟨dTup a.1,SE.tup a.2 (Nat.le_of_ble_eq_true h)⟩)
 (fun es pos=>(R.Es S es).bind fun a=>withB (Nat.ble a.1.length 1048576) fun h=>pk (D.h pos) [some ⟨dLst a.1,SE.lst a.2 (Nat.le_of_ble_eq_true h)⟩,some ⟨dNewL a.1,SE.newL a.2 (Nat.le_of_ble_eq_true h)⟩])
 (fun _ _ _ _=>none)
 (fun v i pos=>orO (cSub D R S v i pos) (vE (M:=fun i=>OE C n S (.Subscript v i pos)) i (fun _=>none) (fun _ _ _=>none) (fun _ _=>none) (fun _ _ _ _=>none) (fun _ _ _=>none) (fun _ _ _=>none) (fun _ _ _ _=>none) (fun _ _ _=>none) (fun _ _ _=>none) (fun _ _=>none)
  (fun lo hi st p=>vO (M:=fun st=>OE C n S (.Subscript v (.Slice lo hi st p) pos)) st ((R.E S v).bind fun a=>(cP R S lo).bind fun b=>(cP R S hi).bind fun c=>some ⟨dSl a.1 b.1 c.1,SE.slc a.2 b.2 c.2 fun _ _=>rfl⟩)
   fun st=>(R.E S v).bind fun a=>(R.E S st).bind fun k=>vO (M:=fun lo=>OE C n S (.Subscript v (.Slice lo hi (some st) p) pos)) lo (vO (M:=fun hi=>OE C n S (.Subscript v (.Slice none hi (some st) p) pos)) hi (some ⟨dRev a.1 (some k.1),SE.rev a.2 (SP.some k.2) fun _ _=>rfl⟩) fun _=>none) fun _=>none
   ) (fun _ _ _=>none) (fun _ _ _=>none) (fun _ _ _ _=>none) fun _ _ _ _=>none))
 (fun _ _ _=>none)
 (fun f es ks pos=>vL (M:=fun ks=>OE C n S (.Call f es ks pos)) ks (vE (M:=fun f=>OE C n S (.Call f es [] pos)) f (fun _=>none) (fun _ _ _=>none) (fun x p=>vL (M:=fun es=>OE C n S (.Call (.Name x p) es [] pos)) es none fun e es=>cCallN F hF₀ R S x p pos e es)
  (fun _ _ _ _=>none) (fun _ _ _=>none) (fun _ _ _=>none) (fun _ _ _ _=>none) (fun _ _ _=>none) (fun _ _ _=>none) (fun _ _=>none) (fun _ _ _ _=>none) (fun _ _ _=>none) (fun o m ap=>cCallA F hF₀ R S o m ap pos es) (fun _ _ _ _=>none) fun _ _ _ _=>none) fun _ _=>none)
 fun elt gs scope pos=>vGen (M:=fun gs=>OE C n S (.ListComp elt gs scope pos)) gs (fun _=>none) fun x p iter ifs=>cComp D R S elt iter ifs scope x pos fun _ k it d t hi cs he ht hS hs=>some ⟨dComp d t k it,SE.comp hi cs he ht hS hs⟩
noncomputable def cNs (S:Sco) (es:List Expr):Option {is:List Nat // TNs S es is}:=List.rec (some ⟨[],.nil⟩) (fun e es ih=>vNam (M:=fun e=>Option {is:List Nat // TNs S (e::es) is}) e (fun _=>none) fun x p=>withO (lkS S.Γ x) fun i h=>ih.bind fun q=>some ⟨i::q.1,.cons (Zjm h) q.2⟩) es
noncomputable def vTg {M:Expr→Type} (e:Expr) (oth:∀ e,M e) (nam:∀ x p,M (.Name x p)) (tup:∀ es k p,M (.Tuple es k p)) (sub:∀ v i p,M (.Subscript v i p)) (att:∀ o m p,M (.Attribute o m p)):M e:=vE e oth (fun _ _ _=>oth _) nam (fun _ _ _ _=>oth _) (fun _ _ _=>oth _) (fun _ _ _=>oth _) (fun _ _ _ _=>oth _) (fun _ _ _=>oth _) tup (fun _ _=>oth _) (fun _ _ _ _=>oth _) sub att (fun _ _ _ _=>oth _) fun _ _ _ _=>oth _
noncomputable def cTg (C:Cx) (S:Sco) (t:Expr):Option {g:Tg // TG C S t g∧LG t}:=vTg (M:=fun t=>Option {g:Tg // TG C S t g∧LG t}) t (fun _=>none)
 (fun x _=>withO (lkS S.Γ x) fun i h=>some ⟨.one i,TG.one (Zjm h),LG.name⟩)
 (fun _ _ _=>none)
 (fun _ _ _=>none) fun _ _ _=>none
noncomputable def cAsg (F:CkF C K mg mb D) (R:Rec C n) (S:Sco) (t e:Expr) (pos:Pos):OS C n S (.Assign [t] e pos):=vTg (M:=fun t=>OS C n S (.Assign [t] e pos)) t (fun _=>none)
 (fun x p=>withO (lkS S.Γ x) fun i h =>
  (plE e).bind fun hp=>(R.E S e).bind fun a=>some ⟨sAsg i a.1,SS.asg a.2 (Zjm h) fun _=>hp.1.swap _ _ _⟩
  )
 (fun es k tp=>(plE e).bind fun hp=>(siE e).bind fun hw=>withB S.calm fun hS=>(R.E S e).bind fun c=>pk (D.h pos) [(cNs S es).bind fun q=>some ⟨sAsgT (.many q.1) c.1,SS.asgT (TG.many q.2) c.2 hS (fun _=>hp.1.sole _ _) fun _=>hw.1.nt _ _ _ _⟩
  ])
 (fun o i _=>(plE e).bind fun hp=>(R.E S o).bind fun a=>(R.E S i).bind fun b=>(R.E S e).bind fun c=>pk (D.h pos) [some ⟨sStore a.1 b.1 c.1,SS.store a.2 b.2 c.2 fun _=>hp.1.swap _ _ _⟩,
  some ⟨sPutI a.1 b.1 c.1,SS.putI a.2 b.2 c.2 fun _=>hp.1.swap _ _ _⟩
  ,some ⟨sPutT a.1 b.1 c.1,SS.putT a.2 b.2 c.2 fun _=>hp.1.swap _ _ _⟩
  ])
 fun _ _ _=>none
noncomputable def cTry (F:CkF C K mg mb D) (R:Rec C n) (S:Sco) (e:Expr) (x:Str) (nm:Option Str) (b₀:Stmt) (body:List Stmt) (epos np hpos pos:Pos):OS C n S (.Try [.Expr e epos] [.ExceptHandler (some (.Name x np)) nm (b₀::body) hpos] [] [] pos) :=
 (plE e).bind fun hp=>withB (okN x) fun hn=>withB (memS x S.G) fun hg=>withO (lkS D.tr x) fun cs hc=>(R.E S e).bind fun a=>(R.Ss { S with calm:=false } (b₀::body)).bind fun d=>vO (M:=fun nm=>OS C n S (.Try [.Expr e epos] [.ExceptHandler (some (.Name x np)) nm (b₀::body) hpos] [] [] pos)) nm
  none
  fun nme=>withO (lkS S.Γ nme) fun i hi=>withB (memS nme S.L) fun hL=>some ⟨sTry a.1 cs i d.1,(F.tr _ (Zjn hc)).elim fun _ h=>SS.try_ F.B F.kin a.2 (Zjo hg) h.1 h.2 (Zjm hi) (Zjo hL) d.2 (okN_d hn) fun _=>hp.1.swap _ _ _⟩
noncomputable def cRaise (F:CkF C K mg mb D) (R:Rec C n) (S:Sco) (e:Expr) (pos:Pos):OS C n S (.Raise (some e) none pos):=withB S.calm fun hS=>pk (D.h pos) [
 vE (M:=fun e=>OS C n S (.Raise (some e) none pos)) e (fun _=>none) (fun _ _ _=>none) (fun _ _=>none) (fun _ _ _ _=>none) (fun _ _ _=>none) (fun _ _ _=>none) (fun _ _ _ _=>none) (fun _ _ _=>none) (fun _ _ _=>none) (fun _ _=>none) (fun _ _ _ _=>none) (fun _ _ _=>none) (fun _ _ _=>none)
  (fun f es ks cp=>vNam (M:=fun f=>OS C n S (.Raise (some (.Call f es ks cp)) none pos)) f (fun _=>none) fun x p=>match es,ks with
   | [e],[]=>withB (Za1 e) fun hs=>withB (okN x) fun hn=>withB (memS x S.G) fun hg=>withO (lkS D.own x) fun c hc=>(R.E S e).bind fun a=>some ⟨sRaise c a.1,SS.raise F.B (F.own _ (Zjn hc)) (Zjo hg) a.2 hS (okN_d hn) (fun _=>Za2 hs) fun _=>Za3 (by rw [List.all_cons,hs]; rfl)⟩
   | _,_=>none) fun _ _ _ _=>none
 ]
noncomputable def vS {M:Stmt→Type} (st:Stmt) (oth:∀ st,M st) (ret:∀ v p,M (.Return v p)) (iff:∀ t b o p,M (.If t b o p)) (exp:∀ e p,M (.Expr e p)) (whi:∀ t b o p,M (.While t b o p)) (fo:∀ t i b o p,M (.For t i b o p)) (asg:∀ t e p,M (.Assign t e p)) (rai:∀ e c p,M (.Raise e c p)) (tr:∀ b h o f p,M (.Try b h o f p)):M st:=match st with
 | .Return v p=>ret v p
 | .If t b o p=>iff t b o p
 | .Expr e p=>exp e p
 | .While t b o p=>whi t b o p
 | .For t i b o p=>fo t i b o p
 | .Assign t e p=>asg t e p
 | .Raise e c p=>rai e c p
 | .Try b h o f p=>tr b h o f p
 | st=>oth st
noncomputable def cS (F:CkF C K mg mb D) (R:Rec C n) (S:Sco) (st:Stmt):OS C n S st:=vS (M:=OS C n S) st (fun _=>none)
 (fun v p=>vO (M:=fun v=>OS C n S (.Return v p)) v (some ⟨_,SS.ret0⟩) fun e=>(R.E S e).bind fun a=>some ⟨sRet a.1,SS.ret a.2⟩)
 (fun t b o _=>(R.T S t).bind fun c=>(R.Ss S b).bind fun x=>(R.Ss S o).bind fun y=>some ⟨sIf c.1 x.1 y.1,SS.ifs c.2 x.2 y.2⟩)
 (fun e _=>(plE e).bind fun h=>(R.E S e).bind fun a=>some ⟨sExpr a.1,SS.expr a.2 fun _=>h.1.swap _ _ _⟩)
 (fun t b o p=>vL (M:=fun o=>OS C n S (.While t b o p)) o ((R.T S t).bind fun c=>(R.Ss S b).bind fun x=>some ⟨sWhile c.1 x.1,SS.while_ c.2 x.2⟩) fun _ _=>none)
 (fun t i b o p=>vL (M:=fun o=>OS C n S (.For t i b o p)) o (withB S.calm fun hS=>(plE i).bind fun hp=>(cTg C S t).bind fun g=>(R.E S i).bind fun a=>(R.Ss S b).bind fun x=>some ⟨sFor g.1 a.1 x.1,SS.for_ g.2.1 g.2.2 a.2 x.2 hS hp.1.fold⟩) fun _ _=>none)
 (fun ts e p=>vL (M:=fun ts=>OS C n S (.Assign ts e p)) ts none fun t ts=>vL (M:=fun ts=>OS C n S (.Assign (t::ts) e p)) ts (cAsg F R S t e p) fun _ _=>none)
 (fun e c p=>vO (M:=fun e=>OS C n S (.Raise e c p)) e none fun e=>vO (M:=fun c=>OS C n S (.Raise (some e) c p)) c (cRaise F R S e p) fun _=>none)
 fun b h o f p=>match b,h,o,f with
  | [b],[.ExceptHandler (some t) nm (b₀::body) hpos],[],[]=>vS (M:=fun b=>OS C n S (.Try [b] [.ExceptHandler (some t) nm (b₀::body) hpos] [] [] p)) b (fun _=>none) (fun _ _=>none) (fun _ _ _ _=>none) (fun e epos=>vNam (M:=fun t=>OS C n S (.Try [.Expr e epos] [.ExceptHandler (some t) nm (b₀::body) hpos] [] [] p)) t (fun _=>none) fun x np=>cTry F R S e x nm b₀ body epos np hpos p) (fun _ _ _ _=>none) (fun _ _ _ _ _=>none) (fun _ _ _=>none) (fun _ _ _=>none) fun _ _ _ _ _=>none
  | _,_,_,_=>none
noncomputable def cSs (R:Rec C n) (S:Sco) (sts:List Stmt):OSs C n S sts:=vL (M:=OSs C n S) sts (some ⟨sNil,SSs.nil⟩) fun st r=>(R.St S st).bind fun a=>vL (M:=fun r=>OSs C n S (st::r)) r (some ⟨a.1,SSs.one a.2⟩) fun st' r=>(R.Ss S (st'::r)).bind fun b=>some ⟨sSeq a.1 b.1,SSs.cons a.2 b.2⟩
noncomputable def cRec (F:CkF C K mg mb D) (hF₀:FS C Φ n) (k:Nat):Rec C n:=Nat.rec ⟨fun _ _=>none,fun _ _=>none,fun _ _=>none,fun _ _ _=>none,fun _ _ _=>none,fun _ _=>none,fun _ _=>none⟩
 (fun _ R=>⟨cE F hF₀ R,cEs R,cT F R,cBs R,cTs R,cS F R,cSs R⟩) k
noncomputable def chk (F:CkF C K mg mb D) (hF₀:FS C Φ n) (S:Sco) (b:List Stmt):Option DS:=((cRec F hF₀ 200).Ss S b).map (·.1)
theorem chk_ok {F:CkF C K mg mb D} {hF₀:FS C Φ n} {S:Sco} {b:List Stmt} {d:DS} (h:chk F hF₀ S b=some d):SSs C (n+1) S b d:=by
 unfold chk at h
 cases q:(cRec F hF₀ 200).Ss S b with
 | none=>rw [q] at h; injection h
 | some a=>rw [q] at h; obtain rfl:=inj h; exact a.2
abbrev bmx:List Value:=[.type "ValueError",.type "Exception",.type "BaseException",.type "object"]
noncomputable def ckK (K:Frag) (fv cv:Nat→Addr) (D:Ck):Bool :=
 D.gf.all (fun q=>isGlob K q.1&&Nat.beq (addrOf K q.1) (fv q.2))&&(D.cl.all (fun q=>isGlob K q.1&&Nat.beq (addrOf K q.1) (cv q.2))&&(D.gi.all (fun q=>Zd0 K q.1 q.2)&&(D.gb.all (fun q=>Zdy K q.1) &&
 (D.own.all (fun q=>isGlob K q.1&&(Nat.beq (addrOf K q.1) (cv q.2)&&excIn K (cv q.2) bmx "ValueError.__new__")) &&
 true))))
noncomputable def ckC (D:Ck):Bool:=D.gb.all fun q=>!(Fast.sEq q.1 "__name__")&&decide (bootBuiltins q.1=some q.2.val)
theorem an1 {a b:Bool} (h:(a&&b)=true):a=true:=(Bool.and_eq_true_iff.mp h).1
theorem an2 {a b:Bool} (h:(a&&b)=true):b=true:=(Bool.and_eq_true_iff.mp h).2
theorem Zjt (X:K.In C.base) (g:C.base.Ns mainGlobals mg) {x:Str} {a:Addr} (h:(isGlob K x&&Nat.beq (addrOf K x) a)=true):mg x=some (.ref a):=by
 rw [← Nat.eq_of_beq_eq_true (an2 h)]; exact Zdx X g (an1 h)
theorem Zju {x:Str} (h:isGlob K x=true):nsIn K mainGlobals x=some (some (.ref (addrOf K x))):=by
 unfold isGlob at h
 unfold addrOf
 split at h
 ·rename_i a q
  first
   | exact q
   | (rw [q])
 ·injection h
theorem blt_at {p:Program} {loose:List Str} {h:Heap} (T:TopRead p loose mg mb h) {x:Str} {b:BI} (e:(!(Fast.sEq x "__name__")&&decide (bootBuiltins x=some b.val))=true):mb x=some b.val :=
 (T.builtins x fun q=>by have:=an1 e; rw [Fast.sEq_iff.mpr q] at this; injection this).trans (of_decide_eq_true (an2 e))
theorem own_at {p:Program} {loose:List Str} {h:Heap} (X:K.In h) (T:TopRead p loose mg mb h) {x:Str} {a:Addr} (e:(isGlob K x&&(Nat.beq (addrOf K x) a&&excIn K a bmx "ValueError.__new__"))=true):OwnCls x a bmx "ValueError.__new__" mg h :=
 own_of_in X T (by rw [← Nat.eq_of_beq_eq_true (an1 (an2 e))]; exact Zju (an1 e)) (an2 (an2 e))
theorem ckF_of {p:Program} {loose:List Str} (X:K.In C.base) (B:Base C mg mb) (T:TopRead p loose mg mb C.base) (h:ckK K C.fnv C.clv D=true) (hc:ckC D=true)
  (tr:∀ q∈D.tr,∃ k,mg q.1=some (.ref (C.clv k))∧∀ c∈q.2,exmOne K (.ref (C.clv c)) (.ref (C.clv k))=some true)
  (x1:∀ q∈D.x1,∀ c b,tab q.2.2 c=some b→excK K (C.clv c)=true∧kitOne K (.ref (C.clv c)) (q.2.1.val C)=some b) (xt:∀ q∈D.xt,∀ c b,tab q.2.2 c=some b→excK K (C.clv c)=true∧kitAny K (.ref (C.clv c)) (q.2.1.map (CT.val C))=some b)
  : CkF C K mg mb D:=by
 have r2:=an2 h
 have r3:=an2 r2
 have r4:=an2 r3
 have r5:=an2 r4
 exact ⟨B,X,fun q hq hd _ _ _ hx=>SE.glb B hx (Zjt X B.g (List.all_eq_true.mp (an1 h) q hq)) (fun _ _=>.fn _) (okN_d hd),
  fun q hq hd _ _ _ hx=>(Zd1 X B.g (List.all_eq_true.mp (an1 r3) q hq)).elim fun _ h=>SE.glb B hx h (fun _ _=>.int _ _) (okN_d hd),
  fun q hq hd _ _ _ hx=>SE.blt B hx (Zdz X B.g (List.all_eq_true.mp (an1 r4) q hq)) (blt_at T (List.all_eq_true.mp hc q hq)) (okN_d hd),
  fun q hq hd _ _ _ hx=>SE.glb B hx (Zjt X B.g (List.all_eq_true.mp (an1 r2) q hq)) (fun _ _=>.cls _) (okN_d hd),
  fun q hq=>own_at X T (List.all_eq_true.mp (an1 r5) q hq),
  tr
  ,x1,xt
  ⟩
structure FD where
 S:Sco
 b:List Stmt
 k:Fns→DS
 ps:List Str
 z:Bool
 sc:Scope
noncomputable def FD.f (q:FD):Fun:=⟨q.ps.length,q.z,q.k⟩
noncomputable def fdT (K:Frag) (a:Addr):=(isFd K a,(fdOf K a).body,(fdOf K a).scope,(fdOf K a).closure,codeIn K (fdOf K a).code (fdOf K a).qualname,(fdOf K a).globals,(fdOf K a).builtins)
noncomputable def fdW (q:FD):Bool×FuncBody×Scope×List (Str×Addr)×Bool×Addr×Addr:=(true,.stmts q.b,q.sc,[],true,mainGlobals,builtinsNs)
noncomputable def BindOk (K:Frag) (q:FD×Addr):Prop:=∀ vals,vals.length=q.1.ps.length→bindArgs (fdOf K q.2) ⟨vals,[]⟩=pure (q.1.ps.zip vals)
noncomputable def BindN (K:Frag) (l:List (FD×Addr)) (m:Nat):Prop:=∀ vals:List Value,vals.length=m→(l.filter fun q=>Nat.beq q.1.ps.length m).map (fun q=>bindArgs (fdOf K q.2) ⟨vals,[]⟩)=(l.filter fun q=>Nat.beq q.1.ps.length m).map fun q=>pure (q.1.ps.zip vals)
theorem Zjv {l:List (FD×Addr)} {ms:List Nat} (h:∀ m∈ms,BindN K l m) (hm:l.all (fun q=>ms.contains q.1.ps.length)=true) (q:FD×Addr) (hq:q∈l):BindOk K q:=fun vals e =>
 List.map_inj_left.mp (h _ (List.contains_iff_mem.mp (List.all_eq_true.mp hm q hq)) vals e) q (List.mem_filter.mpr ⟨hq,Nat.beq_refl _⟩)
theorem Zjw {fl:List FD} {as:List Addr} (X:K.In C.base) (hc:C.fnv=fun k=>as.getD k 0) (hl:fl.length=as.length) (h1:(fl.zip as).map (fun q=>fdT K q.2)=(fl.zip as).map fun q=>fdW q.1) (h2:∀ q∈fl.zip as,BindOk K q) (h3:fl.all (fun q=>Zdt q.sc q.ps q.S)=true)
  (hs:∀ n Φ,FS C Φ n→∀ q∈fl,SSs C (n+1) q.S q.b (q.k Φ)) (k:Nat) (f:Fun) (hk:(fl[k]?).map FD.f=some f):DefOk C k f:=by
 cases hq:fl[k]? with
 | none=>rw [hq] at hk; injection hk
 | some q =>
  rw [hq] at hk
  obtain rfl:=inj hk
  have hlt:k < as.length:=by rw [← hl]; exact (List.getElem?_eq_some_iff.mp hq).1
  have e:C.fnv k=as[k]:=by rw [hc]; show as.getD k 0=_; rw [List.getD_eq_getElem?_getD,List.getElem?_eq_getElem hlt]; rfl
  have hz:(q,C.fnv k)∈fl.zip as:=List.mem_of_getElem? (i:=k) (List.getElem?_zip_eq_some.mpr ⟨hq,by rw [e]; exact List.getElem?_eq_getElem hlt⟩)
  have t:fdT K (C.fnv k)=fdW q:=List.map_inj_left.mp h1 _ hz
  have hm:=List.mem_of_getElem? hq
  exact DefOk.of' K X q.b q.sc q.ps q.S (congrArg (·.1) t) (congrArg (·.2.1) t) (congrArg (·.2.2.1) t) (congrArg (·.2.2.2.1) t) (congrArg (·.2.2.2.2.1) t) (congrArg (·.2.2.2.2.2.1) t) (congrArg (·.2.2.2.2.2.2) t) rfl (List.all_eq_true.mp h3 q hm) (h2 _ hz) fun n Φ hF=>hs n Φ hF q hm
theorem al0 {α:Type} {P:α→Prop}:∀ q∈([]:List α),P q:=fun _ h=>nomatch h
theorem alc {α:Type} {P:α→Prop} {a:α} {l:List α} (h:P a) (r:∀ q∈l,P q):∀ q∈a::l,P q:=List.forall_mem_cons.mpr ⟨h,r⟩
end
end Mine
namespace Mine
open PySem PySem.W PyProof.Rows PySem.Calls PySem.SeqAt
set_option Elab.async false
set_option maxRecDepth 100000
set_option maxHeartbeats 4000000
set_option linter.unusedVariables false
noncomputable def Zjx:Nat:=0
noncomputable def Zjy:Nat:=1
noncomputable def Zjz:Nat:=2
noncomputable def Zj0:Nat:=3
noncomputable def Zj1:Nat:=4
noncomputable def i_done:Nat:=5
noncomputable def Zj2:Nat:=6
noncomputable def Zj3:Nat:=7
noncomputable def Zj4:Nat:=8
noncomputable def Zj5:Nat:=9
noncomputable def Zj6:Nat:=10
noncomputable def Zj7:Nat:=11
noncomputable def Zj8:Nat:=12
noncomputable def Zj9:Nat:=13
noncomputable def Zka:Nat:=14
noncomputable def Zkb:Nat:=15
noncomputable def Zkc:Nat:=16
noncomputable def Zkd:Nat:=17
noncomputable def Zke:Nat:=18
noncomputable def Zkf:Nat:=19
noncomputable def Zkg:Nat:=20
noncomputable def Zkh:Nat:=21
noncomputable def Zki:Nat:=22
noncomputable def Zkj:Nat:=23
noncomputable def Zkk:Nat:=24
noncomputable def Zkl:Nat:=25
noncomputable def Zkm:Nat:=26
noncomputable def Zkn:Nat:=27
noncomputable def Zko:Nat:=28
noncomputable def Zkp:Nat:=29
noncomputable def Zkq:Nat:=30
noncomputable def Zkr:Nat:=31
noncomputable def Zks:Nat:=32
noncomputable def Zkt:Nat:=33
noncomputable def Zku:Nat:=34
noncomputable def Zkv:Nat:=35
noncomputable def i_law:Nat:=36
section
variable {C:Cx} {K:PySem.W.Frag} {mg mb:Str→Option Value} {n:Nat} {Φ:Fns}
noncomputable def Zkw:Sco:={ Γ:=[("thing",0),("least",1),("most",2)],G:=["isinstance","bool","int"],K:=[],L:=[] }
noncomputable def Zkx (Φ:Fns):DS :=
 sRet (dAnd (dCall Φ (dCst (.bi .isinstance)) [dLoc 0,dCst (.bi .int)]) (dAnd (dNot (tVal (dCall Φ (dCst (.bi .isinstance)) [dLoc 0,dCst (.bi .bool)]))) (dCmp2 .le .le (dLoc 1) (dLoc 0) (dLoc 2))))
noncomputable def Zky:Sco:={ Γ:=[("row",0),("boxes",1),("most",2),("many",3)],G:=["isinstance","str","len","tuple","is_among"],K:=[],L:=[] }
noncomputable def Zkz (Φ:Fns):DS :=
 sRet (dAnd (dCmp .eq (dSub (dLoc 0) (dCst (.int 0))) (dCst (.str "ask"))) (dCall Φ (dCst (.fn Zjx)) [dSub (dLoc 0) (dCst (.int 2)),dCst (.int 0),dBin .sub (dLoc 3) (dCst (.int 1))]))
noncomputable def Zk0 (Φ:Fns):DS :=
 sSeq (sIf (tVal (dCmp .eq (dSub (dLoc 0) (dCst (.int 0))) (dCst (.str "copy")))) (sRet (dCall Φ (dCst (.fn Zjx)) [dSub (dLoc 0) (dCst (.int 2)),dCst (.int 0),dBin .sub (dLoc 1) (dCst (.int 1))])) sNil) (Zkz Φ)
noncomputable def Zk1 (Φ:Fns):DS :=
 sSeq (sIf (tVal (dCmp .eq (dSub (dLoc 0) (dCst (.int 0))) (dCst (.str "put")))) (sRet (dCall Φ (dCst (.fn Zjx)) [dSub (dLoc 0) (dCst (.int 2)),dCst (.int 0),dLoc 2])) sNil) (Zk0 Φ)
noncomputable def Zk2 (Φ:Fns):DS :=
 sSeq (sIf (tOr (tVal (dCmp .ne (dCall Φ (dCst (.bi .len)) [dLoc 0]) (dCst (.int 3)))) (tNot (tVal (dCall Φ (dCst (.fn Zjx)) [dSub (dLoc 0) (dCst (.int 1)),dCst (.int 0),dBin .sub (dLoc 1) (dCst (.int 1))])))) (sRet (dCst (.bool false))) sNil) (Zk1 Φ)
noncomputable def Zk3 (Φ:Fns):DS :=
 sSeq (sIf (tOr (tVal (dCmp .eq (dSub (dLoc 0) (dCst (.int 0))) (dCst (.str "more")))) (tVal (dCmp .eq (dSub (dLoc 0) (dCst (.int 0))) (dCst (.str "tell"))))) (sRet (dAnd (dCmp .eq (dCall Φ (dCst (.bi .len)) [dLoc 0]) (dCst (.int 2))) (dCall Φ (dCst (.fn Zjx)) [dSub (dLoc 0) (dCst (.int 1)),dCst (.int 0),dBin .sub (dLoc 1) (dCst (.int 1))]))) sNil) (Zk2 Φ)
noncomputable def Zk4 (Φ:Fns):DS :=
 sSeq (sIf (tVal (dCmp .eq (dSub (dLoc 0) (dCst (.int 0))) (dCst (.str "go")))) (sRet (dAnd (dCmp .eq (dCall Φ (dCst (.bi .len)) [dLoc 0]) (dCst (.int 2))) (dCall Φ (dCst (.fn Zjx)) [dSub (dLoc 0) (dCst (.int 1)),dCst (.int 0),dBin .sub (dLoc 3) (dCst (.int 1))]))) sNil) (Zk3 Φ)
noncomputable def Zk5 (Φ:Fns):DS :=
 sSeq (sIf (tVal (dCmp .eq (dSub (dLoc 0) (dCst (.int 0))) (dCst (.str "stop")))) (sRet (dCmp .eq (dCall Φ (dCst (.bi .len)) [dLoc 0]) (dCst (.int 1)))) sNil) (Zk4 Φ)
noncomputable def Zk6 (Φ:Fns):DS :=
 sSeq (sIf (tOr (tNot (tVal (dCall Φ (dCst (.bi .isinstance)) [dLoc 0,dCst (.bi .tuple)]))) (tOr (tNot (tVal (dCmp2 .le .le (dCst (.int 1)) (dCall Φ (dCst (.bi .len)) [dLoc 0]) (dCst (.int 3))))) (tNot (tVal (dCall Φ (dCst (.bi .isinstance)) [dSub (dLoc 0) (dCst (.int 0)),dCst (.bi .str)]))))) (sRet (dCst (.bool false))) sNil) (Zk5 Φ)
noncomputable def Zk7:Sco:={ Γ:=[("thing",0),("boxes",1),("most",2),("rows",3)],G:=["len","isinstance","tuple","is_among","MOST_NUMBER","MOST_BOXES","MOST_ROWS","list","all"],K:=["boxes","most","rows"],L:=[] }
noncomputable def Zk8:Sco:={ Γ:=[("row",4),("boxes",1),("most",2),("rows",3)],G:=["is_row","len"],K:=["boxes","most","rows"],L:=[] }
noncomputable def Zk9 (Φ:Fns):DS :=
 sRet (dOr (dCmp .eq (dSub (dSub (dLoc 3) (dNeg (dCst (.int 1)))) (dCst (.int 0))) (dCst (.str "go"))) (dCmp .eq (dSub (dSub (dLoc 3) (dNeg (dCst (.int 1)))) (dCst (.int 0))) (dCst (.str "stop"))))
noncomputable def Zla (Φ:Fns):DS :=
 sSeq (sIf (tNot (tVal (dCall Φ (dCst (.bi .all)) [dComp (dCall Φ (dCst (.fn Zjy)) [dLoc 4,dLoc 1,dLoc 2,dCall Φ (dCst (.bi .len)) [dLoc 3]]) tTrue 4 (dLoc 3)]))) (sRet (dCst (.bool false))) sNil) (Zk9 Φ)
noncomputable def Zlb (Φ:Fns):DS :=
 sSeq (sIf (tOr (tNot (tVal (dCall Φ (dCst (.bi .isinstance)) [dLoc 3,dCst (.bi .list)]))) (tNot (tVal (dCmp2 .le .le (dCst (.int 1)) (dCall Φ (dCst (.bi .len)) [dLoc 3]) (dCst (.int 20)))))) (sRet (dCst (.bool false))) sNil) (Zla Φ)
noncomputable def Zlc (Φ:Fns):DS :=
 sSeq (sIf (tOr (tNot (tVal (dCall Φ (dCst (.fn Zjx)) [dLoc 1,dCst (.int 0),dCst (.int 3)]))) (tNot (tVal (dCall Φ (dCst (.fn Zjx)) [dLoc 2,dCst (.int 1),dCst (.int 4)])))) (sRet (dCst (.bool false))) sNil) (Zlb Φ)
noncomputable def Zld (Φ:Fns):DS :=
 sSeq (sIf (tOr (tNot (tVal (dCall Φ (dCst (.bi .isinstance)) [dLoc 0,dCst (.bi .tuple)]))) (tVal (dCmp .ne (dCall Φ (dCst (.bi .len)) [dLoc 0]) (dCst (.int 3))))) (sRet (dCst (.bool false))) sNil) (sSeq (sAsgT (.many [1,2,3]) (dLoc 0)) (Zlc Φ))
noncomputable def Zle:Sco:={ Γ:=[("thing",0)],G:=["is_program","BadProgram"],K:=[],L:=[] }
noncomputable def Zlf (Φ:Fns):DS :=
 sSeq (sIf (tNot (tVal (dCall Φ (dCst (.fn Zjz)) [dLoc 0]))) (sRaise 1 (dCst (.str "no program"))) sNil) (sRet (dLoc 0))
noncomputable def Zlg:Sco:={ Γ:=[("numbers",0),("box",1),("number",2)],G:=[],K:=[],L:=[] }
noncomputable def Zlh (Φ:Fns):DS :=
 sRet (dBin .add (dBin .add (dSl (dLoc 0) none (some (dLoc 1))) (dTup [dLoc 2])) (dSl (dLoc 0) (some (dBin .add (dLoc 1) (dCst (.int 1)))) none))
noncomputable def S_done:Sco:={ Γ:=[("program",0),("state",1),("place",2),("numbers",3),("row",4),("number",5)],G:=["with_number"],K:=[],L:=[] }
noncomputable def Zli (Φ:Fns):DS :=
 sRet (dTup [dTup [dBin .add (dLoc 2) (dCst (.int 1)),dLoc 3],dCst .none])
noncomputable def Zlj (Φ:Fns):DS :=
 sRet (dTup [dTup [dBin .add (dLoc 2) (dCst (.int 1)),dCall Φ (dCst (.fn Zj1)) [dLoc 3,dSub (dLoc 4) (dCst (.int 1)),dLoc 5]],dCst .none])
noncomputable def Zlk (Φ:Fns):DS :=
 sSeq (sIf (tVal (dCmp .gt (dLoc 5) (dSub (dLoc 0) (dCst (.int 1))))) (sAsg 5 (dCst (.int 0))) sNil) (Zlj Φ)
noncomputable def Zll (Φ:Fns):DS :=
 sSeq (sAsg 5 (dBin .add (dSub (dLoc 3) (dSub (dLoc 4) (dCst (.int 1)))) (dCst (.int 1)))) (Zlk Φ)
noncomputable def Zlm (Φ:Fns):DS :=
 sSeq (sIf (tVal (dCmp .eq (dSub (dLoc 4) (dCst (.int 0))) (dCst (.str "copy")))) (sRet (dTup [dTup [dBin .add (dLoc 2) (dCst (.int 1)),dCall Φ (dCst (.fn Zj1)) [dLoc 3,dSub (dLoc 4) (dCst (.int 1)),dSub (dLoc 3) (dSub (dLoc 4) (dCst (.int 2)))]],dCst .none])) sNil) (Zll Φ)
noncomputable def Zln (Φ:Fns):DS :=
 sSeq (sIf (tVal (dCmp .eq (dSub (dLoc 4) (dCst (.int 0))) (dCst (.str "put")))) (sRet (dTup [dTup [dBin .add (dLoc 2) (dCst (.int 1)),dCall Φ (dCst (.fn Zj1)) [dLoc 3,dSub (dLoc 4) (dCst (.int 1)),dSub (dLoc 4) (dCst (.int 2))]],dCst .none])) sNil) (Zlm Φ)
noncomputable def Zlo (Φ:Fns):DS :=
 sSeq (sIf (tVal (dCmp .eq (dSub (dLoc 4) (dCst (.int 0))) (dCst (.str "tell")))) (sRet (dTup [dTup [dBin .add (dLoc 2) (dCst (.int 1)),dLoc 3],dSub (dLoc 3) (dSub (dLoc 4) (dCst (.int 1)))])) sNil) (Zln Φ)
noncomputable def Zlp (Φ:Fns):DS :=
 sSeq (sIf (tVal (dCmp .eq (dSub (dLoc 4) (dCst (.int 0))) (dCst (.str "ask")))) (sSeq (sIf (tVal (dCmp .eq (dSub (dLoc 3) (dSub (dLoc 4) (dCst (.int 1)))) (dCst (.int 0)))) (sRet (dTup [dTup [dSub (dLoc 4) (dCst (.int 2)),dLoc 3],dCst .none])) sNil) (Zli Φ)) sNil) (Zlo Φ)
noncomputable def Zlq (Φ:Fns):DS :=
 sSeq (sIf (tVal (dCmp .eq (dSub (dLoc 4) (dCst (.int 0))) (dCst (.str "go")))) (sRet (dTup [dTup [dSub (dLoc 4) (dCst (.int 1)),dLoc 3],dCst .none])) sNil) (Zlp Φ)
noncomputable def Zlr (Φ:Fns):DS :=
 sSeq (sIf (tVal (dCmp .eq (dSub (dLoc 4) (dCst (.int 0))) (dCst (.str "stop")))) (sRet (dTup [dCst .none,dCst .none])) sNil) (Zlq Φ)
noncomputable def Zls (Φ:Fns):DS :=
 sSeq (sAsg 4 (dSub (dSub (dLoc 0) (dCst (.int 2))) (dLoc 2))) (Zlr Φ)
noncomputable def k_done (Φ:Fns):DS :=
 sSeq (sAsgT (.many [2,3]) (dLoc 1)) (Zls Φ)
noncomputable def Zlt:Sco:={ Γ:=[("two",0),("thing",1)],G:=["is_among"],K:=[],L:=[] }
noncomputable def Zlu (Φ:Fns):DS :=
 sRet (dOr (dCmp .is (dLoc 1) (dCst .none)) (dCall Φ (dCst (.fn Zjx)) [dLoc 1,dCst (.int 0),dSub (dLoc 0) (dCst (.int 1))]))
noncomputable def Zlv:Sco:={ Γ:=[("one",0),("two",1),("rule",2)],G:=["isinstance","str","len","tuple","is_number","is_among","all"],K:=["two"],L:=[] }
noncomputable def Zlw:Sco:={ Γ:=[("number",3),("two",1)],G:=["is_number"],K:=["two"],L:=[] }
noncomputable def Zlx (Φ:Fns):DS :=
 sRet (dCall Φ (dCst (.bi .all)) [dComp (dCall Φ (dCst (.fn Zj2)) [dLoc 1,dLoc 3]) tTrue 3 (dSub (dLoc 2) (dCst (.int 2)))])
noncomputable def Zly (Φ:Fns):DS :=
 sSeq (sIf (tOr (tNot (tVal (dCall Φ (dCst (.bi .isinstance)) [dSub (dLoc 2) (dCst (.int 2)),dCst (.bi .tuple)]))) (tVal (dCmp .ne (dCall Φ (dCst (.bi .len)) [dSub (dLoc 2) (dCst (.int 2))]) (dBin .add (dSub (dLoc 0) (dCst (.int 1))) (dCst (.int 1)))))) (sRet (dCst (.bool false))) sNil) (Zlx Φ)
noncomputable def Zlz (Φ:Fns):DS :=
 sSeq (sIf (tOr (tVal (dCmp .ne (dSub (dLoc 2) (dCst (.int 0))) (dCst (.str "by")))) (tOr (tVal (dCmp .ne (dCall Φ (dCst (.bi .len)) [dLoc 2]) (dCst (.int 3)))) (tNot (tVal (dCall Φ (dCst (.fn Zjx)) [dSub (dLoc 2) (dCst (.int 1)),dCst (.int 0),dBin .sub (dSub (dLoc 0) (dCst (.int 0))) (dCst (.int 1))]))))) (sRet (dCst (.bool false))) sNil) (Zly Φ)
noncomputable def Zl0 (Φ:Fns):DS :=
 sSeq (sIf (tVal (dCmp .eq (dSub (dLoc 2) (dCst (.int 0))) (dCst (.str "is")))) (sRet (dAnd (dCmp .eq (dCall Φ (dCst (.bi .len)) [dLoc 2]) (dCst (.int 2))) (dCall Φ (dCst (.fn Zj2)) [dLoc 1,dSub (dLoc 2) (dCst (.int 1))]))) sNil) (Zlz Φ)
noncomputable def Zl1 (Φ:Fns):DS :=
 sSeq (sIf (tOr (tNot (tVal (dCall Φ (dCst (.bi .isinstance)) [dLoc 2,dCst (.bi .tuple)]))) (tOr (tVal (dCmp .lt (dCall Φ (dCst (.bi .len)) [dLoc 2]) (dCst (.int 2)))) (tNot (tVal (dCall Φ (dCst (.bi .isinstance)) [dSub (dLoc 2) (dCst (.int 0)),dCst (.bi .str)]))))) (sRet (dCst (.bool false))) sNil) (Zl0 Φ)
noncomputable def Zl2:Sco:={ Γ:=[("one",0),("two",1),("place",2)],G:=["isinstance","tuple","len","is_among","all"],K:=["one","two"],L:=[] }
noncomputable def Zl3:Sco:={ Γ:=[("rule",3),("one",0),("two",1)],G:=["is_rule"],K:=["one","two"],L:=[] }
noncomputable def Zl4 (Φ:Fns):DS :=
 sRet (dAnd (dCmp .eq (dCall Φ (dCst (.bi .len)) [dSub (dLoc 2) (dCst (.int 2))]) (dSub (dLoc 1) (dCst (.int 0)))) (dCall Φ (dCst (.bi .all)) [dComp (dCall Φ (dCst (.fn Zj3)) [dLoc 0,dLoc 1,dLoc 3]) tTrue 3 (dSub (dLoc 2) (dCst (.int 2)))]))
noncomputable def Zl5 (Φ:Fns):DS :=
 sSeq (sIf (tOr (tNot (tVal (dCall Φ (dCst (.fn Zjx)) [dSub (dLoc 2) (dCst (.int 0)),dCst (.int 0),dBin .sub (dCall Φ (dCst (.bi .len)) [dSub (dLoc 0) (dCst (.int 2))]) (dCst (.int 1))]))) (tNot (tVal (dCall Φ (dCst (.fn Zjx)) [dSub (dLoc 2) (dCst (.int 1)),dCst (.int 0),dBin .sub (dCall Φ (dCst (.bi .len)) [dSub (dLoc 1) (dCst (.int 2))]) (dCst (.int 1))])))) (sRet (dCst (.bool false))) sNil) (Zl4 Φ)
noncomputable def Zl6 (Φ:Fns):DS :=
 sSeq (sIf (tOr (tNot (tVal (dCall Φ (dCst (.bi .isinstance)) [dLoc 2,dCst (.bi .tuple)]))) (tOr (tVal (dCmp .ne (dCall Φ (dCst (.bi .len)) [dLoc 2]) (dCst (.int 3)))) (tNot (tVal (dCall Φ (dCst (.bi .isinstance)) [dSub (dLoc 2) (dCst (.int 2)),dCst (.bi .tuple)]))))) (sRet (dCst (.bool false))) sNil) (Zl5 Φ)
noncomputable def Zl7:Sco:={ Γ:=[("one",0),("two",1),("places",2),("seen",3),("place",4)],G:=["len","MOST_PLACES","isinstance","list","BadPlaces","is_place"],K:=[],L:=[] }
noncomputable def Zl8 (Φ:Fns):DS :=
 sPutI (dLoc 3) (dSub (dLoc 4) (dCst (.int 0))) (dCst (.bool true))
noncomputable def Zl9 (Φ:Fns):DS :=
 sSeq (sIf (tOr (tNot (tVal (dCall Φ (dCst (.fn Zj4)) [dLoc 0,dLoc 1,dLoc 4]))) (tVal (dHasI (dSub (dLoc 4) (dCst (.int 0))) (dLoc 3)))) (sRaise 3 (dCst (.str "no place, or one row twice"))) sNil) (Zl8 Φ)
noncomputable def Zma (Φ:Fns):DS :=
 sSeq (sFor (.one 4) (dLoc 2) (Zl9 Φ)) (sRet (dCall Φ (dCst (.bi .list)) [dLoc 2]))
noncomputable def Zmb (Φ:Fns):DS :=
 sSeq (sIf (tOr (tNot (tVal (dCall Φ (dCst (.bi .isinstance)) [dLoc 2,dCst (.bi .list)]))) (tVal (dCmp .gt (dCall Φ (dCst (.bi .len)) [dLoc 2]) (dCst (.int 20))))) (sRaise 3 (dCst (.str "a list of up to twenty places is wanted"))) sNil) (sSeq (sAsg 3 dNewD) (Zma Φ))
noncomputable def Zmc:Sco:={ Γ:=[("rule",0),("numbers",1)],G:=[],K:=[],L:=[] }
noncomputable def Zmd (Φ:Fns):DS :=
 sRet (dSub (dSub (dLoc 0) (dCst (.int 2))) (dSub (dLoc 1) (dSub (dLoc 0) (dCst (.int 1)))))
noncomputable def Zme (Φ:Fns):DS :=
 sSeq (sIf (tVal (dCmp .eq (dSub (dLoc 0) (dCst (.int 0))) (dCst (.str "is")))) (sRet (dSub (dLoc 0) (dCst (.int 1)))) sNil) (Zmd Φ)
noncomputable def Zmf:Sco:={ Γ:=[("rules",0),("numbers",1),("found",2)],G:=["tuple"],K:=["numbers"],L:=[] }
noncomputable def Zmg:Sco:={ Γ:=[("rule",3),("numbers",1)],G:=["number_by"],K:=["numbers"],L:=[] }
noncomputable def Zmh (Φ:Fns):DS :=
 sSeq (sIf (tVal (dCmp .isIn (dCst .none) (dLoc 2))) (sRet (dCst .none)) sNil) (sRet (dLoc 2))
noncomputable def Zmi (Φ:Fns):DS :=
 sSeq (sAsg 2 (dCall Φ (dCst (.bi .tuple)) [dComp (dCall Φ (dCst (.fn Zj6)) [dLoc 3,dLoc 1]) tTrue 3 (dLoc 0)])) (Zmh Φ)
noncomputable def Zmj:Sco:={ Γ:=[("places",0),("row",1),("place",2)],G:=[],K:=[],L:=[] }
noncomputable def Zmk (Φ:Fns):DS :=
 sIf (tVal (dCmp .eq (dSub (dLoc 2) (dCst (.int 0))) (dLoc 1))) (sRet (dLoc 2)) sNil
noncomputable def Zml (Φ:Fns):DS :=
 sSeq (sFor (.one 2) (dLoc 0) (Zmk Φ)) (sRet (dCst .none))
noncomputable def Zmm:Sco:={ Γ:=[("program",0),("found",1),("box",2),("longer",3),("numbers",4),("number",5)],G:=["range"],K:=[],L:=[] }
noncomputable def Zmn (Φ:Fns):DS :=
 sExpr (dMeth appM (dLoc 3) [dBin .add (dLoc 4) (dTup [dLoc 5])])
noncomputable def Zmo (Φ:Fns):DS :=
 sFor (.one 5) (dCall Φ (dCst (.bi .range)) [dBin .add (dSub (dLoc 0) (dCst (.int 1))) (dCst (.int 1))]) (Zmn Φ)
noncomputable def Zmp (Φ:Fns):DS :=
 sSeq (sFor (.one 4) (dLoc 1) (Zmo Φ)) (sAsg 1 (dLoc 3))
noncomputable def Zmq (Φ:Fns):DS :=
 sSeq (sFor (.one 2) (dCall Φ (dCst (.bi .range)) [dSub (dLoc 0) (dCst (.int 0))]) (sSeq (sAsg 3 (dNewL [])) (Zmp Φ))) (sRet (dLoc 1))
noncomputable def Zmr (Φ:Fns):DS :=
 sSeq (sAsg 1 (dNewL [dTup []])) (Zmq Φ)
noncomputable def Zms:Sco:={ Γ:=[("one",0),("places",1),("state",2),("seen",3),("many",4),("place",5)],G:=["place_at","turned","done"],K:=[],L:=[] }
noncomputable def Zmt (Φ:Fns):DS :=
 sSeq (sAsg 2 (dSub (dCall Φ (dCst (.fn i_done)) [dLoc 0,dLoc 2]) (dCst (.int 0)))) (sAsg 4 (dBin .add (dLoc 4) (dCst (.int 1))))
noncomputable def Zmu (Φ:Fns):DS :=
 sSeq (sIf (tVal (dHasT (dLoc 2) (dLoc 3))) (sRet (dTup [dCst (.str "missed"),dGetT (dLoc 3) (dLoc 2),dBin .sub (dLoc 4) (dGetT (dLoc 3) (dLoc 2))])) sNil) (sSeq (sPutT (dLoc 3) (dLoc 2) (dLoc 4)) (Zmt Φ))
noncomputable def Zmv (Φ:Fns):DS :=
 sSeq (sIf (tVal (dCmp .isNot (dLoc 5) (dCst .none))) (sSeq (sIf (tVal (dCmp .is (dCall Φ (dCst (.fn Zj7)) [dSub (dLoc 5) (dCst (.int 2)),dSub (dLoc 2) (dCst (.int 1))]) (dCst .none))) (sRet (dTup [dCst (.str "stuck"),dLoc 4])) sNil) (sRet (dTup [dCst (.str "comes"),dLoc 4]))) sNil) (Zmu Φ)
noncomputable def Zmw (Φ:Fns):DS :=
 sSeq (sWhile (tVal (dCmp .isNot (dLoc 2) (dCst .none))) (sSeq (sAsg 5 (dCall Φ (dCst (.fn Zj8)) [dLoc 1,dSub (dLoc 2) (dCst (.int 0))])) (Zmv Φ))) (sRet (dTup [dCst (.str "over"),dLoc 4]))
noncomputable def Zmx (Φ:Fns):DS :=
 sSeq (sAsg 3 dNewS) (sSeq (sAsg 4 (dCst (.int 0))) (Zmw Φ))
noncomputable def Zmy:Sco:={ Γ:=[("one",0),("places",1),("begin",2),("state",3),("seen",4),("many",5),("found",6)],G:=["meets","done"],K:=[],L:=[] }
noncomputable def Zmz (Φ:Fns):DS :=
 sSeq (sAsg 3 (dSub (dCall Φ (dCst (.fn i_done)) [dLoc 0,dLoc 3]) (dCst (.int 0)))) (sAsg 5 (dBin .add (dLoc 5) (dCst (.int 1))))
noncomputable def Zm0 (Φ:Fns):DS :=
 sSeq (sPutT (dLoc 4) (dLoc 3) (dCst (.bool true))) (Zmz Φ)
noncomputable def Zm1 (Φ:Fns):DS :=
 sSeq (sIf (tOr (tVal (dCmp .eq (dSub (dLoc 6) (dCst (.int 0))) (dCst (.str "stuck")))) (tVal (dCmp .eq (dSub (dLoc 6) (dCst (.int 0))) (dCst (.str "missed"))))) (sRet (dTup [dSub (dLoc 6) (dCst (.int 0)),dLoc 2,dLoc 5])) sNil) (Zm0 Φ)
noncomputable def Zm2 (Φ:Fns):DS :=
 sSeq (sWhile (tAnd (tVal (dCmp .isNot (dLoc 3) (dCst .none))) (tVal (dNotT (dLoc 3) (dLoc 4)))) (sSeq (sAsg 6 (dCall Φ (dCst (.fn Zka)) [dLoc 0,dLoc 1,dLoc 3])) (Zm1 Φ))) (sRet (dCst .none))
noncomputable def Zm3 (Φ:Fns):DS :=
 sSeq (sAsg 4 dNewS) (sSeq (sAsg 5 (dCst (.int 0))) (Zm2 Φ))
noncomputable def Zm4 (Φ:Fns):DS :=
 sSeq (sAsg 3 (dTup [dCst (.int 0),dLoc 2])) (Zm3 Φ)
noncomputable def Zm5:Sco:={ Γ:=[("one",0),("two",1),("places",2),("begin",3),("found",4)],G:=["need_program","need_places","begins","run_looked"],K:=[],L:=[] }
noncomputable def Zm6 (Φ:Fns):DS :=
 sIf (tVal (dCmp .isNot (dLoc 4) (dCst .none))) (sRet (dLoc 4)) sNil
noncomputable def Zm7 (Φ:Fns):DS :=
 sSeq (sAsg 4 (dCall Φ (dCst (.fn Zkb)) [dLoc 0,dLoc 2,dLoc 3])) (Zm6 Φ)
noncomputable def Zm8 (Φ:Fns):DS :=
 sSeq (sFor (.one 3) (dCall Φ (dCst (.fn Zj9)) [dLoc 0]) (Zm7 Φ)) (sRet (dTup [dCst (.str "safe")]))
noncomputable def Zm9 (Φ:Fns):DS :=
 sSeq (sExpr (dCall Φ (dCst (.fn Zj5)) [dLoc 0,dLoc 1,dLoc 2])) (Zm8 Φ)
noncomputable def Zna (Φ:Fns):DS :=
 sSeq (sExpr (dCall Φ (dCst (.fn Zj0)) [dLoc 1])) (Zm9 Φ)
noncomputable def Znb (Φ:Fns):DS :=
 sSeq (sExpr (dCall Φ (dCst (.fn Zj0)) [dLoc 0])) (Zna Φ)
noncomputable def Znc:Sco:={ Γ:=[("_law_script",0),("_law_k",1)],G:=["len"],K:=[],L:=[] }
noncomputable def Znd (Φ:Fns):DS :=
 sSeq (sIf (tVal (dCmp .lt (dLoc 1) (dCall Φ (dCst (.bi .len)) [dLoc 0]))) (sRet (dSub (dLoc 0) (dLoc 1))) sNil) (sRet (dCst (.int 0)))
noncomputable def Zne:Sco:={ Γ:=[("_law_seed",0)],G:=[],K:=[],L:=[] }
noncomputable def Znf (Φ:Fns):DS :=
 sRet (dBin .mod (dBin .add (dBin .mul (dLoc 0) (dCst (.int 48271))) (dCst (.int 11))) (dCst (.int 2147483647)))
noncomputable def Zng:Sco:={ Γ:=[("_law_seed",0),("_law_boxes",1),("_law_most",2),("_law_many",3),("_law_pick",4),("_law_box",5)],G:=[],K:=[],L:=[] }
noncomputable def Znh (Φ:Fns):DS :=
 sRet (dTup [dCst (.str "ask"),dLoc 5,dBin .mod (dBin .fdiv (dLoc 0) (dCst (.int 50))) (dLoc 3)])
noncomputable def Zni (Φ:Fns):DS :=
 sSeq (sIf (tVal (dCmp .eq (dLoc 4) (dCst (.int 7)))) (sRet (dSub (dLst [dTup [dCst (.str "go"),dBin .mod (dBin .fdiv (dLoc 0) (dCst (.int 50))) (dLoc 3)],dTup [dCst (.str "stop")]]) (dBin .mod (dBin .fdiv (dLoc 0) (dCst (.int 20))) (dCst (.int 2))))) sNil) (Znh Φ)
noncomputable def Znj (Φ:Fns):DS :=
 sSeq (sIf (tVal (dCmp .lt (dLoc 4) (dCst (.int 7)))) (sRet (dTup [dCst (.str "tell"),dLoc 5])) sNil) (Zni Φ)
noncomputable def Znk (Φ:Fns):DS :=
 sSeq (sIf (tVal (dCmp .eq (dLoc 4) (dCst (.int 4)))) (sRet (dTup [dCst (.str "copy"),dLoc 5,dBin .mod (dBin .fdiv (dLoc 0) (dCst (.int 50))) (dLoc 1)])) sNil) (Znj Φ)
noncomputable def Znl (Φ:Fns):DS :=
 sSeq (sIf (tVal (dCmp .lt (dLoc 4) (dCst (.int 4)))) (sRet (dTup [dCst (.str "more"),dLoc 5])) sNil) (Znk Φ)
noncomputable def Znm (Φ:Fns):DS :=
 sSeq (sIf (tVal (dCmp .lt (dLoc 4) (dCst (.int 2)))) (sRet (dTup [dCst (.str "put"),dLoc 5,dBin .mod (dBin .fdiv (dLoc 0) (dCst (.int 50))) (dBin .add (dLoc 2) (dCst (.int 1)))])) sNil) (Znl Φ)
noncomputable def Znn (Φ:Fns):DS :=
 sSeq (sAsg 5 (dBin .mod (dBin .fdiv (dLoc 0) (dCst (.int 10))) (dLoc 1))) (Znm Φ)
noncomputable def Zno (Φ:Fns):DS :=
 sSeq (sIf (tVal (dCmp .eq (dLoc 1) (dCst (.int 0)))) (sRet (dSub (dLst [dTup [dCst (.str "go"),dBin .mod (dBin .fdiv (dLoc 0) (dCst (.int 10))) (dLoc 3)],dTup [dCst (.str "stop")]]) (dBin .fdiv (dLoc 4) (dCst (.int 7))))) sNil) (Znn Φ)
noncomputable def Znp (Φ:Fns):DS :=
 sSeq (sAsg 4 (dBin .mod (dLoc 0) (dCst (.int 10)))) (Zno Φ)
noncomputable def Znq:Sco:={ Γ:=[("_law_cell",0),("_law_seed",1),("_law_boxes",2),("_law_most",3),("_law_many",4),("_law_rows",5),("_law_k",6)],G:=["_law_next","int","range","_law_row"],K:=[],L:=[] }
noncomputable def Znr (Φ:Fns):DS :=
 sExpr (dMeth appM (dLoc 5) [dCall Φ (dCst (.fn Zkf)) [dLoc 1,dLoc 2,dLoc 3,dLoc 4]])
noncomputable def Zns (Φ:Fns):DS :=
 sSeq (sAsg 1 (dCall Φ (dCst (.fn Zke)) [dBin .add (dLoc 1) (dLoc 6)])) (Znr Φ)
noncomputable def Znt (Φ:Fns):DS :=
 sSeq (sIf (tVal (dCmp .notIn (dSub (dSub (dLoc 5) (dNeg (dCst (.int 1)))) (dCst (.int 0))) (dTup [dCst (.str "go"),dCst (.str "stop")]))) (sStore (dLoc 5) (dNeg (dCst (.int 1))) (dSub (dLst [dTup [dCst (.str "go"),dBin .mod (dBin .fdiv (dLoc 1) (dCst (.int 7))) (dLoc 4)],dTup [dCst (.str "stop")]]) (dBin .fdiv (dBin .mod (dBin .fdiv (dLoc 1) (dCst (.int 1000))) (dCst (.int 3))) (dCst (.int 2))))) sNil) (sRet (dTup [dLoc 2,dLoc 3,dLoc 5]))
noncomputable def Znu (Φ:Fns):DS :=
 sSeq (sFor (.one 6) (dCall Φ (dCst (.bi .range)) [dLoc 4]) (Zns Φ)) (Znt Φ)
noncomputable def Znv (Φ:Fns):DS :=
 sSeq (sAsg 4 (dBin .add (dBin .add (dCst (.int 1)) (dBin .mod (dBin .fdiv (dLoc 1) (dCst (.int 24))) (dCst (.int 7)))) (dBin .mul (dCst (.int 9)) (dCall Φ (dCst (.bi .int)) [dCmp .eq (dBin .mod (dBin .fdiv (dLoc 1) (dCst (.int 200))) (dCst (.int 8))) (dCst (.int 3))])))) (sSeq (sAsg 5 (dNewL [])) (Znu Φ))
noncomputable def Znw (Φ:Fns):DS :=
 sSeq (sAsg 3 (dBin .add (dCst (.int 1)) (dBin .mod (dBin .fdiv (dLoc 1) (dCst (.int 6))) (dSub (dLst [dCst (.int 4),dCst (.int 4),dCst (.int 4),dCst (.int 2)]) (dLoc 2))))) (Znv Φ)
noncomputable def Znx (Φ:Fns):DS :=
 sSeq (sAsg 2 (dSub (dLst [dCst (.int 1),dCst (.int 2),dCst (.int 1),dCst (.int 2),dCst (.int 0),dCst (.int 3)]) (dBin .mod (dLoc 1) (dCst (.int 6))))) (Znw Φ)
noncomputable def Zny (Φ:Fns):DS :=
 sSeq (sAsg 1 (dCall Φ (dCst (.fn Zke)) [dLoc 0])) (Znx Φ)
noncomputable def Znz:Sco:={ Γ:=[("_law_seed",0),("_law_one",1),("_law_two",2),("_law_numbers_here",3),("_law_k",4)],G:=["int","range","tuple"],K:=[],L:=[] }
noncomputable def Zn0 (Φ:Fns):DS :=
 sExpr (dMeth appM (dLoc 3) [dSub (dLst [dBin .mod (dBin .fdiv (dLoc 0) (dBin .add (dCst (.int 4)) (dBin .mul (dCst (.int 5)) (dLoc 4)))) (dBin .add (dSub (dLoc 2) (dCst (.int 1))) (dCst (.int 1))),dCst .none]) (dCall Φ (dCst (.bi .int)) [dCmp .eq (dBin .mod (dBin .fdiv (dLoc 0) (dBin .add (dCst (.int 40)) (dBin .mul (dCst (.int 7)) (dLoc 4)))) (dCst (.int 23))) (dCst (.int 1))])])
noncomputable def Zn1 (Φ:Fns):DS :=
 sRet (dTup [dCst (.str "by"),dBin .mod (dBin .fdiv (dLoc 0) (dCst (.int 400))) (dSub (dLoc 1) (dCst (.int 0))),dCall Φ (dCst (.bi .tuple)) [dLoc 3]])
noncomputable def Zn2 (Φ:Fns):DS :=
 sSeq (sFor (.one 4) (dCall Φ (dCst (.bi .range)) [dBin .add (dSub (dLoc 1) (dCst (.int 1))) (dCst (.int 1))]) (Zn0 Φ)) (Zn1 Φ)
noncomputable def Zn3 (Φ:Fns):DS :=
 sSeq (sIf (tOr (tVal (dCmp .eq (dSub (dLoc 1) (dCst (.int 0))) (dCst (.int 0)))) (tVal (dCmp .eq (dBin .mod (dLoc 0) (dCst (.int 4))) (dCst (.int 0))))) (sRet (dTup [dCst (.str "is"),dSub (dLst [dBin .mod (dBin .fdiv (dLoc 0) (dCst (.int 4))) (dBin .add (dSub (dLoc 2) (dCst (.int 1))) (dCst (.int 1))),dCst .none]) (dCall Φ (dCst (.bi .int)) [dCmp .eq (dBin .mod (dBin .fdiv (dLoc 0) (dCst (.int 40))) (dCst (.int 13))) (dCst (.int 1))])])) sNil) (sSeq (sAsg 3 (dNewL [])) (Zn2 Φ))
noncomputable def Zn4:Sco:={ Γ:=[("_law_cell",0),("_law_one",1),("_law_two",2),("_law_found",3),("_law_seed",4),("_law_row_here",5),("_law_rules_here",6)],G:=["_law_next","range","len","tuple"],K:=["_law_one","_law_seed","_law_two"],L:=[] }
noncomputable def Zn5:Sco:={ Γ:=[("_law_k",7),("_law_seed",4),("_law_one",1),("_law_two",2)],G:=["_law_rule","_law_next"],K:=["_law_seed","_law_one","_law_two"],L:=[] }
noncomputable def Zn6 (Φ:Fns):DS :=
 sExpr (dMeth insM (dLoc 3) [dBin .mod (dBin .fdiv (dLoc 4) (dCst (.int 9))) (dBin .add (dCall Φ (dCst (.bi .len)) [dLoc 3]) (dCst (.int 1))),dTup [dLoc 5,dBin .mod (dBin .fdiv (dLoc 4) (dCst (.int 5))) (dCall Φ (dCst (.bi .len)) [dSub (dLoc 2) (dCst (.int 2))]),dLoc 6]])
noncomputable def Zn7 (Φ:Fns):DS :=
 sIf (tVal (dCmp .gt (dBin .mod (dLoc 4) (dCst (.int 3))) (dCst (.int 0)))) (sSeq (sAsg 6 (dCall Φ (dCst (.bi .tuple)) [dComp (dCall Φ (dCst (.fn Zkh)) [dCall Φ (dCst (.fn Zke)) [dBin .add (dLoc 4) (dBin .mul (dCst (.int 7)) (dLoc 7))],dLoc 1,dLoc 2]) tTrue 7 (dCall Φ (dCst (.bi .range)) [dSub (dLoc 2) (dCst (.int 0))])])) (Zn6 Φ)) sNil
noncomputable def Zn8 (Φ:Fns):DS :=
 sSeq (sAsg 4 (dCall Φ (dCst (.fn Zke)) [dBin .add (dLoc 4) (dLoc 5)])) (Zn7 Φ)
noncomputable def Zn9 (Φ:Fns):DS :=
 sSeq (sFor (.one 5) (dCall Φ (dCst (.bi .range)) [dCall Φ (dCst (.bi .len)) [dSub (dLoc 1) (dCst (.int 2))]]) (Zn8 Φ)) (sRet (dLoc 3))
noncomputable def Zoa (Φ:Fns):DS :=
 sSeq (sAsg 4 (dCall Φ (dCst (.fn Zke)) [dLoc 0])) (Zn9 Φ)
noncomputable def Zob (Φ:Fns):DS :=
 sSeq (sAsg 3 (dNewL [])) (Zoa Φ)
noncomputable def Zoc:Sco:={ Γ:=[("_law_numbers_here",0),("_law_box",1),("_law_number",2),("_law_row_here",3)],G:=["list","tuple"],K:=[],L:=[] }
noncomputable def Zod (Φ:Fns):DS :=
 sSeq (sStore (dLoc 3) (dLoc 1) (dLoc 2)) (sRet (dCall Φ (dCst (.bi .tuple)) [dLoc 3]))
noncomputable def Zoe (Φ:Fns):DS :=
 sSeq (sAsg 3 (dNewC (dLoc 0))) (Zod Φ)
noncomputable def Zof:Sco:={ Γ:=[("_law_program_here",0),("_law_state",1),("_law_at",2),("_law_numbers_here",3),("_law_row_here",4),("_law_more",5)],G:=["_law_put","int"],K:=[],L:=[] }
noncomputable def Zog (Φ:Fns):DS :=
 sAsg 3 (dCall Φ (dCst (.fn Zkj)) [dLoc 3,dSub (dLoc 4) (dCst (.int 1)),dSub (dLst [dLoc 5,dCst (.int 0)]) (dCall Φ (dCst (.bi .int)) [dCmp .gt (dLoc 5) (dSub (dLoc 0) (dCst (.int 1)))])])
noncomputable def Zoh (Φ:Fns):DS :=
 sRet (dTup [dTup [dBin .add (dLoc 2) (dCst (.int 1)),dLoc 3],dCst .none])
noncomputable def Zoi (Φ:Fns):DS :=
 sSeq (sIf (tVal (dCmp .eq (dSub (dLoc 4) (dCst (.int 0))) (dCst (.str "more")))) (sSeq (sAsg 5 (dBin .add (dSub (dLoc 3) (dSub (dLoc 4) (dCst (.int 1)))) (dCst (.int 1)))) (Zog Φ)) sNil) (Zoh Φ)
noncomputable def Zoj (Φ:Fns):DS :=
 sSeq (sIf (tVal (dCmp .eq (dSub (dLoc 4) (dCst (.int 0))) (dCst (.str "copy")))) (sAsg 3 (dCall Φ (dCst (.fn Zkj)) [dLoc 3,dSub (dLoc 4) (dCst (.int 1)),dSub (dLoc 3) (dSub (dLoc 4) (dCst (.int 2)))])) sNil) (Zoi Φ)
noncomputable def Zok (Φ:Fns):DS :=
 sSeq (sIf (tVal (dCmp .eq (dSub (dLoc 4) (dCst (.int 0))) (dCst (.str "put")))) (sAsg 3 (dCall Φ (dCst (.fn Zkj)) [dLoc 3,dSub (dLoc 4) (dCst (.int 1)),dSub (dLoc 4) (dCst (.int 2))])) sNil) (Zoj Φ)
noncomputable def Zol (Φ:Fns):DS :=
 sSeq (sIf (tOr (tVal (dCmp .eq (dSub (dLoc 4) (dCst (.int 0))) (dCst (.str "go")))) (tAnd (tVal (dCmp .eq (dSub (dLoc 4) (dCst (.int 0))) (dCst (.str "ask")))) (tVal (dCmp .eq (dSub (dLoc 3) (dSub (dLoc 4) (dCst (.int 1)))) (dCst (.int 0)))))) (sRet (dTup [dTup [dSub (dLoc 4) (dNeg (dCst (.int 1))),dLoc 3],dCst .none])) sNil) (Zok Φ)
noncomputable def Zom (Φ:Fns):DS :=
 sSeq (sIf (tVal (dCmp .eq (dSub (dLoc 4) (dCst (.int 0))) (dCst (.str "tell")))) (sRet (dTup [dTup [dBin .add (dLoc 2) (dCst (.int 1)),dLoc 3],dSub (dLoc 3) (dSub (dLoc 4) (dCst (.int 1)))])) sNil) (Zol Φ)
noncomputable def Zon (Φ:Fns):DS :=
 sSeq (sIf (tVal (dCmp .eq (dSub (dLoc 4) (dCst (.int 0))) (dCst (.str "stop")))) (sRet (dTup [dCst .none,dCst .none])) sNil) (Zom Φ)
noncomputable def Zoo (Φ:Fns):DS :=
 sSeq (sAsg 4 (dSub (dSub (dLoc 0) (dCst (.int 2))) (dLoc 2))) (Zon Φ)
noncomputable def Zop (Φ:Fns):DS :=
 sSeq (sAsg 2 (dSub (dLoc 1) (dCst (.int 0)))) (sSeq (sAsg 3 (dSub (dLoc 1) (dCst (.int 1)))) (Zoo Φ))
noncomputable def Zoq:Sco:={ Γ:=[("_law_rules_here",0),("_law_numbers_here",1),("_law_found",2),("_law_rule_here",3),("_law_number",4)],G:=["tuple"],K:=[],L:=[] }
noncomputable def Zor (Φ:Fns):DS :=
 sSeq (sIf (tVal (dCmp .is (dLoc 4) (dCst .none))) (sRet (dCst .none)) sNil) (sExpr (dMeth appM (dLoc 2) [dLoc 4]))
noncomputable def Zos (Φ:Fns):DS :=
 sSeq (sIf (tVal (dCmp .eq (dSub (dLoc 3) (dCst (.int 0))) (dCst (.str "by")))) (sAsg 4 (dSub (dSub (dLoc 3) (dCst (.int 2))) (dSub (dLoc 1) (dSub (dLoc 3) (dCst (.int 1)))))) sNil) (Zor Φ)
noncomputable def Zot (Φ:Fns):DS :=
 sSeq (sAsg 4 (dSub (dLoc 3) (dCst (.int 1)))) (Zos Φ)
noncomputable def Zou (Φ:Fns):DS :=
 sSeq (sFor (.one 3) (dLoc 0) (Zot Φ)) (sRet (dCall Φ (dCst (.bi .tuple)) [dLoc 2]))
noncomputable def Zov (Φ:Fns):DS :=
 sSeq (sAsg 2 (dNewL [])) (Zou Φ)
noncomputable def Zow:Sco:={ Γ:=[("_law_program_here",0),("_law_found",1),("_law_box",2),("_law_more",3),("_law_begin",4),("_law_number",5)],G:=["range"],K:=[],L:=[] }
noncomputable def Zox (Φ:Fns):DS :=
 sExpr (dMeth appM (dLoc 3) [dBin .add (dLoc 4) (dTup [dLoc 5])])
noncomputable def Zoy (Φ:Fns):DS :=
 sFor (.one 5) (dCall Φ (dCst (.bi .range)) [dBin .add (dSub (dLoc 0) (dCst (.int 1))) (dCst (.int 1))]) (Zox Φ)
noncomputable def Zoz (Φ:Fns):DS :=
 sSeq (sFor (.one 4) (dLoc 1) (Zoy Φ)) (sAsg 1 (dLoc 3))
noncomputable def Zo0 (Φ:Fns):DS :=
 sSeq (sFor (.one 2) (dCall Φ (dCst (.bi .range)) [dSub (dLoc 0) (dCst (.int 0))]) (sSeq (sAsg 3 (dNewL [])) (Zoz Φ))) (sRet (dLoc 1))
noncomputable def Zo1 (Φ:Fns):DS :=
 sSeq (sAsg 1 (dNewL [dTup []])) (Zo0 Φ)
noncomputable def Zo2:Sco:={ Γ:=[("_law_places_here",0),("_law_rules_here",1),("_law_place",2)],G:=[],K:=[],L:=[] }
noncomputable def Zo3 (Φ:Fns):DS :=
 sPutI (dLoc 1) (dSub (dLoc 2) (dCst (.int 0))) (dSub (dLoc 2) (dCst (.int 2)))
noncomputable def Zo4 (Φ:Fns):DS :=
 sSeq (sFor (.one 2) (dLoc 0) (Zo3 Φ)) (sRet (dLoc 1))
noncomputable def Zo5 (Φ:Fns):DS :=
 sSeq (sAsg 1 dNewD) (Zo4 Φ)
noncomputable def Zo6:Sco:={ Γ:=[("_law_one",0),("_law_rules_here",1),("_law_state",2),("_law_came",3)],G:=["len","int","_law_turned","_law_step"],K:=[],L:=[] }
noncomputable def Zo7 (Φ:Fns):DS :=
 sAsg 2 (dSub (dCall Φ (dCst (.fn Zkk)) [dLoc 0,dLoc 2]) (dCst (.int 0)))
noncomputable def Zo8 (Φ:Fns):DS :=
 sSeq (sPutT (dLoc 3) (dLoc 2) (dLenT (dLoc 3))) (Zo7 Φ)
noncomputable def Zo9 (Φ:Fns):DS :=
 sSeq (sIf (tVal (dHasI (dSub (dLoc 2) (dCst (.int 0))) (dLoc 1))) (sRet (dTup [dSub (dLst [dCst (.str "comes"),dCst (.str "stuck")]) (dCall Φ (dCst (.bi .int)) [dCmp .is (dCall Φ (dCst (.fn Zkl)) [dGetI (dLoc 1) (dSub (dLoc 2) (dCst (.int 0))),dSub (dLoc 2) (dCst (.int 1))]) (dCst .none)]),dLenT (dLoc 3)])) sNil) (Zo8 Φ)
noncomputable def Zpa (Φ:Fns):DS :=
 sRet (dTup [dCst (.str "over"),dLenT (dLoc 3)])
noncomputable def Zpb (Φ:Fns):DS :=
 sSeq (sWhile (tVal (dCmp .isNot (dLoc 2) (dCst .none))) (sSeq (sIf (tVal (dHasT (dLoc 2) (dLoc 3))) (sRet (dTup [dCst (.str "missed"),dGetT (dLoc 3) (dLoc 2),dBin .sub (dLenT (dLoc 3)) (dGetT (dLoc 3) (dLoc 2))])) sNil) (Zo9 Φ))) (Zpa Φ)
noncomputable def Zpc (Φ:Fns):DS :=
 sSeq (sAsg 3 dNewS) (Zpb Φ)
noncomputable def Zpd:Sco:={ Γ:=[("_law_rules_here",0),("_law_path",1),("_law_word_here",2),("_law_known",3),("_law_state",4)],G:=["int","_law_turned"],K:=[],L:=[] }
noncomputable def Zpe (Φ:Fns):DS :=
 sSeq (sIf (tVal (dHasI (dSub (dLoc 4) (dCst (.int 0))) (dLoc 0))) (sAsg 2 (dSub (dLst [dCst (.str "comes"),dCst (.str "stuck")]) (dCall Φ (dCst (.bi .int)) [dCmp .is (dCall Φ (dCst (.fn Zkl)) [dGetI (dLoc 0) (dSub (dLoc 4) (dCst (.int 0))),dSub (dLoc 4) (dCst (.int 1))]) (dCst .none)]))) sNil) (sPutT (dLoc 3) (dLoc 4) (dLoc 2))
noncomputable def Zpf (Φ:Fns):DS :=
 sFor (.one 4) (dRev (dLoc 1) (some (dNeg (dCst (.int 1))))) (Zpe Φ)
noncomputable def Zpg:Sco:={ Γ:=[("_law_one",0),("_law_rules_here",1),("_law_known",2),("_law_begin",3),("_law_state",4),("_law_here",5),("_law_word_here",6)],G:=["_law_begins","len","_law_step","_law_met","_law_gone_back","list"],K:=[],L:=[] }
noncomputable def Zph (Φ:Fns):DS :=
 sAsg 4 (dSub (dCall Φ (dCst (.fn Zkk)) [dLoc 0,dLoc 4]) (dCst (.int 0)))
noncomputable def Zpi (Φ:Fns):DS :=
 sExpr (dCall Φ (dCst (.fn Zkp)) [dLoc 1,dKeysT (dLoc 5),dLoc 6,dLoc 2])
noncomputable def Zpj (Φ:Fns):DS :=
 sSeq (sIf (tVal (dHasN (dLoc 4) (dLoc 5))) (sAsg 6 (dSub (dCall Φ (dCst (.fn Zko)) [dLoc 0,dLoc 1,dLoc 4]) (dCst (.int 0)))) sNil) (Zpi Φ)
noncomputable def Zpk (Φ:Fns):DS :=
 sSeq (sIf (tVal (dHasN (dLoc 4) (dLoc 2))) (sAsg 6 (dGetT (dLoc 2) (dLoc 4))) sNil) (Zpj Φ)
noncomputable def Zpl (Φ:Fns):DS :=
 sSeq (sAsg 6 (dCst (.str "over"))) (Zpk Φ)
noncomputable def Zpm (Φ:Fns):DS :=
 sSeq (sWhile (tAnd (tVal (dCmp .isNot (dLoc 4) (dCst .none))) (tAnd (tVal (dNotT (dLoc 4) (dLoc 2))) (tVal (dNotT (dLoc 4) (dLoc 5))))) (sSeq (sPutT (dLoc 5) (dLoc 4) (dLenT (dLoc 5))) (Zph Φ))) (Zpl Φ)
noncomputable def Zpn (Φ:Fns):DS :=
 sSeq (sAsg 4 (dTup [dCst (.int 0),dLoc 3])) (sSeq (sAsg 5 dNewS) (Zpm Φ))
noncomputable def Zpo (Φ:Fns):DS :=
 sRet (dAnd (dNotV (dCst (.str "stuck")) (dLoc 2)) (dNotV (dCst (.str "missed")) (dLoc 2)))
noncomputable def Zpp (Φ:Fns):DS :=
 sSeq (sFor (.one 3) (dCall Φ (dCst (.fn Zkm)) [dLoc 0]) (Zpn Φ)) (Zpo Φ)
noncomputable def Zpq (Φ:Fns):DS :=
 sSeq (sAsg 2 dNewS) (Zpp Φ)
noncomputable def Zpr:Sco:={ Γ:=[("_law_program_here",0),("_law_many",1),("_law_box",2)],G:=["len","range"],K:=[],L:=[] }
noncomputable def Zps (Φ:Fns):DS :=
 sAsg 1 (dBin .mul (dLoc 1) (dBin .add (dSub (dLoc 0) (dCst (.int 1))) (dCst (.int 1))))
noncomputable def Zpt (Φ:Fns):DS :=
 sSeq (sFor (.one 2) (dCall Φ (dCst (.bi .range)) [dSub (dLoc 0) (dCst (.int 0))]) (Zps Φ)) (sRet (dLoc 1))
noncomputable def Zpu (Φ:Fns):DS :=
 sSeq (sAsg 1 (dCall Φ (dCst (.bi .len)) [dSub (dLoc 0) (dCst (.int 2))])) (Zpt Φ)
noncomputable def Zpv:Sco:={ Γ:=[("_law_thing",0)],G:=["isinstance","tuple","list","all","bool"],K:=[],L:=[] }
noncomputable def Zpw:Sco:={ Γ:=[("_law_part",1)],G:=["_law_plain"],K:=[],L:=[] }
noncomputable def Zpx (Φ:Fns):DS :=
 sRet (dNot (tVal (dCall Φ (dCst (.bi .isinstance)) [dLoc 0,dCst (.bi .bool)])))
noncomputable def Zpy (Φ:Fns):DS :=
 sSeq (sIf (tVal (dIsiT (dLoc 0) [.tuple,.list])) (sRet (dCall Φ (dCst (.bi .all)) [dComp (dCall Φ (dCst (.fn Zks)) [dLoc 1]) tTrue 1 (dLoc 0)])) sNil) (Zpx Φ)
noncomputable def Zpz:Sco:={ Γ:=[("_law_one",0),("_law_rules_here",1),("_law_found",2),("_law_is_safe_here",3),("_law_state",4),("_law_turn",5)],G:=["isinstance","tuple","int","_law_begins","len","_law_states","_law_plain","range","_law_step","_law_met"],K:=[],L:=[] }
noncomputable def Zp0 (Φ:Fns):DS :=
 sIf (tVal (dCmp .isNot (dLoc 4) (dCst .none))) (sAsg 4 (dSub (dCall Φ (dCst (.fn Zkk)) [dLoc 0,dLoc 4]) (dCst (.int 0)))) sNil
noncomputable def Zp1 (Φ:Fns):DS :=
 sRet (dCmp .eq (dSub (dCall Φ (dCst (.fn Zko)) [dLoc 0,dLoc 1,dLoc 4]) (dCst (.int 0))) (dSub (dLoc 2) (dCst (.int 0))))
noncomputable def Zp2 (Φ:Fns):DS :=
 sSeq (sIf (tOr (tVal (dCmp .is (dLoc 4) (dCst .none))) (tVal (dCmp .notIn (dSub (dLoc 2) (dCst (.int 0))) (dTup [dCst (.str "stuck"),dCst (.str "missed")])))) (sRet (dCst (.bool false))) sNil) (Zp1 Φ)
noncomputable def Zp3 (Φ:Fns):DS :=
 sSeq (sFor (.one 5) (dCall Φ (dCst (.bi .range)) [dSub (dLoc 2) (dCst (.int 2))]) (Zp0 Φ)) (Zp2 Φ)
noncomputable def Zp4 (Φ:Fns):DS :=
 sSeq (sAsg 4 (dTup [dCst (.int 0),dSub (dLoc 2) (dCst (.int 1))])) (Zp3 Φ)
noncomputable def Zp5 (Φ:Fns):DS :=
 sSeq (sIf (tOr (tNot (tVal (dCall Φ (dCst (.fn Zks)) [dLoc 2]))) (tNot (tVal (dCmp2 .le .lt (dCst (.int 0)) (dSub (dLoc 2) (dCst (.int 2))) (dCall Φ (dCst (.fn Zkr)) [dLoc 0]))))) (sRet (dCst (.bool false))) sNil) (Zp4 Φ)
noncomputable def Zp6 (Φ:Fns):DS :=
 sSeq (sIf (tOr (tVal (dCmp .ne (dCall Φ (dCst (.bi .len)) [dLoc 2]) (dCst (.int 3)))) (tOr (tVal (dCmp .notIn (dSub (dLoc 2) (dCst (.int 1))) (dCall Φ (dCst (.fn Zkm)) [dLoc 0]))) (tNot (tVal (dCall Φ (dCst (.bi .isinstance)) [dSub (dLoc 2) (dCst (.int 2)),dCst (.bi .int)]))))) (sRet (dCst (.bool false))) sNil) (Zp5 Φ)
noncomputable def Zp7 (Φ:Fns):DS :=
 sSeq (sIf (tOr (tNot (tVal (dCall Φ (dCst (.bi .isinstance)) [dLoc 2,dCst (.bi .tuple)]))) (tVal (dLoc 3))) (sRet (dCmp .eq (dLoc 2) (dTup [dCst (.str "safe")]))) sNil) (Zp6 Φ)
noncomputable def Zp8:Sco:={ Γ:=[("_law_one",0),("_law_two",1),("_law_places_here",2),("_law_cell",3),("_law_rules_here",4),("_law_some",5)],G:=["tuple","len","list"],K:=[],L:=[] }
noncomputable def Zp9 (Φ:Fns):DS :=
 sRet (dSub (dLoc 5) (dBin .mod (dLoc 3) (dCall Φ (dCst (.bi .len)) [dLoc 5])))
noncomputable def Zqa (Φ:Fns):DS :=
 sSeq (sIf (tVal (dCmp .ne (dLoc 2) (dLst []))) (sAsg 5 (dBin .add (dLoc 5) (dLst [dSub (dLoc 2) (dCst (.int 0)),dBin .add (dSl (dSub (dLoc 2) (dCst (.int 0))) none (some (dCst (.int 1)))) (dTup [dCst (.int 0),dLoc 4])]))) sNil) (Zp9 Φ)
noncomputable def Zqb (Φ:Fns):DS :=
 sSeq (sIf (tVal (dCmp .eq (dSub (dLoc 1) (dCst (.int 0))) (dCst (.int 0)))) (sAsg 5 (dSl (dLoc 5) none (some (dCst (.int 10))))) sNil) (Zqa Φ)
noncomputable def Zqc (Φ:Fns):DS :=
 sSeq (sAsg 5 (dBin .add (dLoc 5) (dLst [dTup [dCst (.int 0),dCst (.int 0),dBin .add (dSl (dLoc 4) (some (dCst (.int 1))) none) (dTup [dTup [dCst (.str "is"),dBin .add (dSub (dLoc 1) (dCst (.int 1))) (dCst (.int 1))]])],dTup [dCst (.int 0),dCst (.int 0),dBin .add (dSl (dLoc 4) (some (dCst (.int 1))) none) (dTup [dTup [dCst (.str "by"),dCst (.int 0),dTup []]])]]))) (Zqb Φ)
noncomputable def Zqd (Φ:Fns):DS :=
 sSeq (sAsg 5 (dBin .add (dLoc 5) (dLst [dTup [dCst (.int 0),dCst (.int 0),dCall Φ (dCst (.bi .list)) [dLoc 4]],dTup [dCst (.int 0),dCst (.int 0),dBin .add (dLoc 4) (dTup [dTup [dCst (.str "is"),dCst (.int 0)]])],dTup [dCst (.bool true),dCst (.int 0),dLoc 4],dTup [dCst (.int 0),dCst (.int 0),dLoc 4,dCst (.int 0)]]))) (Zqc Φ)
noncomputable def Zqe (Φ:Fns):DS :=
 sSeq (sAsg 5 (dLst [dCst .none,dTup [dCst (.int 0),dCst (.int 0)],dLst [dCst (.int 0),dCst (.int 0),dLoc 4],dTup [dCall Φ (dCst (.bi .len)) [dSub (dLoc 0) (dCst (.int 2))],dCst (.int 0),dLoc 4],dTup [dCst (.int 0),dCall Φ (dCst (.bi .len)) [dSub (dLoc 1) (dCst (.int 2))],dLoc 4],dTup [dNeg (dCst (.int 1)),dCst (.int 0),dLoc 4]])) (Zqd Φ)
noncomputable def Zqf (Φ:Fns):DS :=
 sSeq (sAsg 4 (dCall Φ (dCst (.bi .tuple)) [dBin .rep (dLst [dTup [dCst (.str "is"),dCst (.int 0)]]) (dSub (dLoc 1) (dCst (.int 0)))])) (Zqe Φ)
noncomputable def Zqg:Sco:={ Γ:=[("_law_one",0),("_law_two",1),("_law_places_here",2),("e",3),("_law_words",4),("_law_others",5)],G:=["looked","SwapError","int","isinstance","BadProgram","BadPlaces","BadCount","BadState","Busy","Over","Unsafe","ValueError"],K:=[],L:=["e"] }
noncomputable def Zqh (Φ:Fns):DS :=
 sRet (dBin .add (dBin .add (dLoc 4) (dBin .rep (dLst [dCst (.str "others")]) (dInt (dLoc 5)))) (dBin .rep (dLst [dCst (.str "value")]) (dInt (dIsiX (tab [(1,true),(3,true)]) (dLoc 3)))))
noncomputable def Zqi (Φ:Fns):DS :=
 sSeq (sAsg 5 (dIsiX (tab [(1,false),(3,false)]) (dLoc 3))) (Zqh Φ)
noncomputable def Zqj (Φ:Fns):DS :=
 sSeq (sTry (dCall Φ (dCst (.fn Zkc)) [dLoc 0,dLoc 1,dLoc 2]) [1,3] 3 (sSeq (sAsg 4 (dBin .add (dBin .rep (dLst [dCst (.str "program")]) (dInt (dIsiX (tab [(1,true),(3,false)]) (dLoc 3)))) (dBin .rep (dLst [dCst (.str "places")]) (dInt (dIsiX (tab [(1,false),(3,true)]) (dLoc 3)))))) (Zqi Φ))) (sRet (dLst []))
noncomputable def S_law:Sco:={ Γ:=[("_law_script",0),("_law_one",1),("_law_two",2),("_law_places_here",3),("_law_odd",4),("_law_way",5),("_law_asked",6),("_law_strange",7),("_law_due",8),("_law_rules_here",9),("_law_is_safe_here",10),("_law_kept",11),("_law_found",12),("_law_told",13),("_law_held",14)],G:=["_law_program","_law_cell_at","_law_places","tuple","_law_odd_place","int","_law_word","_law_rules","_law_is_safe","list","looked","_law_right","begins","_law_plain","_law_begins","isinstance"],K:=[],L:=[] }
noncomputable def Zqk (Φ:Fns):DS :=
 sRet (dCmp .eq (dCall Φ (dCst (.fn Zkv)) [dSub (dLoc 6) (dCst (.int 0)),dSub (dLoc 6) (dCst (.int 1)),dSub (dLoc 6) (dCst (.int 2))]) (dLoc 8))
noncomputable def Zql (Φ:Fns):DS :=
 sSeq (sAsg 8 (dLst [dSub (dLst [dCst (.str "program"),dCst (.str "places")]) (dCall Φ (dCst (.bi .int)) [dCmp .eq (dLoc 5) (dCst (.int 4))]),dCst (.str "value")])) (Zqk Φ)
noncomputable def Zqm (Φ:Fns):DS :=
 sSeq (sAsg 6 (dSub (dBin .add (dLoc 6) (dLst [dTup [dLoc 1,dLoc 4,dLst [dCst .none]],dTup [dLoc 1,dLoc 2,dBin .add (dLoc 3) (dLst [dLoc 7])]])) (dLoc 5))) (Zql Φ)
noncomputable def Zqn (Φ:Fns):DS :=
 sSeq (sAsg 7 (dCall Φ (dCst (.fn Zku)) [dLoc 1,dLoc 2,dLoc 3,dBin .fdiv (dCall Φ (dCst (.fn Zkd)) [dLoc 0,dCst (.int 4)]) (dCst (.int 320))])) (Zqm Φ)
noncomputable def Zqo (Φ:Fns):DS :=
 sSeq (sAsg 6 (dLst [dTup [dLoc 4,dLoc 2,dLoc 3],dTup [dLoc 1,dLoc 4,dLoc 3],dTup [dLoc 4,dLoc 2,dCst .none]])) (Zqn Φ)
noncomputable def Zqp (Φ:Fns):DS :=
 sSeq (sAsg 5 (dBin .mod (dBin .fdiv (dCall Φ (dCst (.fn Zkd)) [dLoc 0,dCst (.int 4)]) (dCst (.int 64))) (dCst (.int 5)))) (Zqo Φ)
noncomputable def Zqq (Φ:Fns):DS :=
 sSeq (sAsg 4 (dSub (dBin .add (dLoc 4) (dLst [dTup [dSub (dLoc 1) (dCst (.int 0)),dSub (dLoc 1) (dCst (.int 1)),dBin .add (dSl (dSub (dLoc 1) (dCst (.int 2))) (some (dCst (.int 1))) none) (dLst [dTup [dCst (.str "tell"),dCst (.int 0)]])]])) (dBin .mod (dBin .fdiv (dCall Φ (dCst (.fn Zkd)) [dLoc 0,dCst (.int 4)]) (dCst (.int 8))) (dCst (.int 8))))) (Zqp Φ)
noncomputable def Zqr (Φ:Fns):DS :=
 sSeq (sAsg 4 (dBin .add (dLoc 4) (dLst [dTup [dSub (dLoc 1) (dCst (.int 0)),dSub (dLoc 1) (dCst (.int 1)),dBin .add (dSub (dLoc 1) (dCst (.int 2))) (dLst [dTup [dCst (.str "stop"),dCst (.int 0)]])],dTup [dSub (dLoc 1) (dCst (.int 0)),dSub (dLoc 1) (dCst (.int 1)),dCall Φ (dCst (.bi .tuple)) [dSub (dLoc 1) (dCst (.int 2))]]]))) (Zqq Φ)
noncomputable def Zqs (Φ:Fns):DS :=
 sRet (dAnd (dCall Φ (dCst (.fn Zkt)) [dLoc 1,dLoc 9,dLoc 12,dLoc 10]) (dCmp .eq (dLoc 11) (dLst [dSub (dLoc 1) (dCst (.int 2)),dSub (dLoc 2) (dCst (.int 2)),dLoc 3])))
noncomputable def Zqt (Φ:Fns):DS :=
 sSeq (sAsg 12 (dCall Φ (dCst (.fn Zkc)) [dLoc 1,dLoc 2,dLoc 3])) (Zqs Φ)
noncomputable def Zqu (Φ:Fns):DS :=
 sSeq (sIf (tVal (dCmp .ne (dCall Φ (dCst (.fn Zj9)) [dLoc 1]) (dLoc 14))) (sRet (dCst (.bool false))) sNil) (Zqt Φ)
noncomputable def Zqv (Φ:Fns):DS :=
 sSeq (sIf (tOr (tVal (dCmp .ne (dCall Φ (dCst (.fn Zj9)) [dLoc 2]) (dCall Φ (dCst (.fn Zkm)) [dLoc 2]))) (tVal (dCmp .ne (dLoc 13) (dLoc 14)))) (sRet (dCst (.bool false))) sNil) (sSeq (sExpr (dMeth clrM (dLoc 13) [])) (Zqu Φ))
noncomputable def Zqw (Φ:Fns):DS :=
 sSeq (sAsg 14 (dCall Φ (dCst (.bi .list)) [dLoc 13])) (Zqv Φ)
noncomputable def Zqx (Φ:Fns):DS :=
 sSeq (sIf (tOr (tNot (tVal (dCall Φ (dCst (.bi .isinstance)) [dLoc 13,dCst (.bi .list)]))) (tOr (tVal (dCmp .ne (dLoc 13) (dCall Φ (dCst (.fn Zkm)) [dLoc 1]))) (tNot (tVal (dCall Φ (dCst (.fn Zks)) [dLoc 13]))))) (sRet (dCst (.bool false))) sNil) (Zqw Φ)
noncomputable def Zqy (Φ:Fns):DS :=
 sSeq (sAsg 13 (dCall Φ (dCst (.fn Zj9)) [dLoc 1])) (Zqx Φ)
noncomputable def Zqz (Φ:Fns):DS :=
 sSeq (sIf (tNot (tVal (dCall Φ (dCst (.fn Zkt)) [dLoc 1,dLoc 9,dLoc 12,dLoc 10]))) (sRet (dCst (.bool false))) sNil) (Zqy Φ)
noncomputable def Zq0 (Φ:Fns):DS :=
 sSeq (sAsg 12 (dCall Φ (dCst (.fn Zkc)) [dLoc 1,dLoc 2,dLoc 3])) (Zqz Φ)
noncomputable def Zq1 (Φ:Fns):DS :=
 sSeq (sAsg 11 (dLst [dCall Φ (dCst (.bi .list)) [dSub (dLoc 1) (dCst (.int 2))],dCall Φ (dCst (.bi .list)) [dSub (dLoc 2) (dCst (.int 2))],dCall Φ (dCst (.bi .list)) [dLoc 3]])) (Zq0 Φ)
noncomputable def Zq2 (Φ:Fns):DS :=
 sSeq (sAsg 10 (dCall Φ (dCst (.fn Zkq)) [dLoc 1,dLoc 9])) (Zq1 Φ)
noncomputable def Zq3 (Φ:Fns):DS :=
 sSeq (sAsg 9 (dCall Φ (dCst (.fn Zkn)) [dLoc 3])) (Zq2 Φ)
noncomputable def Zq4 (Φ:Fns):DS :=
 sSeq (sIf (tVal (dCmp .eq (dBin .mod (dCall Φ (dCst (.fn Zkd)) [dLoc 0,dCst (.int 4)]) (dCst (.int 8))) (dCst (.int 1)))) (sSeq (sAsg 4 (dLst [dTup [dCst (.int 0),dCst (.int 1),dLst [dTup [dCst (.str "go"),dCst (.int 1)]]],dCst .none,dTup [dSub (dLoc 1) (dCst (.int 0)),dSub (dLoc 1) (dCst (.int 1)),dLst []],dTup [dCst (.int 4),dSub (dLoc 1) (dCst (.int 1)),dSub (dLoc 1) (dCst (.int 2))],dTup [dSub (dLoc 1) (dCst (.int 0)),dCst (.int 5),dSub (dLoc 1) (dCst (.int 2))]])) (Zqr Φ)) sNil) (Zq3 Φ)
noncomputable def Zq5 (Φ:Fns):DS :=
 sSeq (sIf (tVal (dCmp .eq (dBin .mod (dCall Φ (dCst (.fn Zkd)) [dLoc 0,dCst (.int 3)]) (dCst (.int 4))) (dCst (.int 1)))) (sAsg 3 (dSl (dLoc 3) none (some (dBin .mod (dBin .fdiv (dCall Φ (dCst (.fn Zkd)) [dLoc 0,dCst (.int 3)]) (dCst (.int 4))) (dCst (.int 2)))))) sNil) (Zq4 Φ)
noncomputable def Zq6 (Φ:Fns):DS :=
 sSeq (sAsg 3 (dCall Φ (dCst (.fn Zki)) [dCall Φ (dCst (.fn Zkd)) [dLoc 0,dCst (.int 2)],dLoc 1,dLoc 2])) (Zq5 Φ)
noncomputable def Zq7 (Φ:Fns):DS :=
 sSeq (sAsg 2 (dCall Φ (dCst (.fn Zkg)) [dCall Φ (dCst (.fn Zkd)) [dLoc 0,dCst (.int 1)]])) (Zq6 Φ)
noncomputable def k_law (Φ:Fns):DS :=
 sSeq (sAsg 1 (dCall Φ (dCst (.fn Zkg)) [dCall Φ (dCst (.fn Zkd)) [dLoc 0,dCst (.int 0)]])) (Zq7 Φ)
noncomputable def ckD:Ck:={ gf:=[((Str.ofString "_law_begins"),Zkm),((Str.ofString "_law_cell_at"),Zkd),((Str.ofString "_law_gone_back"),Zkp),((Str.ofString "_law_is_safe"),Zkq),((Str.ofString "_law_met"),Zko),((Str.ofString "_law_next"),Zke),((Str.ofString "_law_odd_place"),Zku),((Str.ofString "_law_places"),Zki),((Str.ofString "_law_plain"),Zks),((Str.ofString "_law_program"),Zkg),((Str.ofString "_law_put"),Zkj),((Str.ofString "_law_right"),Zkt),((Str.ofString "_law_row"),Zkf),((Str.ofString "_law_rule"),Zkh),((Str.ofString "_law_rules"),Zkn),((Str.ofString "_law_states"),Zkr),((Str.ofString "_law_step"),Zkk),((Str.ofString "_law_turned"),Zkl),((Str.ofString "_law_word"),Zkv),((Str.ofString "begins"),Zj9),((Str.ofString "done"),i_done),((Str.ofString "is_among"),Zjx),((Str.ofString "is_number"),Zj2),((Str.ofString "is_place"),Zj4),((Str.ofString "is_program"),Zjz),((Str.ofString "is_row"),Zjy),((Str.ofString "is_rule"),Zj3),((Str.ofString "law"),i_law),((Str.ofString "looked"),Zkc),((Str.ofString "meets"),Zka),((Str.ofString "need_places"),Zj5),((Str.ofString "need_program"),Zj0),((Str.ofString "number_by"),Zj6),((Str.ofString "place_at"),Zj8),((Str.ofString "run_looked"),Zkb),((Str.ofString "turned"),Zj7),((Str.ofString "with_number"),Zj1)],gi:=[((Str.ofString "MOST_BOXES"),3),((Str.ofString "MOST_NUMBER"),4),((Str.ofString "MOST_PLACES"),20),((Str.ofString "MOST_ROWS"),20)],gb:=[((Str.ofString "ValueError"),.valueError),((Str.ofString "all"),.all),((Str.ofString "bool"),.bool),((Str.ofString "int"),.int),((Str.ofString "isinstance"),.isinstance),((Str.ofString "len"),.len),((Str.ofString "list"),.list),((Str.ofString "range"),.range),((Str.ofString "str"),.str),((Str.ofString "tuple"),.tuple)],cl:=[((Str.ofString "BadCount"),4),((Str.ofString "BadPlaces"),3),((Str.ofString "BadProgram"),1),((Str.ofString "BadState"),2),((Str.ofString "Busy"),5),((Str.ofString "Over"),6),((Str.ofString "SwapError"),0),((Str.ofString "Unsafe"),7)],own:=[((Str.ofString "BadProgram"),1),((Str.ofString "BadPlaces"),3)],tr:=[((Str.ofString "SwapError"),[1,3])],x1:=[(340039064,.own 1,[(1,true),(3,false)]),(340085109,.own 3,[(1,false),(3,true)]),(342076101,.bi .valueError,[(1,true),(3,true)])],xt:=[(341022077,[.own 4,.own 2,.own 5,.own 6,.own 7],[(1,false),(3,false)])],hint:=[(106044060,1),(108008029,1),(126012016,1),(128017019,1),(131016050,1),(135011013,1),(143011024,2),(144030041,2),(144050061,2),(145008026,2),(151011013,1),(153032049,3),(157008026,2),(198016018,1),(201008079,1),(208024026,1),(210008138,1),(213017019,1),(219012138,3),(228020043,1),(250017019,1),(257008038,1),(260017021,1),(262020022,1),(265016061,1),(271008054,1),(274016018,1),(276011034,2),(277030051,2),(277053067,2),(277070091,2),(278011043,1),(279055085,1),(279113127,2),(280032046,2),(280008046,2),(282020034,2),(285011043,1),(286064094,1),(287008047,2),(289017019,1),(292020022,1),(293075102,3),(293041069,3),(294036050,2),(294012050,2),(297011035,4),(298029051,2),(299011034,4),(301040055,5),(309007044,7),(327028053,1),(340039064,7),(340035065,6),(340021065,1),(340085109,7),(340081110,6),(340068110,1),(341022077,8),(342041057,6),(342028057,1),(342076101,7),(342072102,6),(342060102,1)],comp:=[(51015068,Zk8,4),(94015061,Zlw,3),(100043089,Zl3,3),(115018062,Zmg,3),(218036135,Zn5,7),(310019070,Zpw,1)] }
noncomputable def fl:List FD:=[⟨Zkw,fbody pw_uf030012_08 13,Zkx,[(Str.ofString "thing"),(Str.ofString "least"),(Str.ofString "most")],true,fscope pw_uf030012_08 13⟩,⟨Zky,fbody pw_uf030012_08 14,Zk6,[(Str.ofString "row"),(Str.ofString "boxes"),(Str.ofString "most"),(Str.ofString "many")],true,fscope pw_uf030012_08 14⟩,⟨Zk7,fbody pw_uf030012_08 15,Zld,[(Str.ofString "thing")],true,fscope pw_uf030012_08 15⟩,⟨Zle,fbody pw_uf030012_08 16,Zlf,[(Str.ofString "thing")],true,fscope pw_uf030012_08 16⟩,⟨Zlg,fbody pw_uf030012_08 17,Zlh,[(Str.ofString "numbers"),(Str.ofString "box"),(Str.ofString "number")],true,fscope pw_uf030012_08 17⟩,⟨S_done,fbody pw_uf030012_08 18,k_done,[(Str.ofString "program"),(Str.ofString "state")],true,fscope pw_uf030012_08 18⟩,⟨Zlt,fbody pw_uf030012_08 21,Zlu,[(Str.ofString "two"),(Str.ofString "thing")],true,fscope pw_uf030012_08 21⟩,⟨Zlv,fbody pw_uf030012_08 22,Zl1,[(Str.ofString "one"),(Str.ofString "two"),(Str.ofString "rule")],true,fscope pw_uf030012_08 22⟩,⟨Zl2,fbody pw_uf030012_08 23,Zl6,[(Str.ofString "one"),(Str.ofString "two"),(Str.ofString "place")],true,fscope pw_uf030012_08 23⟩,⟨Zl7,fbody pw_uf030012_08 24,Zmb,[(Str.ofString "one"),(Str.ofString "two"),(Str.ofString "places")],true,fscope pw_uf030012_08 24⟩,⟨Zmc,fbody pw_uf030012_08 25,Zme,[(Str.ofString "rule"),(Str.ofString "numbers")],true,fscope pw_uf030012_08 25⟩,⟨Zmf,fbody pw_uf030012_08 26,Zmi,[(Str.ofString "rules"),(Str.ofString "numbers")],true,fscope pw_uf030012_08 26⟩,⟨Zmj,fbody pw_uf030012_08 27,Zml,[(Str.ofString "places"),(Str.ofString "row")],true,fscope pw_uf030012_08 27⟩,⟨Zmm,fbody pw_uf030012_08 29,Zmr,[(Str.ofString "program")],false,fscope pw_uf030012_08 29⟩,⟨Zms,fbody pw_uf030012_08 30,Zmx,[(Str.ofString "one"),(Str.ofString "places"),(Str.ofString "state")],true,fscope pw_uf030012_08 30⟩,⟨Zmy,fbody pw_uf030012_08 31,Zm4,[(Str.ofString "one"),(Str.ofString "places"),(Str.ofString "begin")],true,fscope pw_uf030012_08 31⟩,⟨Zm5,fbody pw_uf030012_08 32,Znb,[(Str.ofString "one"),(Str.ofString "two"),(Str.ofString "places")],true,fscope pw_uf030012_08 32⟩,⟨Znc,fbody pw_uf030012_08 34,Znd,[(Str.ofString "_law_script"),(Str.ofString "_law_k")],true,fscope pw_uf030012_08 34⟩,⟨Zne,fbody pw_uf030012_08 35,Znf,[(Str.ofString "_law_seed")],true,fscope pw_uf030012_08 35⟩,⟨Zng,fbody pw_uf030012_08 36,Znp,[(Str.ofString "_law_seed"),(Str.ofString "_law_boxes"),(Str.ofString "_law_most"),(Str.ofString "_law_many")],true,fscope pw_uf030012_08 36⟩,⟨Znq,fbody pw_uf030012_08 37,Zny,[(Str.ofString "_law_cell")],true,fscope pw_uf030012_08 37⟩,⟨Znz,fbody pw_uf030012_08 38,Zn3,[(Str.ofString "_law_seed"),(Str.ofString "_law_one"),(Str.ofString "_law_two")],true,fscope pw_uf030012_08 38⟩,⟨Zn4,fbody pw_uf030012_08 39,Zob,[(Str.ofString "_law_cell"),(Str.ofString "_law_one"),(Str.ofString "_law_two")],true,fscope pw_uf030012_08 39⟩,⟨Zoc,fbody pw_uf030012_08 41,Zoe,[(Str.ofString "_law_numbers_here"),(Str.ofString "_law_box"),(Str.ofString "_law_number")],true,fscope pw_uf030012_08 41⟩,⟨Zof,fbody pw_uf030012_08 42,Zop,[(Str.ofString "_law_program_here"),(Str.ofString "_law_state")],true,fscope pw_uf030012_08 42⟩,⟨Zoq,fbody pw_uf030012_08 43,Zov,[(Str.ofString "_law_rules_here"),(Str.ofString "_law_numbers_here")],true,fscope pw_uf030012_08 43⟩,⟨Zow,fbody pw_uf030012_08 44,Zo1,[(Str.ofString "_law_program_here")],true,fscope pw_uf030012_08 44⟩,⟨Zo2,fbody pw_uf030012_08 45,Zo5,[(Str.ofString "_law_places_here")],false,fscope pw_uf030012_08 45⟩,⟨Zo6,fbody pw_uf030012_08 46,Zpc,[(Str.ofString "_law_one"),(Str.ofString "_law_rules_here"),(Str.ofString "_law_state")],true,fscope pw_uf030012_08 46⟩,⟨Zpd,fbody pw_uf030012_08 47,Zpf,[(Str.ofString "_law_rules_here"),(Str.ofString "_law_path"),(Str.ofString "_law_word_here"),(Str.ofString "_law_known")],false,fscope pw_uf030012_08 47⟩,⟨Zpg,fbody pw_uf030012_08 48,Zpq,[(Str.ofString "_law_one"),(Str.ofString "_law_rules_here")],true,fscope pw_uf030012_08 48⟩,⟨Zpr,fbody pw_uf030012_08 49,Zpu,[(Str.ofString "_law_program_here")],true,fscope pw_uf030012_08 49⟩,⟨Zpv,fbody pw_uf030012_08 50,Zpy,[(Str.ofString "_law_thing")],true,fscope pw_uf030012_08 50⟩,⟨Zpz,fbody pw_uf030012_08 51,Zp7,[(Str.ofString "_law_one"),(Str.ofString "_law_rules_here"),(Str.ofString "_law_found"),(Str.ofString "_law_is_safe_here")],true,fscope pw_uf030012_08 51⟩,⟨Zp8,fbody pw_uf030012_08 52,Zqf,[(Str.ofString "_law_one"),(Str.ofString "_law_two"),(Str.ofString "_law_places_here"),(Str.ofString "_law_cell")],false,fscope pw_uf030012_08 52⟩,⟨Zqg,fbody pw_uf030012_08 53,Zqj,[(Str.ofString "_law_one"),(Str.ofString "_law_two"),(Str.ofString "_law_places_here")],true,fscope pw_uf030012_08 53⟩,⟨S_law,fbody pw_uf030012_08 54,k_law,[(Str.ofString "_law_script")],true,fscope pw_uf030012_08 54⟩]
end
end Mine
noncomputable def PySem.W.Fast.tw13662814382723733158:PySem.Program:=pw_uf030012_08
theorem PySem.W.Fast.te13662814382723733158:pw_uf030012_08=PySem.W.Fast.tw13662814382723733158:=rfl
noncomputable def PySem.W.Fast.tw1411028270935627829:=@Mine.chk
theorem PySem.W.Fast.te1411028270935627829:@Mine.chk=@PySem.W.Fast.tw1411028270935627829:=rfl
noncomputable def PySem.W.Fast.tw16176028825788880018:=@Mine.ckD
theorem PySem.W.Fast.te16176028825788880018:@Mine.ckD=@PySem.W.Fast.tw16176028825788880018:=rfl
noncomputable def PySem.W.Fast.tw5253327103381308171:=@Mine.fl
theorem PySem.W.Fast.te5253327103381308171:@Mine.fl=@PySem.W.Fast.tw5253327103381308171:=rfl
namespace Mine
open PySem PySem.W PyProof.Rows PySem.Calls PySem.SeqAt
set_option Elab.async false
set_option maxRecDepth 100000
set_option maxHeartbeats 4000000
set_option linter.unusedVariables false
section
variable {C:Cx} {K:PySem.W.Frag} {mg mb:Str→Option Value} {n:Nat} {Φ:Fns}
theorem fl_ok {F:CkF C K mg mb ckD} {hF₀:FS C Φ n}:fl.map (fun q=>chk F hF₀ q.S q.b)=fl.map fun q=>some (q.k Φ):=by kernel_rfl
theorem s_all (F:CkF C K mg mb ckD) (n:Nat) (Φ:Fns) (hF₀:FS C Φ n) (q:FD) (hq:q∈fl):SSs C (n+1) q.S q.b (q.k Φ):=chk_ok (F:=F) (hF₀:=hF₀) (List.map_inj_left.mp fl_ok q hq)
end
noncomputable def tbl (k:Nat):Option Fun:=(fl[k]?).map FD.f
section
variable {n:Nat} {args:List AV} {H H₁:AH} {Q:AV→AH→Prop} {c:Nat}
theorem Zq8 (h:W (Fun.run ⟨3,true,Zkx⟩ (fns tbl n) args H) Q):W (fns tbl (n+1) Zjx args H) Q:=fns_w rfl h
theorem Zq9 (h:W (Fun.run ⟨4,true,Zk6⟩ (fns tbl n) args H) Q):W (fns tbl (n+1) Zjy args H) Q:=fns_w rfl h
theorem Zra (h:W (Fun.run ⟨1,true,Zld⟩ (fns tbl n) args H) Q):W (fns tbl (n+1) Zjz args H) Q:=fns_w rfl h
theorem Zrb (h:W (Fun.run ⟨1,true,Zlf⟩ (fns tbl n) args H) Q):W (fns tbl (n+1) Zj0 args H) Q:=fns_w rfl h
theorem Zrc (h:W (Fun.run ⟨3,true,Zlh⟩ (fns tbl n) args H) Q):W (fns tbl (n+1) Zj1 args H) Q:=fns_w rfl h
theorem e_done (h:W (Fun.run ⟨2,true,k_done⟩ (fns tbl n) args H) Q):W (fns tbl (n+1) i_done args H) Q:=fns_w rfl h
theorem Zrd (h:W (Fun.run ⟨2,true,Zlu⟩ (fns tbl n) args H) Q):W (fns tbl (n+1) Zj2 args H) Q:=fns_w rfl h
theorem Zre (h:W (Fun.run ⟨3,true,Zl1⟩ (fns tbl n) args H) Q):W (fns tbl (n+1) Zj3 args H) Q:=fns_w rfl h
theorem Zrf (h:W (Fun.run ⟨3,true,Zl6⟩ (fns tbl n) args H) Q):W (fns tbl (n+1) Zj4 args H) Q:=fns_w rfl h
theorem Zrg (h:W (Fun.run ⟨3,true,Zmb⟩ (fns tbl n) args H) Q):W (fns tbl (n+1) Zj5 args H) Q:=fns_w rfl h
theorem Zrh (h:W (Fun.run ⟨2,true,Zme⟩ (fns tbl n) args H) Q):W (fns tbl (n+1) Zj6 args H) Q:=fns_w rfl h
theorem Zri (h:W (Fun.run ⟨2,true,Zmi⟩ (fns tbl n) args H) Q):W (fns tbl (n+1) Zj7 args H) Q:=fns_w rfl h
theorem Zrj (h:W (Fun.run ⟨2,true,Zml⟩ (fns tbl n) args H) Q):W (fns tbl (n+1) Zj8 args H) Q:=fns_w rfl h
theorem Zrk (h:W (Fun.run ⟨1,false,Zmr⟩ (fns tbl n) args H) Q):W (fns tbl (n+1) Zj9 args H) Q:=fns_w rfl h
theorem Zrl (h:W (Fun.run ⟨3,true,Zmx⟩ (fns tbl n) args H) Q):W (fns tbl (n+1) Zka args H) Q:=fns_w rfl h
theorem Zrm (h:W (Fun.run ⟨3,true,Zm4⟩ (fns tbl n) args H) Q):W (fns tbl (n+1) Zkb args H) Q:=fns_w rfl h
theorem Zrn (h:W (Fun.run ⟨3,true,Znb⟩ (fns tbl n) args H) Q):W (fns tbl (n+1) Zkc args H) Q:=fns_w rfl h
theorem Zro (h:W (Fun.run ⟨2,true,Znd⟩ (fns tbl n) args H) Q):W (fns tbl (n+1) Zkd args H) Q:=fns_w rfl h
theorem Zrp (h:W (Fun.run ⟨1,true,Znf⟩ (fns tbl n) args H) Q):W (fns tbl (n+1) Zke args H) Q:=fns_w rfl h
theorem Zrq (h:W (Fun.run ⟨4,true,Znp⟩ (fns tbl n) args H) Q):W (fns tbl (n+1) Zkf args H) Q:=fns_w rfl h
theorem Zrr (h:W (Fun.run ⟨1,true,Zny⟩ (fns tbl n) args H) Q):W (fns tbl (n+1) Zkg args H) Q:=fns_w rfl h
theorem Zrs (h:W (Fun.run ⟨3,true,Zn3⟩ (fns tbl n) args H) Q):W (fns tbl (n+1) Zkh args H) Q:=fns_w rfl h
theorem Zrt (h:W (Fun.run ⟨3,true,Zob⟩ (fns tbl n) args H) Q):W (fns tbl (n+1) Zki args H) Q:=fns_w rfl h
theorem Zru (h:W (Fun.run ⟨3,true,Zoe⟩ (fns tbl n) args H) Q):W (fns tbl (n+1) Zkj args H) Q:=fns_w rfl h
theorem Zrv (h:W (Fun.run ⟨2,true,Zop⟩ (fns tbl n) args H) Q):W (fns tbl (n+1) Zkk args H) Q:=fns_w rfl h
theorem Zrw (h:W (Fun.run ⟨2,true,Zov⟩ (fns tbl n) args H) Q):W (fns tbl (n+1) Zkl args H) Q:=fns_w rfl h
theorem Zrx (h:W (Fun.run ⟨1,true,Zo1⟩ (fns tbl n) args H) Q):W (fns tbl (n+1) Zkm args H) Q:=fns_w rfl h
theorem Zry (h:W (Fun.run ⟨1,false,Zo5⟩ (fns tbl n) args H) Q):W (fns tbl (n+1) Zkn args H) Q:=fns_w rfl h
theorem Zrz (h:W (Fun.run ⟨3,true,Zpc⟩ (fns tbl n) args H) Q):W (fns tbl (n+1) Zko args H) Q:=fns_w rfl h
theorem Zr0 (h:W (Fun.run ⟨4,false,Zpf⟩ (fns tbl n) args H) Q):W (fns tbl (n+1) Zkp args H) Q:=fns_w rfl h
theorem Zr1 (h:W (Fun.run ⟨2,true,Zpq⟩ (fns tbl n) args H) Q):W (fns tbl (n+1) Zkq args H) Q:=fns_w rfl h
theorem Zr2 (h:W (Fun.run ⟨1,true,Zpu⟩ (fns tbl n) args H) Q):W (fns tbl (n+1) Zkr args H) Q:=fns_w rfl h
theorem Zr3 (h:W (Fun.run ⟨1,true,Zpy⟩ (fns tbl n) args H) Q):W (fns tbl (n+1) Zks args H) Q:=fns_w rfl h
theorem Zr4 (h:W (Fun.run ⟨4,true,Zp7⟩ (fns tbl n) args H) Q):W (fns tbl (n+1) Zkt args H) Q:=fns_w rfl h
theorem Zr5 (h:W (Fun.run ⟨4,false,Zqf⟩ (fns tbl n) args H) Q):W (fns tbl (n+1) Zku args H) Q:=fns_w rfl h
theorem Zr6 (h:W (Fun.run ⟨3,true,Zqj⟩ (fns tbl n) args H) Q):W (fns tbl (n+1) Zkv args H) Q:=fns_w rfl h
theorem e_law (h:W (Fun.run ⟨1,true,k_law⟩ (fns tbl n) args H) Q):W (fns tbl (n+1) i_law args H) Q:=fns_w rfl h
theorem Zr7 (h:Z (Fun.run ⟨1,true,Zlf⟩ (fns tbl n) args H) c H₁):Z (fns tbl (n+1) Zj0 args H) c H₁:=z_fns rfl h
theorem Zr8 (h:Z (Fun.run ⟨3,true,Zmb⟩ (fns tbl n) args H) c H₁):Z (fns tbl (n+1) Zj5 args H) c H₁:=z_fns rfl h
theorem Zr9 (h:Z (Fun.run ⟨3,true,Znb⟩ (fns tbl n) args H) c H₁):Z (fns tbl (n+1) Zkc args H) c H₁:=z_fns rfl h
end
noncomputable def cnames:List Str:=[(Str.ofString "SwapError"),(Str.ofString "BadProgram"),(Str.ofString "BadState"),(Str.ofString "BadPlaces"),(Str.ofString "BadCount"),(Str.ofString "Busy"),(Str.ofString "Over"),(Str.ofString "Unsafe")]
noncomputable def faddrs (K:PySem.W.Frag):List Addr:=[addrOf K (Str.ofString "is_among"),addrOf K (Str.ofString "is_row"),addrOf K (Str.ofString "is_program"),addrOf K (Str.ofString "need_program"),addrOf K (Str.ofString "with_number"),addrOf K (Str.ofString "done"),addrOf K (Str.ofString "is_number"),addrOf K (Str.ofString "is_rule"),addrOf K (Str.ofString "is_place"),addrOf K (Str.ofString "need_places"),addrOf K (Str.ofString "number_by"),addrOf K (Str.ofString "turned"),addrOf K (Str.ofString "place_at"),addrOf K (Str.ofString "begins"),addrOf K (Str.ofString "meets"),addrOf K (Str.ofString "run_looked"),addrOf K (Str.ofString "looked"),addrOf K (Str.ofString "_law_cell_at"),addrOf K (Str.ofString "_law_next"),addrOf K (Str.ofString "_law_row"),addrOf K (Str.ofString "_law_program"),addrOf K (Str.ofString "_law_rule"),addrOf K (Str.ofString "_law_places"),addrOf K (Str.ofString "_law_put"),addrOf K (Str.ofString "_law_step"),addrOf K (Str.ofString "_law_turned"),addrOf K (Str.ofString "_law_begins"),addrOf K (Str.ofString "_law_rules"),addrOf K (Str.ofString "_law_met"),addrOf K (Str.ofString "_law_gone_back"),addrOf K (Str.ofString "_law_is_safe"),addrOf K (Str.ofString "_law_states"),addrOf K (Str.ofString "_law_plain"),addrOf K (Str.ofString "_law_right"),addrOf K (Str.ofString "_law_odd_place"),addrOf K (Str.ofString "_law_word"),addrOf K (Str.ofString "law")]
theorem tie {w:World} {s₁:Shared} {mg mb:Str→Option Value} {K:PySem.W.Frag} {p:Program} {loose:List Str} {mean:ExcName→Option Value} (X:K.In s₁.heap) (T:Top p loose mean mg mb s₁.heap) (hseer:importsNone p=true) {fa:Addr} (hmg:mg "law"=some (.ref fa))
  {l:Addr} {vs:List Value} {ns:List Int} (hl:s₁.heap.IsList l vs.toArray) (hi:IntsAre vs ns)
  (h0:ckK K (fun k=>(faddrs K).getD k 0) (fun k=>addrOf K (cnames.getD k (Str.ofString ""))) ckD=true) (h1:(fl.zip (faddrs K)).map (fun q=>fdT K q.2)=(fl.zip (faddrs K)).map fun q=>fdW q.1) (a1:BindN K (fl.zip (faddrs K)) 1) (a2:BindN K (fl.zip (faddrs K)) 2) (a3:BindN K (fl.zip (faddrs K)) 3) (a4:BindN K (fl.zip (faddrs K)) 4)
  (tr_SwapError:(isGlob K (Str.ofString "SwapError")&&Nat.beq (addrOf K (Str.ofString "SwapError")) (addrOf K (Str.ofString "SwapError")))=true)
  (x0:exmOne K (.ref (addrOf K (Str.ofString "BadProgram"))) (.ref (addrOf K (Str.ofString "SwapError")))=some true)
  (x1:exmOne K (.ref (addrOf K (Str.ofString "BadPlaces"))) (.ref (addrOf K (Str.ofString "SwapError")))=some true)
  (x2:excK K (addrOf K (Str.ofString "BadPlaces"))=true)
  (x3:kitOne K (.ref (addrOf K (Str.ofString "BadPlaces"))) (.ref (addrOf K (Str.ofString "BadProgram")))=some false)
  (x4:excK K (addrOf K (Str.ofString "BadProgram"))=true)
  (x5:kitOne K (.ref (addrOf K (Str.ofString "BadProgram"))) (.ref (addrOf K (Str.ofString "BadProgram")))=some true)
  (x6:kitOne K (.ref (addrOf K (Str.ofString "BadPlaces"))) (.ref (addrOf K (Str.ofString "BadPlaces")))=some true)
  (x7:kitOne K (.ref (addrOf K (Str.ofString "BadProgram"))) (.ref (addrOf K (Str.ofString "BadPlaces")))=some false)
  (x8:kitOne K (.ref (addrOf K (Str.ofString "BadPlaces"))) (.type "ValueError")=some true)
  (x9:kitOne K (.ref (addrOf K (Str.ofString "BadProgram"))) (.type "ValueError")=some true)
  (x10:kitAny K (.ref (addrOf K (Str.ofString "BadPlaces"))) [.ref (addrOf K (Str.ofString "BadCount")),.ref (addrOf K (Str.ofString "BadState")),.ref (addrOf K (Str.ofString "Busy")),.ref (addrOf K (Str.ofString "Over")),.ref (addrOf K (Str.ofString "Unsafe"))]=some false)
  (x11:kitAny K (.ref (addrOf K (Str.ofString "BadProgram"))) [.ref (addrOf K (Str.ofString "BadCount")),.ref (addrOf K (Str.ofString "BadState")),.ref (addrOf K (Str.ofString "Busy")),.ref (addrOf K (Str.ofString "Over")),.ref (addrOf K (Str.ofString "Unsafe"))]=some false)
  (hrun:∃ H',fns tbl 12 i_law [.lst (ns.map .int)] []=.ok (.bool true) H')
  {R:Result→Shared→Prop} (hR:∀ s',(∀ b o,s₁.heap.get? b=some o→s'.heap.get? b=some o)→s'.os=s₁.os→s'.gens=s₁.gens→R (.ok (.ret (.bool true))) s') :
  codeAny (model pw_uf030012_08 w) callerA (.call (.ref fa) ⟨[.ref l],[]⟩) R s₁:=by
 let C:Cx:={ prog:=pw_uf030012_08,w:=w,base:=s₁.heap,fnv:=fun k=>(faddrs K).getD k 0,clv:=fun k=>addrOf K (cnames.getD k (Str.ofString "")) }
 have B:Base C mg mb:=⟨T.g,T.b,T.nolimit,T.seer hseer,rfl⟩
 have G:CkF C K mg mb ckD:=ckF_of X B (topRead_of T) h0 (by decide +kernel) (alc ⟨0,Zjt (C:=C) X B.g tr_SwapError,alc x0 (alc x1 al0)⟩ al0) (alc (Zep ⟨x4,x5⟩ (Zep ⟨x2,x3⟩ Zeo)) (alc (Zep ⟨x4,x7⟩ (Zep ⟨x2,x6⟩ Zeo)) (alc (Zep ⟨x4,x9⟩ (Zep ⟨x2,x8⟩ Zeo)) al0))) (alc (Zep ⟨x4,x11⟩ (Zep ⟨x2,x10⟩ Zeo)) al0)
 have hfa:fa=C.fnv 36:=by
  have:=Zdx X T.g (x:="law") (Bool.and_eq_true_iff.mp (List.all_eq_true.mp (Bool.and_eq_true_iff.mp h0).1 ((Str.ofString "law"),i_law) (by decide +kernel))).1
  rw [hmg] at this
  exact Value.ref.inj (Option.some.inj this)
 rw [hfa]
 exact Zdw (C:=C) B tbl (Zjw X rfl rfl h1 (Zjv (ms:=[1,2,3,4]) (alc a1 (alc a2 (alc a3 (alc a4 al0)))) rfl) (by decide +kernel) (s_all G)) (k:=36) rfl rfl hl hi hrun hR
end Mine
namespace Mine
open PySem
set_option Elab.async false
set_option linter.unusedVariables false
set_option maxRecDepth 10000
set_option maxHeartbeats 1000000
variable {H:AH} {Q:AV→AH→Prop} {N:Loc→AH→Prop} {R:AV→AH→Prop}
noncomputable def nx (s:Int):Int:=(s * 48271+11).fmod 2147483647
theorem nx_lo (s:Int):0≤nx s:=(fm _ (by decide)).1
theorem next_w {n:Nat} {s:Int} (q:Q (.int (nx s)) H):W (fns tbl (n+1) Zke [.int s] H) Q:=by
 refine Zrp (run_w rfl ?_)
 unfold Znf
 (repeat' (first|refine s_ret ?_|refine w_bin ?_|refine w_cst ?_|refine w_loc (by first|rfl|assumption) ?_|refine ob_add ?_|refine ob_mod (by decide) ?_|refine ob_mul (.inl (by decide)) ?_|fail))
 exact ⟨Zga H,_,rfl,q⟩
theorem cell_w {n:Nat} {ns:List Int} (hl:ns.length≤63) {k:Int} (hk:0≤k) (hk':k≤1000) (q:∀ c,Q (.int c) H):W (fns tbl (n+1) Zkd [.lst (ns.map .int),.int k] H) Q:=by
 refine Zro (run_w rfl ?_)
 unfold Znd
 refine s_seq (s_if (t_cmp (w_loc rfl (Zfw (w_cons (w_loc rfl (w_nil (OB.of (v:=.int ns.length) ?_ (OB.of (v:=decide (k < ns.length)) rfl (if_dec (fun h=>?_) (fun _=>?_)))))))))))
 ·show (if (ns.map AV.int).length≤1048576 then some (AV.int (ns.map AV.int).length) else none)=_
  rw [if_pos (by simp; exact Nat.le_trans (by assumption) (by decide))]
  simp
 ·have hk:k.toNat < ns.length:=by omega
  refine s_ret (w_sub (w_loc rfl (w_loc rfl (OB.of (v:=.int ns[k.toNat]) (Zf7 (by assumption) (by exact Int.le_trans (by assumption) (by decide)) (by simp [hk])) ⟨Zga H,_,rfl,q _⟩))))
 ·refine s_nil (s_ret (w_cst ⟨Zga H,_,rfl,q 0⟩))
inductive Row where
 | put (b v:Int)
 | more (b:Int)
 | copy (b c:Int)
 | tell (b:Int)
 | go (k:Int)
 | stop
 | ask (b k:Int)
noncomputable def Row.av:Row→AV
 | .put b v=>.tup [.str "put",.int b,.int v]
 | .more b=>.tup [.str "more",.int b]
 | .copy b c=>.tup [.str "copy",.int b,.int c]
 | .tell b=>.tup [.str "tell",.int b]
 | .go k=>.tup [.str "go",.int k]
 | .stop=>.tup [.str "stop"]
 | .ask b k=>.tup [.str "ask",.int b,.int k]
noncomputable def Row.word:Row→Str
 | .put _ _=>Str.ofString "put"
 | .more _=>Str.ofString "more"
 | .copy _ _=>Str.ofString "copy"
 | .tell _=>Str.ofString "tell"
 | .go _=>Str.ofString "go"
 | .stop=>Str.ofString "stop"
 | .ask _ _=>Str.ofString "ask"
noncomputable def Row.Ok (n m k:Int):Row→Prop
 | .put b v=>(0≤b∧b < n)∧0≤v∧v≤m
 | .more b=>0≤b∧b < n
 | .copy b c=>(0≤b∧b < n)∧0≤c∧c < n
 | .tell b=>0≤b∧b < n
 | .go j=>0≤j∧j < k
 | .stop=>True
 | .ask b j=>(0≤b∧b < n)∧0≤j∧j < k
noncomputable def Row.last:Row→Prop
 | .go _=>True
 | .stop=>True
 | _=>False
theorem Row.flat (r:Row):Mine.flat 2 r.av=true:=by cases r <;> rfl
theorem Row.flat_of (r:Row) {n:Nat} (h:2≤n):Mine.flat n r.av=true:=Zgh _ h r.flat
theorem row_w {n:Nat} {s b m k:Int} (hs:0≤s) (hb:0≤b) (hm:0≤m) (hk:0 < k) (q:∀ r:Row,r.Ok b m k→Q r.av H):W (fns tbl (n+1) Zkf [.int s,.int b,.int m,.int k] H) Q:=by
 refine Zrq (run_g4 (fun σ₀ R s0 s1 s2 s3 hR=>?_))
 unfold Znp
 have ht:0≤s.fmod 10∧s.fmod 10 < 10:=fm _ (by decide)
 have hk':=fun a=>fm a hk
 have hm':=fun a=>fm a (b:=m+1) (by omega)
 have fin:∀ r:Row,r.Ok b m k→H.take H.length=H∧OB (freeze H.length H 12 r.av) fun v'=>Q v' H:=fun r hr=>Zgx (r.flat_of (by decide)) (q r hr)
 have hq:0≤(s.fmod 10).fdiv 7∧(s.fmod 10).fdiv 7 < 2:=by
  rw [Zgp _ (by decide)]
  omega
 (repeat' (first|refine s_seq ?_|refine s_if ?_|refine s_ret ?_|refine s_asg ?_|refine s_nil ?_|refine w_bin ?_|refine w_cst ?_|refine w_loc (by first|rfl|assumption) ?_|refine w_cons ?_|refine w_nil ?_|refine w_tup ?_|refine w_lst ?_|refine w_sub ?_|refine t_cmp ?_|refine ob_add ?_|refine ob_mod (by decide) ?_|refine Zf1 (by decide) ?_|refine ob_mod (by omega) ?_|refine ob_eqI ?_|refine if_dec (fun _=>?_) (fun _=>?_)|refine OB.of (by rfl) ?_|refine hR _ _ ?_|fail))
 ·exact ob_two hq.1 hq.2 (fun _=>hR _ _ (fin (.go _) (hk' _))) fun _=>hR _ _ (fin .stop trivial)
 all_goals have hb':=fun a=>fm a (b:=b) (by omega)
 ·exact fin (.put _ _) ⟨hb' _,(hm' _).1,by have:=(hm' (s.fdiv 50)).2; omega⟩
 ·exact fin (.more _) (hb' _)
 ·exact fin (.copy _ _) ⟨hb' _,hb' _⟩
 ·exact fin (.tell _) (hb' _)
 ·exact ob_two (fm _ (by decide)).1 (fm _ (by decide)).2 (fun _=>hR _ _ (fin (.go _) (hk' _))) fun _=>hR _ _ (fin .stop trivial)
 ·exact fin (.ask _ _) ⟨hb' _,hk' _⟩
structure Prog where
 boxes:Int
 most:Int
 rows:List Row
noncomputable def Prog.av (P:Prog):AV:=.tup [.int P.boxes,.int P.most,.lst (P.rows.map Row.av)]
structure Prog.Ok (P:Prog):Prop where
 b0:0≤P.boxes
 b3:P.boxes≤3
 m1:1≤P.most
 m4:P.most≤4
 r1:1≤P.rows.length
 r16:P.rows.length≤16
 ok:∀ r∈P.rows,r.Ok P.boxes P.most P.rows.length
 last:∃ ini r,P.rows=ini++[r]∧r.last
theorem Zsa {l:List Row} {n:Nat} (h:2≤n):∀ v∈l.map Row.av,flat n v=true:=by
 intro v hv
 refine e1a2 (List.mem_map.mp hv) fun r _ eZ2=>?_; subst eZ2
 exact r.flat_of h
theorem Prog.flat (P:Prog):Mine.flat 12 P.av=true:=by
 refine Zgu ?_
 intro v hv
 simp at hv
 rcases hv with rfl|rfl|rfl
 ·rfl
 ·rfl
 ·exact Zgv (Zsa (by decide))
theorem Zsb (r:Row) {Q:Bool→Prop} (h₁:r.last→Q false) (h₂:¬ r.last→Q true):OB (cmpop H .notIn (.str r.word) (.tup [.str "go",.str "stop"])) Q:=by
 have key:∀ w:Str,SeqAt.shaped (.str w)=true→cmpop H .notIn (.str w) (.tup [.str "go",.str "stop"])=some (!(decide (Str.ofString "go"=w) || (decide (Str.ofString "stop"=w) || false))):=by
  intro w hw
  unfold cmpop inOp
  simp only [anyEq]
  rw [Zf5 H (by decide +kernel) hw,Zf5 H (by decide +kernel) hw]
  rfl
 cases r with
 | go k=>exact ⟨false,(key (Str.ofString "go") (by decide +kernel)).trans (by decide +kernel),h₁ trivial⟩
 | stop=>exact ⟨false,(key (Str.ofString "stop") (by decide +kernel)).trans (by decide +kernel),h₁ trivial⟩
 | put _ _=>exact ⟨true,(key (Str.ofString "put") (by decide +kernel)).trans (by decide +kernel),h₂ fun h=>h⟩
 | more _=>exact ⟨true,(key (Str.ofString "more") (by decide +kernel)).trans (by decide +kernel),h₂ fun h=>h⟩
 | copy _ _=>exact ⟨true,(key (Str.ofString "copy") (by decide +kernel)).trans (by decide +kernel),h₂ fun h=>h⟩
 | tell _=>exact ⟨true,(key (Str.ofString "tell") (by decide +kernel)).trans (by decide +kernel),h₂ fun h=>h⟩
 | ask _ _=>exact ⟨true,(key (Str.ofString "ask") (by decide +kernel)).trans (by decide +kernel),h₂ fun h=>h⟩
theorem Zsc (r:Row) {Q:AV→Prop} (q:Q (.str r.word)):OB (subop H r.av (.int 0)) Q:=⟨_,by cases r <;> rfl,q⟩
theorem Zsd {ini:List Row} {r:Row} {Q:AV→Prop} (h:ini.length≤1000) (q:Q r.av):OB (subop (H++[.list ((ini++[r]).map Row.av)]) (.ref H.length) (.int (-1))) Q:=by
 refine ⟨_,?_,q⟩
 show (match listOf? (H++[AO.list ((ini++[r]).map Row.av)]) (.ref H.length) with|some l=>itemAt l (-1)|none=>none)=_
 rw [Zgc]
 show itemAt _ _=_
 unfold itemAt
 rw [if_pos ⟨by exact Int.natCast_nonneg _,by exact Int.natCast_nonneg _⟩,if_neg (by decide),if_pos (by simp; omega)]
 have:(-1+(((ini++[r]).map Row.av).length:Int)).toNat=(ini.map Row.av).length:=by simp; omega
 rw [this]
 simp
theorem Zse {ini:List Row} {r:Row} {v:AV} {Q:AH→Prop} (h:ini.length≤1000) (q:Q (H++[.list (ini.map Row.av++[v])])):OB (setAt (H++[.list ((ini++[r]).map Row.av)]) (.ref H.length) (stoF (.int (-1)) v)) Q:=by
 refine ⟨_,Zgd ?_,q⟩
 unfold stoF
 simp only
 rw [if_pos ⟨by simp; exact Nat.le_trans (by assumption) (by decide),by simp; omega,by simp; exact Int.natCast_nonneg _⟩,if_neg (by decide)]
 have:(-1+(((ini++[r]).map Row.av).length:Int)).toNat=(ini.map Row.av).length:=by simp; omega
 rw [this]
 simp
theorem pick64 {x:Int} (h:0≤x∧x < 6):∃ b d:Int,0≤b∧b≤3∧2≤d∧d≤4∧([AV.int 1,AV.int 2,AV.int 1,AV.int 2,AV.int 0,AV.int 3]:List AV)[x.toNat]?=some (.int b)∧([AV.int 4,AV.int 4,AV.int 4,AV.int 2]:List AV)[b.toNat]?=some (.int d):=by
 refine e1a2 (six h) fun n hn e=>?_
 rw [e]
 exact match n,hn with
  | 0,_=>⟨1,4,by decide,by decide,by decide,by decide,rfl,rfl⟩
  | 1,_=>⟨2,4,by decide,by decide,by decide,by decide,rfl,rfl⟩
  | 2,_=>⟨1,4,by decide,by decide,by decide,by decide,rfl,rfl⟩
  | 3,_=>⟨2,4,by decide,by decide,by decide,by decide,rfl,rfl⟩
  | 4,_=>⟨0,4,by decide,by decide,by decide,by decide,rfl,rfl⟩
  | 5,_=>⟨3,2,by decide,by decide,by decide,by decide,rfl,rfl⟩
  | n+6,h=>absurd h (Nat.not_lt.mpr (Nat.le_add_left 6 n))
theorem Zsf {x:Int} {b:Bool} (h:0≤x∧x < 7):1≤1+x+9 * (if b=true then 1 else 0:Int)∧1+x+9 * (if b=true then 1 else 0:Int)≤16:=by
 cases b with
 | true=>show 1≤1+x+9 * 1∧1+x+9 * 1≤16; omega
 | false=>show 1≤1+x+9 * 0∧1+x+9 * 0≤16; omega
theorem Zsg {x d:Int} (h:0≤x∧x < d) (hd:d≤4):1≤1+x∧1+x≤4:=⟨Int.le_add_of_nonneg_right h.1,by omega⟩
noncomputable def PrI (b mo M:Int) (H:AH) (j:Nat) (σ:Loc) (H':AH):Prop:=σ 2=some (.int b)∧σ 3=some (.int mo)∧σ 4=some (.int M)∧σ 5=some (.ref H.length)∧(∃ s,0≤s∧σ 1=some (.int s))∧∃ rows:List Row,rows.length=j∧(∀ r∈rows,r.Ok b mo M)∧H'=H++[AO.list (rows.map Row.av)]
theorem Zsh {n:Nat} {c:Int} (q:∀ P:Prog,P.Ok→Q P.av H):W (fns tbl (n+2) Zkg [.int c] H) Q:=by
 refine Zrr (run_g1 (fun σ₀ R s0 hR=>?_))
 unfold Zny
 have hs:=nx_lo c
 have hd:=fun k:Int=>fd (nx c) (b:=k) hs
 have h6:0≤(nx c).fmod 6∧(nx c).fmod 6 < 6:=fm _ (by decide)
 have h4:0≤((nx c).fdiv 6).fmod 4∧((nx c).fdiv 6).fmod 4 < 4:=fm _ (by decide)
 have h7:0≤((nx c).fdiv 24).fmod 7∧((nx c).fdiv 24).fmod 7 < 7:=fm _ (by decide)
 (repeat' (first|refine next_w ?_|refine s_seq ?_|refine s_asg ?_|refine w_bin ?_|refine w_cst ?_|refine w_loc (by first|rfl|assumption) ?_|refine Zfv ?_|refine w_cons ?_|refine w_nil ?_|refine w_lst ?_|refine w_sub ?_|refine ob_mod (by decide) ?_|fail))
 refine e2a6 (pick64 h6) fun b d b0 b3 d2 d4 eb ed=>?_
 have h4:=fm ((nx c).fdiv 6) (b:=d) (by exact Int.le_of_lt (by assumption))
 refine Zgr h6.1 (by omega) eb ?_
 (repeat' (first|refine Zgr b0 (by exact Int.le_trans (by assumption) (by decide)) ed ?_|refine s_seq ?_|refine s_asg ?_|refine s_for ?_|refine w_bin ?_|refine w_cst ?_|refine w_loc (by first|rfl|assumption) ?_|refine Zfw ?_|refine w_cons ?_|refine w_nil ?_|refine w_lst ?_|refine w_newL ?_|refine w_sub ?_|refine w_cmp ?_|refine ob_add ?_|refine ob_mod (by decide) ?_|refine Zf1 (by decide) ?_|refine ob_mul (.inr (by decide)) ?_|refine ob_mod (by omega) ?_|refine ob_eqI ?_|refine Zgo ?_|refine Zgl (by omega) (by omega) ?_|refine Zgm (by omega) (by omega) ?_|fail))
 generalize hM:(1+((nx c).fdiv 24).fmod 7+9 * if decide (((nx c).fdiv 200).fmod 8=3)=true then 1 else 0)=M
 have hM':1≤M∧M≤16:=hM ▸ Zsf h7
 generalize hm:1+((nx c).fdiv 6).fmod d=mo
 have hm':1≤mo∧mo≤4:=hm ▸ Zsg h4 d4
 refine Zgj (PrI b mo M H) ?_ ?_ ⟨rfl,rfl,rfl,rfl,⟨_,hs,rfl⟩,[],rfl,fun r h=>(nomatch h),rfl⟩
 ·intro j σ H' hj h
  refine Zaf h fun s2 s3 s4 s5 qZ4 rows hl hr eZ8=>?_; obtain ⟨s,hs,s1⟩:=qZ4; subst eZ8
  have hs':=nx_lo (s+j)
  (repeat' (first|refine next_w ?_|refine row_w (nx_lo _) b0 (by omega) (by omega) (fun r hr'=>?_)|refine ob_app (by simp; omega) ?_|refine And.intro (Zgb _ _) ?_|refine s_seq ?_|refine s_asg ?_|refine s_expr ?_|refine w_bin ?_|refine w_loc (by first|rfl|assumption) ?_|refine Zfv ?_|refine w_cons ?_|refine w_nil ?_|refine w_meth ?_|refine ob_add ?_|fail))
  refine ⟨s2,s3,s4,s5,⟨_,nx_lo _,rfl⟩,rows++[r],by simp [hl],?_,by simp⟩
  intro r' h'
  rcases List.mem_append.mp h' with h'|h'
  ·exact hr r' h'
  ·rw [List.mem_singleton.mp h']; exact hr'
 ·intro σ H' h
  refine Zaf h fun s2 s3 s4 s5 qZ4 rows hl hr eZ8=>?_; obtain ⟨s,hs,s1⟩:=qZ4; subst eZ8
  have hne:rows≠[]:=by intro e; rw [e] at hl; simp at hl; omega
  obtain ⟨ini,r,rfl⟩:∃ ini r,rows=ini++[r]:=⟨rows.dropLast,rows.getLast hne,(List.dropLast_concat_getLast hne).symm⟩
  have hil:ini.length+1=M.toNat:=by simpa using hl
  have fin:∀ r:Row,r.Ok b mo M→r.last→(H++[AO.list ((ini++[r]).map Row.av)]).take H.length=H∧OB (freeze H.length (H++[.list ((ini++[r]).map Row.av)]) 12 (.tup [.int b,.int mo,.ref H.length])) fun v'=>Q v' H:=by
   intro r h₁ h₂
   have hok:(Prog.mk b mo (ini++[r])).Ok:=by
    refine ⟨b0,b3,hm'.1,hm'.2,?_,?_,?_,ini,r,rfl,h₂⟩
    ·show 1≤(ini++[r]).length
     simp
    ·show (ini++[r]).length≤16
     simp; omega
    ·intro r' h'
     have:((ini++[r]).length:Int)=M:=by simp; omega
     show r'.Ok b mo ((ini++[r]).length:Int)
     rw [this]
     rcases List.mem_append.mp h' with h'|h'
     ·exact hr r' (List.mem_append_left _ h')
     ·rw [List.mem_singleton.mp h']; exact h₁
   refine ⟨Zf9 _ _,(Prog.mk b mo (ini++[r])).av,?_,q _ hok⟩
   exact Zg1 (Zgz Zg2 (Zgz Zg2 (Zgz (Zgi (n:=10) (Zsa (by decide))) Zg0)))
  refine s_seq (s_if (t_cmp ?_))
  (repeat' (first|refine Zsd (by omega) ?_|refine Zsc r ?_|refine Zsb r (fun h=>if_ff ?_) (fun h=>if_tt ?_)|refine Zfx (W.mono (P:=fun v H'=>H'=(H++[AO.list ((ini++[r]).map Row.av)])∧∃ r:Row,r.Ok b mo M∧r.last∧v=r.av) ?_ ?_)|refine s_ret ?_|refine s_nil ?_|refine w_bin ?_|refine w_cst ?_|refine w_loc (by first|rfl|assumption) ?_|refine w_cons ?_|refine w_nil ?_|refine w_tup ?_|refine w_lst ?_|refine w_sub ?_|refine w_neg ?_|refine ob_mod (by decide) ?_|refine Zf1 (by decide) ?_|refine ob_mod (by omega) ?_|refine int_ex ?_|refine hR _ _ ?_|fail))
  ·exact fin r (hr r (by simp)) h
  ·have hq:0≤((s.fdiv 1000).fmod 3).fdiv 2∧((s.fdiv 1000).fmod 3).fdiv 2 < 2:=by
    have:=fm (s.fdiv 1000) (b:=3) (by decide)
    rw [Zgp _ (b:=2) (by decide)]
    omega
   have hg:=fm (s.fdiv 7) (b:=M) (by omega)
   exact ob_two hq.1 hq.2 (fun _=>⟨rfl,.go _,hg,trivial,rfl⟩) fun _=>⟨rfl,.stop,trivial,trivial,rfl⟩
  ·intro v H' h
   refine maeaa h fun eZ0 r' hok hla eZ4=>?_; clear h; subst eZ0; subst eZ4
   (repeat' (first|refine Zse (by omega) ?_|refine s_ret ?_|refine w_cst ?_|refine w_loc (by first|rfl|assumption) ?_|refine w_cons ?_|refine w_nil ?_|refine w_tup ?_|refine w_neg ?_|refine int_ex ?_|refine hR _ _ ?_|fail))
   have:=fin r' hok hla
   rw [List.map_append] at this
   exact this
noncomputable def NumsOk (P:Prog) (xs:List Int):Prop:=(xs.length:Int)=P.boxes∧∀ x∈xs,0≤x∧x≤P.most
theorem Zsi {l:List Int} {n:Nat}:∀ v∈l.map AV.int,flat (n+1) v=true:=by
 intro v hv
 refine e1a2 (List.mem_map.mp hv) fun r _ eZ2=>?_; subst eZ2
 rfl
inductive Rule where
 | is (v:Option Int)
 | byBox (b:Int) (vs:List (Option Int))
noncomputable def Rule.av:Rule→AV
 | .is v=>.tup [.str "is",ov v]
 | .byBox b vs=>.tup [.str "by",.int b,.tup (vs.map ov)]
noncomputable def OkN (M:Int) (v:Option Int):Prop:=∀ i,v=some i→0≤i∧i≤M
noncomputable def Rule.Ok (n m M:Int):Rule→Prop
 | .is v=>OkN M v
 | .byBox b vs=>(0≤b∧b < n)∧(vs.length:Int)=m+1∧∀ v∈vs,OkN M v
theorem Zsj {l:List (Option Int)} {n:Nat}:∀ v∈l.map ov,flat (n+1) v=true:=by
 intro v hv
 refine e1a2 (List.mem_map.mp hv) fun r _ eZ2=>?_; subst eZ2
 exact Zgn r
theorem Rule.flat_of (r:Rule) {n:Nat} (h:3≤n):Mine.flat n r.av=true:=by
 refine Zgh _ h ?_
 cases r with
 | is v=>cases v <;> rfl
 | byBox b vs =>
  refine Zgu ?_
  intro v hv
  simp at hv
  rcases hv with rfl|rfl|rfl
  ·rfl
  ·rfl
  ·exact Zgu Zsj
noncomputable def RuI (s:Int) (one two:Prog) (H:AH) (j:Nat) (σ:Loc) (H':AH):Prop:=σ 0=some (.int s)∧σ 1=some one.av∧σ 2=some two.av∧σ 3=some (.ref H.length)∧∃ vs:List (Option Int),vs.length=j∧(∀ v∈vs,OkN two.most v)∧H'=H++[AO.list (vs.map ov)]
theorem rule_w {n:Nat} {s:Int} {one two:Prog} (h1:one.Ok) (h2:two.Ok) (hs:0≤s) (q:∀ r:Rule,r.Ok one.boxes one.most two.most→Q r.av H):W (fns tbl (n+1) Zkh [.int s,one.av,two.av] H) Q:=by
 refine Zrs (run_g3 (fun σ₀ R s0 s1 s2 hR=>?_))
 unfold Zn3
 have b0:=h1.b0
 have m1:=h2.m1
 have n1:=h1.m1
 have n4:=h1.m4
 have hm:=fun a=>fm a (b:=two.most+1) (by omega)
 have hv:∀ a (v:Option Int),(∀ i,v=some i→i=Int.fmod a (two.most+1))→OkN two.most v:=by
  intro a v h i e
  have:=hm a
  rw [← h i e] at this
  omega
 (repeat' (first|refine s_seq ?_|refine s_if ?_|refine s_ret ?_|refine s_asg ?_|refine s_nil ?_|refine s_for ?_|refine w_bin ?_|refine w_cst ?_|refine w_loc (by first|rfl|assumption) ?_|refine Zfw ?_|refine w_cons ?_|refine w_nil ?_|refine w_tup ?_|refine w_lst ?_|refine w_newL ?_|refine w_sub ?_|refine w_cmp ?_|refine t_cmp ?_|refine t_or ?_|refine ob_add ?_|refine ob_mod (by decide) ?_|refine Zf1 (by decide) ?_|refine ob_mod (by omega) ?_|refine ob_eqI ?_|refine if_dec (fun _=>?_) (fun _=>?_)|refine if_tt ?_|refine Zgo ?_|refine Zgl (by omega) (by omega) ?_|refine Zgm (by omega) (by omega) ?_|refine OB.of (by rfl) ?_|fail))
 ·exact ob_opt fun v h=>w_nil (hR _ _ (Zgx ((Rule.is v).flat_of (by decide)) (q (.is v) (hv _ v h))))
 ·exact ob_opt fun v h=>w_nil (hR _ _ (Zgx ((Rule.is v).flat_of (by decide)) (q (.is v) (hv _ v h))))
 ·refine Zgj (RuI s one two H) ?_ ?_ ⟨s0,s1,s2,rfl,[],rfl,fun r h=>(nomatch h),rfl⟩
  ·intro j σ H' hj h
   refine Zah h fun s0 s1 s2 s3 vs hl hr eZ7=>?_; clear h; subst eZ7
   refine s_expr (w_meth (w_loc s3 ⟨Zgb H _,?_⟩))
   (repeat' (first|refine w_bin ?_|refine w_cst ?_|refine w_loc (by first|rfl|assumption) ?_|refine Zfw ?_|refine w_cons ?_|refine w_nil ?_|refine w_lst ?_|refine w_sub ?_|refine w_cmp ?_|refine ob_add ?_|refine ob_mod (by decide) ?_|refine ob_mul (.inr (by decide)) ?_|refine ob_mod (by omega) ?_|refine Zf1 (by omega) ?_|refine ob_eqI ?_|refine Zgo ?_|refine OB.of (by rfl) ?_|fail))
   refine ob_opt fun v h=>w_nil (ob_app (by simp; omega) ?_)
   refine ⟨s0,s1,s2,s3,vs++[v],by simp [hl],?_,by simp⟩
   intro r' h'
   rcases List.mem_append.mp h' with h'|h'
   ·exact hr r' h'
   ·rw [List.mem_singleton.mp h']; exact hv _ v h
  ·intro σ H' h
   refine Zah h fun s0 s1 s2 s3 vs hl hr eZ7=>?_; clear h; subst eZ7
   (repeat' (first|refine s_ret ?_|refine w_bin ?_|refine w_cst ?_|refine w_loc (by first|rfl|assumption) ?_|refine Zfw ?_|refine w_cons ?_|refine w_nil ?_|refine w_tup ?_|refine w_sub ?_|refine Zf1 (by decide) ?_|refine ob_mod (by omega) ?_|refine OB.of (by rfl) ?_|fail))
   refine Zgs (by simp; omega) (w_nil ?_)
   have hb:=fm (s.fdiv 400) (b:=one.boxes) (by omega)
   exact hR _ _ (Zgw ((Rule.byBox _ vs).flat_of (by decide)) (q (.byBox _ vs) ⟨hb,by first|exact Zaq (by omega) (by assumption)|omega,hr⟩))
noncomputable def numOf (xs:List Int):Rule→Option Int
 | .is v=>v
 | .byBox b vs=>vs.getD (xs.getD b.toNat 0).toNat none
theorem getD_some {α:Type} {l:List α} {k:Nat} {d:α} (h:k < l.length):l[k]?=some (l.getD k d):=by
 rw [List.getD_eq_getElem?_getD,List.getElem?_eq_getElem h]; rfl
theorem Zsk {one:Prog} {xs:List Int} (hx:NumsOk one xs) {b:Int} (h0:0≤b) (h1:b < one.boxes):(xs.map AV.int)[b.toNat]?=some (.int (xs.getD b.toNat 0))∧0≤xs.getD b.toNat 0∧xs.getD b.toNat 0≤one.most:=by
 have hl:=hx.1
 have hlt:b.toNat < xs.length:=by omega
 have e:=getD_some (d:=0) hlt
 refine ⟨?_,hx.2 _ ?_⟩
 ·rw [List.getElem?_map,e]; rfl
 ·exact List.mem_of_getElem? e
theorem vs_at {vs:List (Option Int)} {k:Int} (h0:0≤k) (h1:k < vs.length):(vs.map ov)[k.toNat]?=some (ov (vs.getD k.toNat none)):=by
 rw [List.getElem?_map,getD_some (d:=none) (by omega)]; rfl
noncomputable def tv (l:List (Option Int)):AV:=if l.any Option.isNone then .none else .tup (l.map ov)
theorem Zsl {n:Nat} {one:Prog} {M:Int} (h1:one.Ok) {rs:List Rule} (hl:rs.length≤1000) (hr:∀ r∈rs,r.Ok one.boxes one.most M) {xs:List Int} (hx:NumsOk one xs) (q:Q (tv (rs.map (numOf xs))) H) :
  W (fns tbl (n+1) Zkl [.tup (rs.map Rule.av),.tup (xs.map .int)] H) Q:=by
 refine Zrw (run_g2 (fun σ₀ R s0 s1 hR=>?_))
 unfold Zov
 (repeat' (first|refine s_seq ?_|refine s_asg ?_|refine s_for ?_|refine w_loc (by first|rfl|assumption) ?_|refine w_nil ?_|refine w_newL ?_|refine OB.of (by rfl) ?_|fail))
 refine Zgk (fun rest σ H'=>σ 1=some (.tup (xs.map .int))∧σ 2=some (.ref H.length)∧∃ done,rs=done++rest∧(∀ r∈done,(numOf xs r).isNone=false)∧H'=H++[AO.list ((done.map (numOf xs)).map ov)]) ?_ ?_ ⟨s1,rfl,[],rfl,fun r h=>(nomatch h),rfl⟩
 ·intro r rest σ H' h
  obtain ⟨s1,s2,done,e,hd,rfl⟩:=h
  have hr':r∈rs:=by rw [e]; simp
  have hok:=hr r hr'
  have hdl:done.length≤1000:=by rw [e] at hl; simp at hl; omega
  have tail:∀ σ:Loc,σ 1=some (.tup (xs.map .int))→σ 2=some (.ref H.length)→σ 4=some (ov (numOf xs r)) →
   WS (sSeq (sIf (tVal (dCmp .is (dLoc 4) (dCst .none))) (sRet (dCst .none)) sNil) (sExpr (dMeth appM (dLoc 2) [dLoc 4])) σ (H++[AO.list ((done.map (numOf xs)).map ov)]))
    (fun σ H'=>σ 1=some (.tup (xs.map .int))∧σ 2=some (.ref H.length)∧∃ done,rs=done++rest∧(∀ r∈done,(numOf xs r).isNone=false)∧H'=H++[AO.list ((done.map (numOf xs)).map ov)])
    R:=by
   intro σ s1 s2 s4
   cases hn:numOf xs r with
   | none =>
    rw [hn] at s4
    (repeat' (first|refine s_seq ?_|refine s_if ?_|refine s_ret ?_|refine w_cst ?_|refine w_loc (by first|rfl|assumption) ?_|refine t_cmp ?_|refine if_tt ?_|refine OB.of (by rfl) ?_|refine hR _ _ ?_|fail))
    have e:tv (rs.map (numOf xs))=.none:=by
     unfold tv
     rw [if_pos (by rw [e]; simp [hn])]
    rw [e] at q
    exact Zgw rfl q
   | some i =>
    rw [hn] at s4
    (repeat' (first|refine ob_app (by simp; omega) ?_|refine And.intro (Zgb _ _) ?_|refine s_seq ?_|refine s_if ?_|refine s_nil ?_|refine s_expr ?_|refine w_cst ?_|refine w_loc (by first|rfl|assumption) ?_|refine w_cons ?_|refine w_nil ?_|refine w_meth ?_|refine t_cmp ?_|refine if_ff ?_|refine OB.of (by rfl) ?_|fail))
    refine ⟨s1,s2,done++[r],by rw [e]; simp,?_,by simp [hn,ov]⟩
    intro r' h'
    rcases List.mem_append.mp h' with h'|h'
    ·exact hd r' h'
    ·rw [List.mem_singleton.mp h',hn]; rfl
  have hb3:=h1.b3
  have hm4:=h1.m4
  cases r with
  | is v =>
   refine s_seq (s_asg (w_sub (w_loc (upd_self ..) (w_cst (OB.of (v:=ov v) rfl (s_seq (s_if ?_)))))))
   (repeat' (first|refine tail _ s1 s2 (upd_self ..)|refine s_nil ?_|refine w_cst ?_|refine w_loc (by first|rfl|assumption) ?_|refine w_sub ?_|refine t_cmp ?_|refine Zg4 (by decide +kernel) ?_|refine if_ff ?_|refine OB.of (by rfl) ?_|fail))
  | byBox b vs =>
   have hb:=Zsk hx hok.1.1 hok.1.2
   have h₁:=hok.1.1
   have h₂:=hok.1.2
   have h₃:=hok.2.1
   refine s_seq (s_asg (w_sub (w_loc (upd_self ..) (w_cst (OB.of (v:=.int b) rfl (s_seq (s_if ?_)))))))
   (repeat' (first|refine tail _ s1 s2 (upd_self ..)|refine s_asg ?_|refine w_cst ?_|refine w_loc (by first|rfl|assumption) ?_|refine w_sub ?_|refine t_cmp ?_|refine Zg3 (by decide +kernel) ?_|refine if_tt ?_|refine OB.of (by rfl) ?_|fail))
   exact Zgq h₁ (by omega) hb.1 (Zgq hb.2.1 (by omega) (vs_at hb.2.1 (by omega)) (tail _ s1 s2 (upd_self ..)))
 ·intro σ H' h
  obtain ⟨s1,s2,done,e,hd,rfl⟩:=h
  have hdl:done.length≤1000:=by rw [e] at hl; simp at hl; omega
  (repeat' (first|refine s_ret ?_|refine w_loc (by first|rfl|assumption) ?_|refine Zfw ?_|refine w_cons ?_|refine w_nil ?_|fail))
  refine Zgs (by simp; omega) ?_
  have e:tv (rs.map (numOf xs))=.tup ((done.map (numOf xs)).map ov):=by
   unfold tv
   have:rs=done:=by rw [e]; simp
   rw [this,if_neg]
   intro h
   obtain ⟨v,hv,h⟩:=List.any_eq_true.mp h
   obtain ⟨r,hr,rfl⟩:=List.mem_map.mp hv
   rw [hd r hr] at h
   cases h
  rw [e] at q
  exact hR _ _ (Zgw (Zgu Zsj) q)
theorem Zsm (xs:List Int):data H 12 (.tup (xs.map .int))=some (.tuple (xs.map .int)):=by
 show Option.map PyData.tuple ((xs.map AV.int).mapM (data H 11))=_
 have:∀ xs:List Int,(xs.map AV.int).mapM (data H 11)=some (xs.map PyData.int):=by
  intro xs
  induction xs with
  | nil=>rfl
  | cons x r ih=>rw [List.map_cons,List.mapM_cons,ih]; rfl
 rw [this]; rfl
theorem Zsn (xs:List Int):SeqAt.shaped (.tuple (xs.map .int))=true:=by
 have h:∀ xs:List Int,PyData.canLayAll0 (xs.map .int)=true∧PyData.depthAll (xs.map .int)≤1:=by
  intro xs
  induction xs with
  | nil=>exact ⟨rfl,by simp [PyData.depthAll]⟩
  | cons x r ih =>
   refine ⟨?_,?_⟩
   ·simp [PyData.canLayAll0,PyData.canLay0,ih.1]
   ·rw [List.map_cons,PyData.depthAll]
    have:PyData.depth (.int x)≤1:=by simp [PyData.depth]
    have:=ih.2
    assumption
 unfold SeqAt.shaped
 rw [PyData.canLay0,(h xs).1,PyData.depth]
 have:=(h xs).2
 simp; exact Nat.le_trans (by assumption) (by decide)
structure Place where
 row:Int
 other:Int
 rules:List Rule
noncomputable def Place.av (p:Place):AV:=.tup [.int p.row,.int p.other,.tup (p.rules.map Rule.av)]
structure Place.Ok (one two:Prog) (p:Place):Prop where
 r0:0≤p.row
 r1:p.row < one.rows.length
 o0:0≤p.other
 o1:p.other < two.rows.length
 rl:(p.rules.length:Int)=two.boxes
 ok:∀ r∈p.rules,r.Ok one.boxes one.most two.most
structure POk (one two:Prog) (ps:List Place):Prop where
 len:ps.length≤16
 nd:(ps.map Place.row).Nodup
 ok:∀ p∈ps,p.Ok one two
theorem Place.flat_of (p:Place) {n:Nat} (h:5≤n):Mine.flat n p.av=true:=by
 refine Zgh _ h (Zgu (n:=4) ?_)
 intro v hv
 simp at hv
 rcases hv with rfl|rfl|rfl
 ·rfl
 ·rfl
 ·refine Zgu (n:=3) ?_
  intro v hv
  refine e1a2 (List.mem_map.mp hv) fun r _ eZ2=>?_; subst eZ2
  exact r.flat_of (by exact Nat.le_refl _)
theorem Zso {l:List Place} {n:Nat} (h:5≤n):∀ v∈l.map Place.av,flat n v=true:=by
 intro v hv
 refine e1a2 (List.mem_map.mp hv) fun r _ eZ2=>?_; subst eZ2
 exact r.flat_of h
noncomputable def PlI (one two:Prog) (H:AH) (j:Nat) (σ:Loc) (H':AH):Prop:=σ 1=some one.av∧σ 2=some two.av∧σ 3=some (.ref H.length)∧(∃ s,σ 4=some (.int s))∧∃ ps:List Place,ps.length≤j∧(ps.map Place.row).Nodup∧(∀ p∈ps,p.Ok one two∧p.row < j)∧H'=H++[AO.list (ps.map Place.av)]
theorem Zsp {n:Nat} {c:Int} {one two:Prog} (h1:one.Ok) (h2:two.Ok) (q:∀ ps,POk one two ps→Q (.lst (ps.map Place.av)) H):W (fns tbl (n+2) Zki [.int c,one.av,two.av] H) Q:=by
 refine Zrt (run_g3 (fun σ₀ R s0 s1 s2 hR=>?_))
 unfold Zob
 have r1:=h1.r1
 have r16:=h1.r16
 have t1:=h2.r1
 have t16:=h2.r16
 have b0:=h2.b0
 have b3:=h2.b3
 (repeat' (first|refine next_w ?_|refine Zhu (by exact Nat.le_trans (by assumption) (by decide)) ?_|refine s_seq ?_|refine s_asg ?_|refine s_for ?_|refine w_cst ?_|refine w_loc (by first|rfl|assumption) ?_|refine Zfv ?_|refine Zfw ?_|refine w_cons ?_|refine w_nil ?_|refine w_newL ?_|refine w_sub ?_|refine Zgl (by omega) (by omega) ?_|refine Zgm (by omega) (by omega) ?_|refine OB.of (by rfl) ?_|fail))
 refine Zgj (PlI one two H) ?_ ?_ ⟨s1,s2,rfl,⟨_,rfl⟩,[],by simp,by simp,fun r h=>(nomatch h),rfl⟩
 ·intro j σ H' hj h
  refine Zai h fun s1 s2 s3 qZ3 ps hl hnd hok eZ8=>?_; clear h; refine Exists.elim qZ3 fun s s4=>?_; subst eZ8
  have hs':=nx_lo (s+j)
  (repeat' (first|refine next_w ?_|refine s_seq ?_|refine s_if ?_|refine s_asg ?_|refine s_nil ?_|refine w_bin ?_|refine w_cst ?_|refine w_loc (by first|rfl|assumption) ?_|refine Zfv ?_|refine Zfw ?_|refine w_cons ?_|refine w_nil ?_|refine t_cmp ?_|refine ob_add ?_|refine ob_mod (by decide) ?_|refine if_dec (fun _=>?_) (fun _=>?_)|refine OB.of (by rfl) ?_|fail))
  ·refine Zg6 (f:=fun k:Nat=>AV.int k) (P:=fun _ x=>∃ r:Rule,r.Ok one.boxes one.most two.most∧x=r.av) ?_
   (repeat' (first|refine w_cst ?_|refine w_loc (by first|rfl|assumption) ?_|refine Zfw ?_|refine w_cons ?_|refine w_nil ?_|refine w_sub ?_|refine Zgl (by omega) (by omega) ?_|refine OB.of (by rfl) ?_|fail))
   refine ⟨List.range two.boxes.toNat,?_,by simp; exact Int.le_trans (by assumption) (by decide),?_,?_⟩
   ·show (if -1048576≤two.boxes∧two.boxes≤1048576 then some (rangeL two.boxes) else none)=_
    rw [if_pos ⟨by omega,by exact Int.le_trans (by assumption) (by decide)⟩]; rfl
   ·intro k hk H'
    (repeat' (first|refine next_w ?_|refine rule_w h1 h2 (nx_lo _) (fun r hr=>?_)|refine w_bin ?_|refine w_cst ?_|refine w_loc (by first|rfl|assumption) ?_|refine Zfv ?_|refine w_cons ?_|refine w_nil ?_|refine ob_add ?_|refine ob_mul (.inr (by decide)) ?_|fail))
    exact ⟨rfl,r.flat_of (by decide),r,hr,rfl⟩
   ·intro ys ha
    have hyl:=ha.length
    refine e1a2 (ha.pick (f:=Rule.av) (R:=fun r:Rule=>r.Ok one.boxes one.most two.most) fun a b p=>p) fun rs eZ1 hrs=>?_; subst eZ1
    have hrl:(rs.length:Int)=two.boxes:=by simp at hyl; first|exact Zaq h2.b0 hyl|omega
    have hi:=fun a=>fm a (b:=(ps.length:Int)+1) (by omega)
    have hi2:=fun a=>fm a (b:=(two.rows.length:Int)) (by omega)
    refine w_nil (Zgt (by simp; omega) ?_)
    (repeat' (first|refine next_w ?_|refine Zhu (by exact Nat.le_trans (by assumption) (by decide)) ?_|refine Zhv (by omega) ?_|refine And.intro (Zgb _ _) ?_|refine s_expr ?_|refine w_bin ?_|refine w_cst ?_|refine w_loc (by first|rfl|assumption) ?_|refine Zfw ?_|refine w_cons ?_|refine w_nil ?_|refine w_tup ?_|refine w_sub ?_|refine w_meth ?_|refine ob_add ?_|refine Zf1 (by decide) ?_|refine ob_mod (by omega) ?_|refine OB.of (by rfl) ?_|fail))
    refine ob_ins (by simp; omega) (hi _).1 (by have:=(hi ((nx (s+j)).fdiv 9)).2; simp; omega) ?_
    generalize hp:(Place.mk j (((nx (s+j)).fdiv 5).fmod two.rows.length) rs)=p
    have hpok:p.Ok one two:=by
     subst hp
     exact ⟨by show (0:Int)≤j; exact Int.natCast_nonneg _,by show (j:Int) < _; assumption,(hi2 _).1,(hi2 _).2,hrl,hrs⟩
    have hperm:=List.perm_middle (a:=p) (l₁:=ps.take (((nx (s+j)).fdiv 9).fmod (ps.length+1)).toNat) (l₂:=ps.drop (((nx (s+j)).fdiv 9).fmod (ps.length+1)).toNat)
    rw [List.take_append_drop] at hperm
    have hrow:p.row=j:=by subst hp; rfl
    refine ⟨s1,s2,s3,⟨_,rfl⟩,ps.take (((nx (s+j)).fdiv 9).fmod (ps.length+1)).toNat++p::ps.drop (((nx (s+j)).fdiv 9).fmod (ps.length+1)).toNat,?_,?_,?_,?_⟩
    ·rw [hperm.length_eq]; simp; assumption
    ·rw [(hperm.map Place.row).nodup_iff,List.map_cons,List.nodup_cons]
     refine ⟨fun hm=>?_,hnd⟩
     refine e1a2 (List.mem_map.mp hm) fun p' hp' e=>?_
     have:=(hok p' hp').2
     omega
    ·intro p' hp'
     rcases List.mem_cons.mp (hperm.mem_iff.mp hp') with rfl|h
     ·exact ⟨hpok,by omega⟩
     ·exact ⟨(hok p' h).1,by have:=(hok p' h).2; omega⟩
    ·subst hp
     simp [List.map_take,List.map_drop]
     rfl
  ·exact ⟨s1,s2,s3,⟨_,rfl⟩,ps,by omega,hnd,fun p hp=>⟨(hok p hp).1,by have:=(hok p hp).2; omega⟩,rfl⟩
 ·intro σ H' h
  refine Zai h fun s1 s2 s3 qZ3 ps hl hnd hok eZ8=>?_; clear h; refine Exists.elim qZ3 fun s s4=>?_; subst eZ8
  (repeat' (first|refine s_ret ?_|refine w_loc (by first|rfl|assumption) ?_|refine hR _ _ ?_|fail))
  exact Zgy (Zso (by decide)) (q ps ⟨by omega,hnd,fun p hp=>(hok p hp).1⟩)
noncomputable def pv:Option Place→AV
 | none=>.none
 | some p=>p.av
noncomputable def nice:AV→Bool
 | .none=>true
 | .bool _=>true
 | .int _=>true
 | .str _=>true
 | .tup _=>true
 | .lst _=>true
 | _=>false
noncomputable def among (lo hi:Int):AV→Bool
 | .int i=>decide (lo≤i)&&decide (i≤hi)
 | _=>false
theorem Zsq {v:AV} (h:nice v=true) (h1:∀ i,v≠.int i) (h2:∀ b,v≠.bool b) {Q:AV→Prop} (q:Q (.bool false)):OB (appBI H .isinstance [v,.bi .int]) Q:=by
 cases v <;> first|exact ⟨_,rfl,q⟩|exact absurd rfl (h1 _)|exact absurd rfl (h2 _)|exact nomatch h
theorem fin_b {b c:Bool} (e:b=c) (q:Q (.bool b) H):H.take H.length=H∧OB (freeze H.length H 12 (.bool c)) fun v'=>Q v' H:=by subst e; exact Zgx rfl q
theorem Zsr {n:Nat} {v:AV} (hv:nice v=true) {lo hi:Int} (q:Q (.bool (among lo hi v)) H):W (fns tbl (n+1) Zjx [v,.int lo,.int hi] H) Q:=by
 refine Zq8 (run_w rfl ?_)
 unfold Zkx
 by_cases h1:∃ i,v=.int i
 ·refine Exists.elim h1 fun i eZ1=>?_; subst eZ1
  (repeat' (first|refine s_ret ?_|refine w_cst ?_|refine w_loc (by first|rfl|assumption) ?_|refine Zfw ?_|refine w_cons ?_|refine w_nil ?_|refine w_not ?_|refine w_and ?_|refine w_cmp2 ?_|refine t_val ?_|refine if_dec (fun _=>?_) (fun _=>?_)|refine if_tt ?_|refine Zf0 ?_|refine OB.of (by rfl) ?_|fail))
  ·rename_i h
   refine fin_b ?_ q
   unfold among; simp [h]
  ·rename_i h
   refine fin_b ?_ q
   unfold among; simp [h]
 ·by_cases h2:∃ b,v=.bool b
  ·refine Exists.elim h2 fun b eZ1=>?_; subst eZ1
   (repeat' (first|refine s_ret ?_|refine w_cst ?_|refine w_loc (by first|rfl|assumption) ?_|refine Zfw ?_|refine w_cons ?_|refine w_nil ?_|refine w_not ?_|refine w_and ?_|refine t_val ?_|refine if_tt ?_|refine if_ff ?_|refine Zf0 ?_|refine OB.of (by rfl) ?_|fail))
   exact Zgx rfl q
  ·(repeat' (first|refine Zsq hv (fun i e=>h1 ⟨i,e⟩) (fun b e=>h2 ⟨b,e⟩) ?_|refine s_ret ?_|refine w_cst ?_|refine w_loc (by first|rfl|assumption) ?_|refine Zfw ?_|refine w_cons ?_|refine w_nil ?_|refine w_and ?_|refine if_ff ?_|refine Zf0 ?_|fail))
   refine fin_b ?_ q
   cases v <;> first|rfl|exact absurd ⟨_,rfl⟩ h1
noncomputable def nums (xs:List Int):AV:=.tup (xs.map .int)
theorem Zss {X:Type} {f:X→AV} (l:List X) (k:Int):cut (l.map f) none (some k)=(l.take k.toNat).map f:=by
 show ((l.map f).take k.toNat).drop 0=_
 rw [List.drop_zero,List.map_take]
theorem Zst {X:Type} {f:X→AV} (l:List X) (k:Int):cut (l.map f) (some k) none=(l.drop k.toNat).map f:=by
 show ((l.map f).take (l.map f).length).drop k.toNat=_
 rw [List.take_of_length_le (Nat.le_refl _),List.map_drop]
theorem Zsu {α:Type}:∀ (l:List α) (k:Nat) (v:α),k < l.length→l.take k++v::l.drop (k+1)=l.set k v
 | [],k,v,h=>by simp at h
 | x::l,0,v,_=>by simp
 | x::l,k+1,v,h=>by
  simp only [List.take_succ_cons,List.drop_succ_cons,List.cons_append,List.set_cons_succ]
  rw [Zsu l k v (by simpa using h)]
theorem Zsv {n:Nat} {xs:List Int} {b v:Int} (hb:0≤b) (hl:b < xs.length) (hl':xs.length≤100) (q:Q (nums (xs.set b.toNat v)) H):W (fns tbl (n+1) Zj1 [nums xs,.int b,.int v] H) Q:=by
 refine Zrc (run_w rfl ?_)
 unfold Zlh
 have ok1:(okB none&&okB (some b))=true:=by simp [okB]; omega
 have ok2:(okB (some (b+1))&&okB none)=true:=by simp [okB]; omega
 have c1:(cut (xs.map AV.int) none (some b)).length≤100:=by rw [Zss]; simp; omega
 have c2:(cut (xs.map AV.int) (some (b+1)) none).length≤100:=by rw [Zst]; simp; omega
 (repeat' (first|refine Zhi ok1 (by simp; exact Nat.le_trans (by assumption) (by decide)) ?_|refine Zhi ok2 (by simp; exact Nat.le_trans (by assumption) (by decide)) ?_|refine ob_cat (by simp; omega) ?_|refine s_ret ?_|refine w_bin ?_|refine w_cst ?_|refine w_loc (by first|rfl|assumption) ?_|refine w_cons ?_|refine w_nil ?_|refine w_tup ?_|refine w_slc ?_|refine p_none ?_|refine p_some ?_|refine ob_add ?_|refine int_ex ?_|fail))
 have e:cut (xs.map AV.int) none (some b)++[AV.int v]++cut (xs.map AV.int) (some (b+1)) none=(xs.set b.toNat v).map AV.int:=by
  rw [Zss,Zst,← Zsu xs b.toNat v (by omega)]
  have:(b+1).toNat=b.toNat+1:=by first|exact Zar (by assumption)|omega
  rw [this]
  simp
 rw [e]
 exact Zgx (Zgu Zsi) q
theorem lput_w {n:Nat} {xs:List Int} {b v:Int} (hb:0≤b) (hl:b < xs.length) (hl':xs.length≤100) (q:Q (nums (xs.set b.toNat v)) H):W (fns tbl (n+1) Zkj [nums xs,.int b,.int v] H) Q:=by
 refine Zru (run_w rfl ?_)
 unfold Zoe
 have cp:∀ Q:List AV→Prop,Q (xs.map .int)→OB (copyOf H (nums xs)) Q:=fun Q q=>⟨_,by show (if (xs.map AV.int).length≤1048576 then some (xs.map AV.int) else none)=_; rw [if_pos (by simp; omega)],q⟩
 have st:∀ Q:AH→Prop,Q (H++[AO.list ((xs.set b.toNat v).map .int)])→OB (setAt (H++[AO.list (xs.map .int)]) (.ref H.length) (stoF (.int b) (.int v))) Q:=fun Q q=>by
  refine ⟨_,Zgd (l':=(xs.set b.toNat v).map .int) ?_,q⟩
  unfold stoF
  simp only
  rw [if_pos ⟨by simp; omega,by simp; omega,by simp; omega⟩,if_pos hb,List.map_set]
 (repeat' (first|refine cp _ ?_|refine st _ ?_|refine Zgs (by simp; omega) ?_|refine s_seq ?_|refine s_ret ?_|refine s_asg ?_|refine Zfx ?_|refine w_loc (by first|rfl|assumption) ?_|refine Zfw ?_|refine w_cons ?_|refine w_nil ?_|refine w_newC ?_|fail))
 exact Zgw (Zgu Zsi) q
noncomputable def pairOf (k:Int) (xs:List Int) (o:Option Int):AV:=.tup [.tup [.int k,nums xs],ov o]
noncomputable def numAt (xs:List Int) (b:Int):Int:=xs.getD b.toNat 0
noncomputable def stepOf (P:Prog) (r:Int) (xs:List Int):AV:=match P.rows.getD r.toNat .stop with
 | .stop=>.tup [.none,.none]
 | .go k=>pairOf k xs none
 | .ask b k=>if numAt xs b=0 then pairOf k xs none else pairOf (r+1) xs none
 | .tell b=>pairOf (r+1) xs (some (numAt xs b))
 | .put b v=>pairOf (r+1) (xs.set b.toNat v) none
 | .copy b c=>pairOf (r+1) (xs.set b.toNat (numAt xs c)) none
 | .more b=>pairOf (r+1) (xs.set b.toNat (if numAt xs b+1 > P.most then 0 else numAt xs b+1)) none
theorem Zsw {xs:List Int} (h:xs.length≤100) {n:Nat}:pln (n+2) (nums xs)=true:=by
 refine Zg9 (by simp; exact Nat.le_trans (by assumption) (by decide)) ?_
 intro v hv
 refine e1a2 (List.mem_map.mp hv) fun i _ eZ2=>?_; subst eZ2
 rfl
theorem Zsx {k:Int} {xs:List Int} {o:Option Int} (h:xs.length≤100):pln 12 (pairOf k xs o)=true:=by
 refine Zg9 (by simp) ?_
 intro v hv
 simp at hv
 rcases hv with rfl|rfl
 ·refine Zg9 (by simp) ?_
  intro v hv
  simp at hv
  rcases hv with rfl|rfl
  ·rfl
  ·exact Zsw h
 ·cases o <;> rfl
theorem row_at {P:Prog} {r:Int} (h0:0≤r) (h1:r < P.rows.length):(P.rows.map Row.av)[r.toNat]?=some (P.rows.getD r.toNat .stop).av∧P.rows.getD r.toNat .stop∈P.rows:=by
 have e:P.rows[r.toNat]?=some (P.rows.getD r.toNat .stop):=by
  rw [List.getD_eq_getElem?_getD,List.getElem?_eq_getElem (show r.toNat < P.rows.length by omega)]; rfl
 refine ⟨?_,List.mem_of_getElem? e⟩
 rw [List.getElem?_map,e]; rfl
theorem num_at {P:Prog} {xs:List Int} (hx:NumsOk P xs) {b:Int} (h0:0≤b) (h1:b < P.boxes):(xs.map AV.int)[b.toNat]?=some (.int (numAt xs b))∧b < xs.length:=by
 have hl:=hx.1
 have e:xs[b.toNat]?=some (xs.getD b.toNat 0):=by
  rw [List.getD_eq_getElem?_getD,List.getElem?_eq_getElem (show b.toNat < xs.length by omega)]; rfl
 refine ⟨?_,by omega⟩
 rw [List.getElem?_map,e]; rfl
section
variable {Φ:Fns} {σ:Loc} {H:AH}
theorem Zsy:Zlr Φ (upd σ 4 Row.stop.av) H=.ok (.ret (.tup [.none,.none]),upd σ 4 Row.stop.av) H:=by kernel_rfl
theorem dk_go {k:Int}:Zlr Φ (upd σ 4 (Row.go k).av) H=sSeq (sRet (dTup [dTup [dCst (.int k),dLoc 3],dCst .none])) (Zlp Φ) (upd σ 4 (Row.go k).av) H:=by kernel_rfl
theorem Zsz {b:Int}:Zlr Φ (upd σ 4 (Row.tell b).av) H=sSeq (sRet (dTup [dTup [dBin .add (dLoc 2) (dCst (.int 1)),dLoc 3],dSub (dLoc 3) (dCst (.int b))])) (Zln Φ) (upd σ 4 (Row.tell b).av) H:=by kernel_rfl
theorem dk_put {b v:Int}:Zlr Φ (upd σ 4 (Row.put b v).av) H=sSeq (sRet (dTup [dTup [dBin .add (dLoc 2) (dCst (.int 1)),dCall Φ (dCst (.fn Zj1)) [dLoc 3,dCst (.int b),dCst (.int v)]],dCst .none])) (Zlm Φ) (upd σ 4 (Row.put b v).av) H:=by kernel_rfl
theorem Zs0 {b c:Int}:Zlr Φ (upd σ 4 (Row.copy b c).av) H=sSeq (sRet (dTup [dTup [dBin .add (dLoc 2) (dCst (.int 1)),dCall Φ (dCst (.fn Zj1)) [dLoc 3,dCst (.int b),dSub (dLoc 3) (dCst (.int c))]],dCst .none])) (Zll Φ) (upd σ 4 (Row.copy b c).av) H:=by kernel_rfl
theorem Zs1 {b:Int}:Zlr Φ (upd σ 4 (Row.more b).av) H=sSeq (sAsg 5 (dBin .add (dSub (dLoc 3) (dCst (.int b))) (dCst (.int 1)))) (Zlk Φ) (upd σ 4 (Row.more b).av) H:=by kernel_rfl
theorem dk_ask {b k:Int}:Zlr Φ (upd σ 4 (Row.ask b k).av) H=sSeq (sSeq (sIf (tVal (dCmp .eq (dSub (dLoc 3) (dCst (.int b))) (dCst (.int 0)))) (sRet (dTup [dTup [dSub (dLoc 4) (dCst (.int 2)),dLoc 3],dCst .none])) sNil) (Zli Φ)) (Zlo Φ) (upd σ 4 (Row.ask b k).av) H:=by kernel_rfl
theorem Zs2:Zon Φ (upd σ 4 Row.stop.av) H=.ok (.ret (.tup [.none,.none]),upd σ 4 Row.stop.av) H:=by kernel_rfl
theorem lk_go {k:Int}:Zon Φ (upd σ 4 (Row.go k).av) H=sSeq (sRet (dTup [dTup [dCst (.int k),dLoc 3],dCst .none])) (Zok Φ) (upd σ 4 (Row.go k).av) H:=by kernel_rfl
theorem Zs3 {b:Int}:Zon Φ (upd σ 4 (Row.tell b).av) H=sSeq (sRet (dTup [dTup [dBin .add (dLoc 2) (dCst (.int 1)),dLoc 3],dSub (dLoc 3) (dCst (.int b))])) (Zol Φ) (upd σ 4 (Row.tell b).av) H:=by kernel_rfl
theorem lk_ask {b k:Int}:Zon Φ (upd σ 4 (Row.ask b k).av) H=sSeq (sIf (tVal (dCmp .eq (dSub (dLoc 3) (dCst (.int b))) (dCst (.int 0)))) (sRet (dTup [dTup [dSub (dLoc 4) (dNeg (dCst (.int 1))),dLoc 3],dCst .none])) sNil) (Zok Φ) (upd σ 4 (Row.ask b k).av) H:=by kernel_rfl
theorem Zs4 {b k:Int}:Zok Φ (upd σ 4 (Row.ask b k).av) H=Zoh Φ (upd σ 4 (Row.ask b k).av) H:=by kernel_rfl
theorem lk_put {b v:Int}:Zon Φ (upd σ 4 (Row.put b v).av) H=sSeq (sAsg 3 (dCall Φ (dCst (.fn Zkj)) [dLoc 3,dCst (.int b),dCst (.int v)])) (Zoj Φ) (upd σ 4 (Row.put b v).av) H:=by kernel_rfl
theorem Zs5 {b v:Int} {y:AV}:Zoj Φ (upd (upd σ 4 (Row.put b v).av) 3 y) H=Zoh Φ (upd (upd σ 4 (Row.put b v).av) 3 y) H:=by kernel_rfl
theorem Zs6 {b c:Int}:Zon Φ (upd σ 4 (Row.copy b c).av) H=sSeq (sAsg 3 (dCall Φ (dCst (.fn Zkj)) [dLoc 3,dCst (.int b),dSub (dLoc 3) (dCst (.int c))])) (Zoi Φ) (upd σ 4 (Row.copy b c).av) H:=by kernel_rfl
theorem Zs7 {b c:Int} {y:AV}:Zoi Φ (upd (upd σ 4 (Row.copy b c).av) 3 y) H=Zoh Φ (upd (upd σ 4 (Row.copy b c).av) 3 y) H:=by kernel_rfl
theorem Zs8 {b:Int}:Zon Φ (upd σ 4 (Row.more b).av) H=sSeq (sSeq (sAsg 5 (dBin .add (dSub (dLoc 3) (dCst (.int b))) (dCst (.int 1)))) (Zog Φ)) (Zoh Φ) (upd σ 4 (Row.more b).av) H:=by kernel_rfl
end
theorem done_w {n:Nat} {P:Prog} (hP:P.Ok) {r:Int} (h0:0≤r) (h1:r < P.rows.length) {xs:List Int} (hx:NumsOk P xs) (q:Q (stepOf P r xs) H):W (fns tbl (n+2) i_done [P.av,.tup [.int r,nums xs]] H) Q:=by
 refine e_done (run_g2 (fun σ R s0 s1 hR=>?_))
 have b3:=hP.b3
 have r16:=hP.r16
 have hl:=hx.1
 have fin:∀ k ys o,ys.length≤100→Q (pairOf k ys o) H→H.take H.length=H∧OB (freeze H.length H 12 (pairOf k ys o)) fun v'=>Q v' H:=fun k ys o h q=>Zgx (Zg8 (Zsx h)) q
 refine e0a2' (row_at h0 h1) fun e hm=>?_
 have hok:=hP.ok _ hm
 unfold stepOf at q
 generalize P.rows.getD r.toNat .stop=row at e hm hok q
 have hn:∀ {b:Int},0≤b∧b < P.boxes→(xs.map AV.int)[b.toNat]?=some (.int (numAt xs b))∧b < xs.length:=fun h=>num_at hx h.1 h.2
 refine s_seq (s_asgT (w_loc s1 (OB.of (by rfl) ?_)))
 refine s_seq (s_asg (w_sub (w_sub (w_loc s0 (w_cst (OB.of (by rfl) (w_loc rfl (Zgr h0 (by omega) e ?_))))))))
 have t0:(upd (upd σ 2 (.int r)) 3 (nums xs)) 0=some P.av:=s0
 have t2:(upd (upd σ 2 (.int r)) 3 (nums xs)) 2=some (.int r):=rfl
 have t3:(upd (upd σ 2 (.int r)) 3 (nums xs)) 3=some (nums xs):=rfl
 generalize upd (upd σ 2 (.int r)) 3 (nums xs)=τ at t0 t2 t3 ⊢
 cases row with
 | stop =>
  rw [Zsy]
  exact ⟨_,_,rfl,hR _ _ (Zgx rfl q)⟩
 | go k =>
  rw [dk_go]
  (repeat' (first|refine s_seq ?_|refine s_ret ?_|refine w_cst ?_|refine w_loc (by first|rfl|assumption) ?_|refine w_cons ?_|refine w_nil ?_|refine w_tup ?_|refine hR _ _ ?_|fail))
  exact fin k xs none (by omega) q
 | ask b k =>
  have hb:=hn hok.1
  have hb0:=hok.1
  rw [dk_ask]
  (repeat' (first|refine Zgq hb0.1 (by omega) hb.1 ?_|refine s_seq ?_|refine s_if ?_|refine s_ret ?_|refine s_nil ?_|refine w_bin ?_|refine w_cst ?_|refine w_loc (by first|rfl|assumption) ?_|refine w_cons ?_|refine w_nil ?_|refine w_tup ?_|refine w_sub ?_|refine t_cmp ?_|refine ob_add ?_|refine ob_eqI ?_|refine if_dec (fun _=>?_) (fun _=>?_)|refine OB.of (by rfl) ?_|refine hR _ _ ?_|fail))
  ·rename_i h
   dsimp only at q
   rw [if_pos h] at q
   exact fin k xs none (by omega) q
  ·rename_i h
   dsimp only at q
   rw [if_neg h] at q
   exact fin (r+1) xs none (by omega) q
 | tell b =>
  have hb:=hn hok
  have hb0:0≤b∧b < P.boxes:=hok
  rw [Zsz]
  (repeat' (first|refine Zgq hb0.1 (by omega) hb.1 ?_|refine s_seq ?_|refine s_ret ?_|refine w_bin ?_|refine w_cst ?_|refine w_loc (by first|rfl|assumption) ?_|refine w_cons ?_|refine w_nil ?_|refine w_tup ?_|refine w_sub ?_|refine ob_add ?_|refine hR _ _ ?_|fail))
  exact fin (r+1) xs (some (numAt xs b)) (by omega) q
 | put b v =>
  have hb:=hn hok.1
  have hb0:=hok.1
  rw [dk_put]
  (repeat' (first|refine Zsv hb0.1 hb.2 (by omega) ?_|refine s_seq ?_|refine s_ret ?_|refine w_bin ?_|refine w_cst ?_|refine w_loc (by first|rfl|assumption) ?_|refine Zfv ?_|refine w_cons ?_|refine w_nil ?_|refine w_tup ?_|refine ob_add ?_|refine hR _ _ ?_|fail))
  exact fin (r+1) _ none (by simp; omega) q
 | copy b c =>
  have hb:=hn hok.1
  have hb0:=hok.1
  have hc:=hn hok.2
  have hc0:=hok.2
  rw [Zs0]
  (repeat' (first|refine Zgq hc0.1 (by omega) hc.1 ?_|refine Zsv hb0.1 hb.2 (by omega) ?_|refine s_seq ?_|refine s_ret ?_|refine w_bin ?_|refine w_cst ?_|refine w_loc (by first|rfl|assumption) ?_|refine Zfv ?_|refine w_cons ?_|refine w_nil ?_|refine w_tup ?_|refine w_sub ?_|refine ob_add ?_|refine hR _ _ ?_|fail))
  exact fin (r+1) _ none (by simp; omega) q
 | more b =>
  have hb:=hn hok
  have hb0:0≤b∧b < P.boxes:=hok
  rw [Zs1]
  (repeat' (first|refine Zgq hb0.1 (by omega) hb.1 ?_|refine Zsv hb0.1 hb.2 (by omega) ?_|refine s_seq ?_|refine s_if ?_|refine s_ret ?_|refine s_asg ?_|refine s_nil ?_|refine w_bin ?_|refine w_cst ?_|refine w_loc (by first|rfl|assumption) ?_|refine Zfv ?_|refine w_cons ?_|refine w_nil ?_|refine w_tup ?_|refine w_sub ?_|refine t_cmp ?_|refine ob_add ?_|refine if_dec (fun _=>?_) (fun _=>?_)|refine OB.of (by rfl) ?_|refine hR _ _ ?_|fail))
  ·rename_i h
   dsimp only at q
   rw [if_pos h] at q
   exact fin (r+1) _ none (by simp; omega) q
  ·rename_i h
   dsimp only at q
   rw [if_neg h] at q
   exact fin (r+1) _ none (by simp; omega) q
theorem Zs9 {a b:AV} {c:Bool} {Q:AV→Prop} (h:c=false→Q a) (k:c=true→Q b):OB (subop H (.lst [a,b]) (.int (if c=true then 1 else 0))) Q:=by
 cases c with
 | true=>exact ⟨b,rfl,k rfl⟩
 | false=>exact ⟨a,rfl,h rfl⟩
theorem Zta {n:Nat} {P:Prog} (hP:P.Ok) {r:Int} (h0:0≤r) (h1:r < P.rows.length) {xs:List Int} (hx:NumsOk P xs) (q:Q (stepOf P r xs) H):W (fns tbl (n+2) Zkk [P.av,.tup [.int r,nums xs]] H) Q:=by
 refine Zrv (run_g2 (fun σ R s0 s1 hR=>?_))
 have b3:=hP.b3
 have r16:=hP.r16
 have hl:=hx.1
 have fin:∀ k ys o,ys.length≤100→Q (pairOf k ys o) H→H.take H.length=H∧OB (freeze H.length H 12 (pairOf k ys o)) fun v'=>Q v' H:=fun k ys o h q=>Zgx (Zg8 (Zsx h)) q
 refine e0a2' (row_at h0 h1) fun e hm=>?_
 have hok:=hP.ok _ hm
 unfold stepOf at q
 generalize P.rows.getD r.toNat .stop=row at e hm hok q
 have hn:∀ {b:Int},0≤b∧b < P.boxes→(xs.map AV.int)[b.toNat]?=some (.int (numAt xs b))∧b < xs.length:=fun h=>num_at hx h.1 h.2
 refine s_seq (s_asg (w_sub (w_loc s1 (w_cst (OB.of (by rfl) ?_)))))
 refine s_seq (s_asg (w_sub (w_loc s1 (w_cst (OB.of (by rfl) ?_)))))
 refine s_seq (s_asg (w_sub (w_sub (w_loc s0 (w_cst (OB.of (by rfl) (w_loc rfl (Zgr h0 (by omega) e ?_))))))))
 have t0:(upd (upd σ 2 (.int r)) 3 (nums xs)) 0=some P.av:=s0
 have t2:(upd (upd σ 2 (.int r)) 3 (nums xs)) 2=some (.int r):=rfl
 have t3:(upd (upd σ 2 (.int r)) 3 (nums xs)) 3=some (nums xs):=rfl
 generalize upd (upd σ 2 (.int r)) 3 (nums xs)=τ at t0 t2 t3 ⊢
 cases row with
 | stop =>
  rw [Zs2]
  exact ⟨_,_,rfl,hR _ _ (Zgx rfl q)⟩
 | go k =>
  rw [lk_go]
  (repeat' (first|refine s_seq ?_|refine s_ret ?_|refine w_cst ?_|refine w_loc (by first|rfl|assumption) ?_|refine w_cons ?_|refine w_nil ?_|refine w_tup ?_|refine hR _ _ ?_|fail))
  exact fin k xs none (by omega) q
 | ask b k =>
  have hb:=hn hok.1
  have hb0:=hok.1
  rw [lk_ask]
  (repeat' (first|refine Zgq hb0.1 (by omega) hb.1 ?_|(rw [Zs4]; refine s_ret ?_)|refine s_seq ?_|refine s_if ?_|refine s_ret ?_|refine s_nil ?_|refine w_bin ?_|refine w_cst ?_|refine w_loc (by first|rfl|assumption) ?_|refine w_cons ?_|refine w_nil ?_|refine w_tup ?_|refine w_sub ?_|refine w_neg ?_|refine t_cmp ?_|refine ob_add ?_|refine ob_eqI ?_|refine if_dec (fun _=>?_) (fun _=>?_)|refine int_ex ?_|refine OB.of (by rfl) ?_|refine hR _ _ ?_|fail))
  ·rename_i h
   dsimp only at q
   rw [if_pos h] at q
   exact fin k xs none (by omega) q
  ·rename_i h
   dsimp only at q
   rw [if_neg h] at q
   exact fin (r+1) xs none (by omega) q
 | tell b =>
  have hb:=hn hok
  have hb0:0≤b∧b < P.boxes:=hok
  rw [Zs3]
  (repeat' (first|refine Zgq hb0.1 (by omega) hb.1 ?_|refine s_seq ?_|refine s_ret ?_|refine w_bin ?_|refine w_cst ?_|refine w_loc (by first|rfl|assumption) ?_|refine w_cons ?_|refine w_nil ?_|refine w_tup ?_|refine w_sub ?_|refine ob_add ?_|refine hR _ _ ?_|fail))
  exact fin (r+1) xs (some (numAt xs b)) (by omega) q
 | put b v =>
  have hb:=hn hok.1
  have hb0:=hok.1
  rw [lk_put]
  refine s_seq (s_asg ?_)
  (repeat' (first|refine lput_w hb0.1 hb.2 (by omega) ?_|(rw [Zs5]; refine s_ret ?_)|refine w_bin ?_|refine w_cst ?_|refine w_loc (by first|rfl|assumption) ?_|refine Zfv ?_|refine w_cons ?_|refine w_nil ?_|refine w_tup ?_|refine ob_add ?_|refine hR _ _ ?_|fail))
  exact fin (r+1) _ none (by simp; omega) q
 | copy b c =>
  have hb:=hn hok.1
  have hb0:=hok.1
  have hc:=hn hok.2
  have hc0:=hok.2
  rw [Zs6]
  (repeat' (first|refine Zgq hc0.1 (by omega) hc.1 ?_|refine lput_w hb0.1 hb.2 (by omega) ?_|(rw [Zs7]; refine s_ret ?_)|refine s_seq ?_|refine s_asg ?_|refine w_bin ?_|refine w_cst ?_|refine w_loc (by first|rfl|assumption) ?_|refine Zfv ?_|refine w_cons ?_|refine w_nil ?_|refine w_tup ?_|refine w_sub ?_|refine ob_add ?_|refine hR _ _ ?_|fail))
  exact fin (r+1) _ none (by simp; omega) q
 | more b =>
  have hb:=hn hok
  have hb0:0≤b∧b < P.boxes:=hok
  rw [Zs8]
  (repeat' (first|refine Zgq hb0.1 (by omega) hb.1 ?_|refine Zs9 (fun _=>?_) (fun _=>?_)|refine lput_w hb0.1 hb.2 (by omega) ?_|refine s_seq ?_|refine s_ret ?_|refine s_asg ?_|refine w_bin ?_|refine w_cst ?_|refine w_loc (by first|rfl|assumption) ?_|refine Zfv ?_|refine Zfw ?_|refine w_cons ?_|refine w_nil ?_|refine w_tup ?_|refine w_lst ?_|refine w_sub ?_|refine w_cmp ?_|refine ob_add ?_|refine Zgo ?_|refine OB.of (by rfl) ?_|refine hR _ _ ?_|fail))
  ·rename_i h
   dsimp only at q
   rw [if_neg (of_decide_eq_false h)] at q
   exact fin (r+1) _ none (by simp; omega) q
  ·rename_i h
   dsimp only at q
   rw [if_pos (of_decide_eq_true h)] at q
   exact fin (r+1) _ none (by simp; omega) q
abbrev St:=Int×List Int
noncomputable def sv:Option St→AV
 | some s=>.tup [.int s.1,nums s.2]
 | none=>.none
noncomputable def StOk (P:Prog) (s:St):Prop:=(0≤s.1∧s.1 < P.rows.length)∧NumsOk P s.2
noncomputable def nextS (P:Prog) (s:St):Option St×Option Int:=match P.rows.getD s.1.toNat .stop with
 | .stop=>(none,none)
 | .go k=>(some (k,s.2),none)
 | .ask b k=>(some (if numAt s.2 b=0 then k else s.1+1,s.2),none)
 | .tell b=>(some (s.1+1,s.2),some (numAt s.2 b))
 | .put b v=>(some (s.1+1,s.2.set b.toNat v),none)
 | .copy b c=>(some (s.1+1,s.2.set b.toNat (numAt s.2 c)),none)
 | .more b=>(some (s.1+1,s.2.set b.toNat (if numAt s.2 b+1 > P.most then 0 else numAt s.2 b+1)),none)
theorem Ztb (P:Prog) (s:St):stepOf P s.1 s.2=.tup [sv (nextS P s).1,ov (nextS P s).2]:=by
 unfold stepOf nextS
 cases P.rows.getD s.1.toNat .stop with
 | ask b k =>
  dsimp only
  by_cases h:numAt s.2 b=0
  ·rw [if_pos h,if_pos h]; rfl
  ·rw [if_neg h,if_neg h]; rfl
 | _=>rfl
theorem Ztc {P:Prog} (hP:P.Ok) {k:Int} (h0:0≤k) (h1:k < P.rows.length) (hn:¬ (P.rows.getD k.toNat .stop).last):k+1 < P.rows.length:=by
 refine e2a2 hP.last fun ini r e hr=>?_
 rcases Int.lt_or_le (k+1) P.rows.length with h|h
 ·exact h
 ·exfalso
  have:k.toNat=ini.length:=by rw [e] at h h1; simp at h h1; omega
  rw [e,this] at hn
  simp at hn
  exact hn hr
theorem NumsOk.get {P:Prog} {xs:List Int} (h:NumsOk P xs) (hm:0≤P.most) (b:Int):0≤numAt xs b∧numAt xs b≤P.most:=by
 unfold numAt
 rw [List.getD_eq_getElem?_getD]
 cases e:xs[b.toNat]? with
 | none=>exact ⟨Int.le_refl _,hm⟩
 | some x=>exact h.2 x (List.mem_of_getElem? e)
theorem NumsOk.set {P:Prog} {xs:List Int} (h:NumsOk P xs) (b:Int) {v:Int} (hv:0≤v∧v≤P.most):NumsOk P (xs.set b.toNat v):=by
 refine ⟨by rw [List.length_set]; exact h.1,fun x hx=>?_⟩
 rcases List.mem_or_eq_of_mem_set hx with h1|rfl
 ·exact h.2 x h1
 ·exact hv
theorem Ztd {P:Prog} (hP:P.Ok) {s s':St} (h:StOk P s) (e:(nextS P s).1=some s'):StOk P s':=by
 refine e0a2' h fun qZ0 hx=>?_; obtain ⟨h0,h1⟩:=qZ0
 refine e0a2' (row_at h0 h1) fun _ hm=>?_
 have hok:=hP.ok _ hm
 have hg:=Ztc hP h0 h1
 have m1:=hP.m1
 unfold nextS at e
 generalize P.rows.getD s.1.toNat .stop=row at e hm hok hg
 cases row with
 | stop=>injection e
 | go k=>obtain rfl:=inj e; exact ⟨hok,hx⟩
 | ask b k =>
  obtain rfl:=inj e
  refine ⟨?_,hx⟩
  dsimp only
  split
  ·exact hok.2
  ·exact ⟨by omega,hg id⟩
 | tell b=>obtain rfl:=inj e; exact ⟨⟨by show 0≤s.1+1; omega,hg id⟩,hx⟩
 | put b v=>obtain rfl:=inj e; exact ⟨⟨by show 0≤s.1+1; omega,hg id⟩,hx.set b hok.2⟩
 | copy b c=>obtain rfl:=inj e; exact ⟨⟨by show 0≤s.1+1; omega,hg id⟩,hx.set b (hx.get (by exact Int.le_of_lt (by assumption)) c)⟩
 | more b =>
  obtain rfl:=inj e
  refine ⟨⟨by show 0≤s.1+1; omega,hg id⟩,hx.set b ?_⟩
  have:=hx.get (by exact Int.le_of_lt (by assumption)) b
  split <;> omega
noncomputable def runS (P:Prog):Nat→Option St→List Int×Option St
 | 0,s=>([],s)
 | _+1,none=>([],none)
 | n+1,some s=>((nextS P s).2.toList++(runS P n (nextS P s).1).1,(runS P n (nextS P s).1).2)
theorem runS_none (P:Prog):∀ n,runS P n none=([],none)
 | 0=>rfl
 | _+1=>rfl
theorem Zte {n:Nat} {P:Prog} (hP:P.Ok) {s:St} (hs:StOk P s) (q:Q (.tup [sv (nextS P s).1,ov (nextS P s).2]) H):W (fns tbl (n+2) i_done [P.av,sv (some s)] H) Q :=
 done_w hP hs.1.1 hs.1.2 hs.2 (by rw [Ztb P s]; exact q)
theorem Ztf {n:Nat} {P:Prog} (hP:P.Ok) {s:St} (hs:StOk P s) (q:Q (.tup [sv (nextS P s).1,ov (nextS P s).2]) H):W (fns tbl (n+2) Zkk [P.av,sv (some s)] H) Q :=
 Zta hP hs.1.1 hs.1.2 hs.2 (by rw [Ztb P s]; exact q)
theorem Ztg {n:Nat} {one:Prog} {M:Int} (h1:one.Ok) {r:Rule} (hr:r.Ok one.boxes one.most M) {xs:List Int} (hx:NumsOk one xs) (q:Q (ov (numOf xs r)) H) :
  W (fns tbl (n+1) Zj6 [r.av,.tup (xs.map .int)] H) Q:=by
 refine Zrh (run_w rfl ?_)
 unfold Zme
 cases r with
 | is v =>
  (repeat' (first|refine s_seq ?_|refine s_if ?_|refine s_ret ?_|refine w_cst ?_|refine w_loc (by first|rfl|assumption) ?_|refine w_sub ?_|refine t_cmp ?_|refine Zg3 (by decide +kernel) ?_|refine if_tt ?_|refine OB.of (by rfl) ?_|fail))
  exact Zgx (Zgn _) q
 | byBox b vs =>
  have hb:=Zsk hx hr.1.1 hr.1.2
  have hb3:=h1.b3
  have hm4:=h1.m4
  have h₁:=hr.1.1
  have h₂:=hr.1.2
  have h₃:=hr.2.1
  (repeat' (first|refine s_seq ?_|refine s_if ?_|refine s_ret ?_|refine s_nil ?_|refine w_cst ?_|refine w_loc (by first|rfl|assumption) ?_|refine w_sub ?_|refine t_cmp ?_|refine Zg4 (by decide +kernel) ?_|refine if_ff ?_|refine OB.of (by rfl) ?_|fail))
  exact Zgq (by assumption) (by omega) hb.1 (Zgq hb.2.1 (by omega) (vs_at hb.2.1 (by omega)) (Zgx (Zgn _) q))
theorem Zth (v:Option Int):eqD H (ov v) .none=some v.isNone:=by cases v <;> rfl
theorem Zti:∀ l:List (Option Int),anyEq H .none (l.map ov)=some (l.any Option.isNone)
 | []=>rfl
 | v::r=>by
  rw [List.map_cons,anyEq,Zth,Zti r]; rfl
theorem Ztj {n:Nat} {one:Prog} {M:Int} (h1:one.Ok) {rs:List Rule} (hl:rs.length≤1000) (hr:∀ r∈rs,r.Ok one.boxes one.most M) {xs:List Int} (hx:NumsOk one xs) (q:Q (tv (rs.map (numOf xs))) H) :
  W (fns tbl (n+2) Zj7 [.tup (rs.map Rule.av),.tup (xs.map .int)] H) Q:=by
 refine Zri (run_w rfl ?_)
 unfold Zmi
 refine s_seq (s_asg (Zfw (w_cons (Zg6 (f:=Rule.av) (P:=fun r x=>x=ov (numOf xs r)) (w_loc rfl ⟨rs,rfl,by exact Nat.le_trans (by assumption) (by decide),?_,?_⟩)))))
 ·intro r hr' H'
  exact Zfv (w_cons (w_loc rfl (w_cons (w_loc rfl (w_nil (Ztg h1 (hr r hr') hx ⟨rfl,Zgn _,rfl⟩))))))
 ·intro ys ha
  have hy:=ha.map_eq
  have hy:ys=(rs.map (numOf xs)).map ov:=by rw [hy,List.map_map]; rfl
  subst hy
  refine w_nil (Zgt (by simp; exact Nat.le_trans (by assumption) (by decide)) ?_)
  refine s_seq (s_if (t_cmp (w_cst (w_loc rfl (OB.of (v:=(rs.map (numOf xs)).any Option.isNone) (Zti _) (if_bl (fun h=>?_) (fun h=>?_)))))))
  ·have e:tv (rs.map (numOf xs))=.none:=by unfold tv; rw [if_pos h]
   rw [e] at q
   exact s_ret (w_cst (Zgx rfl q))
  ·have e:tv (rs.map (numOf xs))=.tup ((rs.map (numOf xs)).map ov):=by unfold tv; rw [if_neg (by simp [h])]
   rw [e] at q
   exact s_nil (s_ret (w_loc rfl (Zgx (Zgu Zsj) q)))
theorem Ztk {n:Nat} {L:List Place} {r:Int} (q:Q (pv (L.find? fun p=>decide (p.row=r))) H):W (fns tbl (n+1) Zj8 [.lst (L.map Place.av),.int r] H) Q:=by
 refine Zrj (run_w rfl ?_)
 unfold Zml
 (repeat' (first|refine s_seq ?_|refine s_for ?_|refine w_loc (by first|rfl|assumption) ?_|refine OB.of (by rfl) ?_|fail))
 refine Zgk (fun rest σ H'=>σ 1=some (.int r)∧H'=H∧L.find? (fun p=>decide (p.row=r))=rest.find? (fun p=>decide (p.row=r))) ?_ ?_ ⟨rfl,rfl,rfl⟩
 ·intro p rest σ H' h
  refine e0a3 h fun s1 eZ1 e=>?_; subst eZ1
  (repeat' (first|refine s_if ?_|refine s_ret ?_|refine s_nil ?_|refine w_cst ?_|refine w_loc (by first|rfl|assumption) ?_|refine w_sub ?_|refine t_cmp ?_|refine ob_eqI ?_|refine if_dec (fun _=>?_) (fun _=>?_)|refine OB.of (by rfl) ?_|fail))
  ·rename_i hp
   rw [e,List.find?_cons_of_pos (by simpa using hp)] at q
   exact Zgx (p.flat_of (by decide)) q
  ·rename_i hp
   rw [List.find?_cons_of_neg (by simpa using hp)] at e
   exact ⟨s1,rfl,e⟩
 ·intro σ H' h
  refine e0a3 h fun s1 eZ1 e=>?_; clear h; subst eZ1
  (repeat' (first|refine s_ret ?_|refine w_cst ?_|fail))
  rw [e] at q
  exact Zgx rfl q
inductive Met where
 | over (n:Nat)
 | stuck (n:Nat)
 | comes (n:Nat)
 | missed (a b:Nat)
noncomputable def Met.av:Met→AV
 | .over n=>.tup [.str "over",.int n]
 | .stuck n=>.tup [.str "stuck",.int n]
 | .comes n=>.tup [.str "comes",.int n]
 | .missed a b=>.tup [.str "missed",.int a,.int b]
noncomputable def posOf (s:St):List St→Nat→Option Nat
 | [],_=>none
 | x::r,i=>if x=s then some i else posOf s r (i+1)
noncomputable def dvF:List St→Nat→List (St×AV)
 | [],_=>[]
 | x::r,i=>(x,.int i)::dvF r (i+1)
theorem Ztl (s:St):∀ (l:List St) (i:Nat),lookD (dvF l i) s=(posOf s l i).map fun k:Nat=>AV.int k
 | [],_=>rfl
 | x::r,i=>by
  unfold posOf
  by_cases h:x=s
  ·rw [if_pos h]
   simp [lookD,dvF,h]
  ·rw [if_neg h,← Ztl s r (i+1)]
   simp [lookD,dvF,h]
theorem dv_app (s:St):∀ (l:List St) (i:Nat),dvF (l++[s]) i=dvF l i++[(s,.int (i+l.length:Nat))]
 | [],_=>rfl
 | x::r,i=>by
  show (x,AV.int i)::dvF (r++[s]) (i+1)=_
  rw [dv_app s r (i+1)]
  have:i+1+r.length=i+(x::r).length:=by simp; omega
  rw [this]; rfl
theorem dv_len:∀ (l:List St) (i:Nat),(dvF l i).length=l.length
 | [],_=>rfl
 | x::r,i=>by show (dvF r (i+1)).length+1=_; rw [dv_len r (i+1)]; rfl
theorem Ztm {s:St}:∀ {l:List St} {i:Nat},posOf s l i=none→s∉l
 | [],_,_=>by simp
 | x::r,i,h=>by
  unfold posOf at h
  by_cases e:x=s
  ·rw [if_pos e] at h; injection h
  ·rw [if_neg e] at h
   rw [List.mem_cons,not_or]
   exact ⟨fun q=>e q.symm,Ztm h⟩
theorem Ztn {s:St}:∀ {l:List St} {i k:Nat},posOf s l i=some k→s∈l∧k < i+l.length
 | [],_,_,h=>by injection h
 | x::r,i,k,h=>by
  unfold posOf at h
  by_cases e:x=s
  ·rw [if_pos e] at h; obtain rfl:=inj h; exact ⟨by rw [e]; exact List.mem_cons_self ..,by simp⟩
  ·rw [if_neg e] at h
   refine e0a2' (Ztn h) fun h1 h2=>?_
   exact ⟨List.mem_cons_of_mem _ h1,by simp at h2 ⊢; omega⟩
theorem put_dv {s:St} {l:List St} (h:posOf s l 0=none):putD (dvF l 0) s (.int l.length)=dvF (l++[s]) 0:=by
 have e:lookD (dvF l 0) s=none:=by rw [Ztl,h]; rfl
 unfold lookD at e
 rw [Option.map_eq_none_iff,List.find?_eq_none] at e
 have:(dvF l 0).any (fun p=>decide (p.1=s))=false:=by rw [List.any_eq_false]; exact e
 unfold putD
 rw [this,dv_app]
 simp
noncomputable def metGo (P:Prog) (ps:List Place):Nat→List St→Option St→Met
 | 0,l,_=>.over l.length
 | _+1,l,none=>.over l.length
 | f+1,l,some s=>match ps.find? fun p=>decide (p.row=s.1) with
  | some p=>if (p.rules.map (numOf s.2)).any Option.isNone then .stuck l.length else .comes l.length
  | none=>match posOf s l 0 with
   | some i=>.missed i (l.length - i)
   | none=>metGo P ps f (l++[s]) (nextS P s).1
noncomputable def encL:List Int→Nat
 | []=>0
 | x::r=>x.toNat+5 * encL r
theorem to5 {x:Int} (h:0≤x∧x≤4):x.toNat < 5:=(Int.toNat_lt h.1).mpr (Int.lt_of_le_of_lt h.2 (by decide))
theorem lt5 {a b c:Nat} (ha:a < 5) (h:b < c):a+5 * b < c * 5:=by omega
theorem Zto:∀ {l:List Int},(∀ x∈l,0≤x∧x≤4)→encL l < 5 ^ l.length
 | [],_=>by simp [encL]
 | x::r,h=>by
  have i:=Zto (l:=r) fun y hy=>h y (List.mem_cons_of_mem _ hy)
  have hx:=h x (List.mem_cons_self ..)
  show x.toNat+5 * encL r < 5 ^ (r.length+1)
  rw [Nat.pow_succ]
  exact lt5 (to5 hx) i
theorem dm5 {a b c d:Nat} (ha:a < 5) (hc:c < 5) (e:a+5 * b=c+5 * d):a=c∧b=d:=by omega
theorem dm125 {a b c d:Nat} (hb:b < 125) (hd:d < 125) (e:a * 125+b=c * 125+d):a=c∧b=d:=by omega
theorem Ztp {x y:Int} (hx:0≤x) (hy:0≤y) (e:x.toNat=y.toNat):x=y:=by rw [← Int.toNat_of_nonneg hx,← Int.toNat_of_nonneg hy,e]
theorem Ztq:∀ {l k:List Int},l.length=k.length→(∀ x∈l,0≤x∧x≤4)→(∀ x∈k,0≤x∧x≤4)→encL l=encL k→l=k
 | [],[],_,_,_,_=>rfl
 | [],_::_,h,_,_,_=>by injection h
 | _::_,[],h,_,_,_=>by injection h
 | x::l,y::k,hl,h1,h2,e=>by
  have hx:=h1 x (List.mem_cons_self ..)
  have hy:=h2 y (List.mem_cons_self ..)
  have e:x.toNat+5 * encL l=y.toNat+5 * encL k:=e
  have h5:=dm5 (to5 hx) (to5 hy) e
  have e1:x=y:=Ztp hx.1 hy.1 h5.1
  have e2:=h5.2
  rw [e1,Ztq (by simpa using hl) (fun z hz=>h1 z (List.mem_cons_of_mem _ hz)) (fun z hz=>h2 z (List.mem_cons_of_mem _ hz)) e2]
noncomputable def enc (s:St):Nat:=s.1.toNat * 125+encL s.2
theorem StOk.four {P:Prog} (hP:P.Ok) {s:St} (h:StOk P s):(∀ x∈s.2,0≤x∧x≤4)∧s.2.length≤3:=by
 have m4:=hP.m4
 have b3:=hP.b3
 refine ⟨fun x hx=>?_,by have:=h.2.1; omega⟩
 have:=h.2.2 x hx
 omega
theorem enc_lt {P:Prog} (hP:P.Ok) {s:St} (h:StOk P s):enc s < 2000:=by
 refine e0a2' (h.four hP) fun h1 h2=>?_
 have h3:=Zto h1
 have h4:5 ^ s.2.length≤5 ^ 3:=Nat.pow_le_pow_right (by decide) h2
 have:=h.1
 have:=hP.r16
 unfold enc
 omega
theorem Ztr {P:Prog} (hP:P.Ok) {s t:St} (h:StOk P s) (k:StOk P t) (e:enc s=enc t):s=t:=by
 refine e0a2' (h.four hP) fun h1 h2=>?_
 refine e0a2' (k.four hP) fun k1 k2=>?_
 have h3:=Zto h1
 have h4:5 ^ s.2.length≤5 ^ 3:=Nat.pow_le_pow_right (by decide) h2
 have k3:=Zto k1
 have k4:5 ^ t.2.length≤5 ^ 3:=Nat.pow_le_pow_right (by decide) k2
 have d:=dm125 (Nat.lt_of_lt_of_le h3 h4) (Nat.lt_of_lt_of_le k3 k4) e
 refine Prod.ext (Ztp h.1.1 k.1.1 d.1) (Ztq ?_ h1 k1 d.2)
 have:=h.2.1
 have:=k.2.1
 omega
theorem pigeon:∀ (N:Nat) (l:List Nat),l.Nodup→(∀ x∈l,x < N)→l.length≤N
 | 0,[],_,_=>Nat.le_refl _
 | 0,x::_,_,h=>absurd (h x (List.mem_cons_self ..)) (by omega)
 | N+1,l,hn,h=>by
  have i:=pigeon N (l.erase N) (hn.erase N) fun x hx=>by
   have:=(hn.mem_erase_iff).mp hx
   have:=h x this.2
   omega
  have:l.length≤(l.erase N).length+1:=by
   rw [List.length_erase]
   split <;> omega
  omega
theorem Zts {P:Prog} (hP:P.Ok):∀ {l:List St},l.Nodup→(∀ s∈l,StOk P s)→(l.map enc).Nodup
 | [],_,_=>by simp
 | s::l,hn,h=>by
  rw [List.nodup_cons] at hn
  rw [List.map_cons,List.nodup_cons]
  refine ⟨fun hm=>?_,Zts hP hn.2 fun t ht=>h t (List.mem_cons_of_mem _ ht)⟩
  refine e1a2 (List.mem_map.mp hm) fun t ht e=>?_
  exact hn.1 (Ztr hP (h t (List.mem_cons_of_mem _ ht)) (h s (List.mem_cons_self ..)) e ▸ ht)
theorem Ztt {P:Prog} (hP:P.Ok) {l:List St} (hn:l.Nodup) (h:∀ s∈l,StOk P s):l.length≤2000:=by
 have:=pigeon 2000 (l.map enc) (Zts hP hn h) fun x hx=>by
  refine e1a2 (List.mem_map.mp hx) fun s hs eZ2=>?_; subst eZ2
  exact enc_lt hP (h s hs)
 simpa using this
theorem tv_is (l:List (Option Int)) {Q:Bool→Prop} (q:Q (l.any Option.isNone)):OB (cmpop H .is (tv l) .none) Q:=by
 unfold tv
 cases e:l.any Option.isNone with
 | true=>rw [e] at q; exact ⟨true,rfl,q⟩
 | false=>rw [e] at q; exact ⟨false,rfl,q⟩
theorem Ztu (p:Option Place) {Q:Bool→Prop} (q:Q p.isSome):OB (cmpop H .isNot (pv p) .none) Q:=by
 cases p with
 | none=>exact ⟨false,rfl,q⟩
 | some p=>exact ⟨true,rfl,q⟩
theorem Ztv (s:Option St) {Q:Bool→Prop} (q:Q s.isSome):OB (cmpop H .isNot (sv s) .none) Q:=by
 cases s with
 | none=>exact ⟨false,rfl,q⟩
 | some s=>exact ⟨true,rfl,q⟩
noncomputable def MeI (one:Prog) (ps:List Place) (s:St) (H:AH) (k:Nat) (σ:Loc) (H':AH):Prop:=∃ (l:List St) (st:Option St),σ 0=some one.av∧σ 1=some (.lst (ps.map Place.av))∧σ 2=some (sv st)∧σ 3=some (.ref H.length)∧σ 4=some (.int l.length)∧H'=H++[.dictS (dvF l 0)]∧(∀ t,st=some t→StOk one t)∧(∀ t∈l,StOk one t)∧l.Nodup∧k+l.length=2001∧metGo one ps k l st=metGo one ps 2001 [] (some s)
theorem Ztw {n:Nat} {one two:Prog} (h1:one.Ok) (h2:two.Ok) {ps:List Place} (hp:∀ p∈ps,p.Ok one two) {s:St} (hs:StOk one s) (q:Q (metGo one ps 2001 [] (some s)).av H):W (fns tbl (n+3) Zka [one.av,.lst (ps.map Place.av),sv (some s)] H) Q:=by
 refine Zrl (run_g3 (fun σ₀ R s0 s1 s2 hR=>?_))
 unfold Zmx
 have b3:=h2.b3
 (repeat' (first|refine s_seq ?_|refine s_asg ?_|refine w_cst ?_|refine w_newS ?_|fail))
 refine Zh1 (MeI one ps s H) 2001 (by decide) ⟨[],some s,s0,s1,s2,rfl,rfl,rfl,fun t e=>(Option.some.inj e) ▸ hs,fun _ h=>(nomatch h),List.nodup_nil,rfl,rfl⟩ ?_
 intro k σ H' h
 refine e2a11 h fun l st s0 s1 s2 s3 s4 eZ7 hst hl hn hk e=>?_; clear h; subst eZ7
 have few:=Ztt h1 hn hl
 refine Exists.elim (Zas hk few) fun j eZ1=>?_; subst eZ1
 refine t_cmp (w_loc s2 (w_cst (Ztv st ?_)))
 cases st with
 | none =>
  refine ⟨fun h=>(nomatch h),fun _=>?_⟩
  have e:Met.over l.length=_:=e
  rw [← e] at q
  (repeat' (first|refine s_ret ?_|refine w_cst ?_|refine w_loc (by first|rfl|assumption) ?_|refine w_cons ?_|refine w_nil ?_|refine w_tup ?_|refine hR _ _ ?_|fail))
  exact Zgw rfl q
 | some t =>
  refine ⟨fun _=>⟨j,rfl,?_⟩,fun h=>(nomatch h)⟩
  have ht:=hst t rfl
  have e:(match (ps.find? fun p=>decide (p.row=t.1)) with
   | some p=>if (p.rules.map (numOf t.2)).any Option.isNone then Met.stuck l.length else .comes l.length
   | none=>match posOf t l 0 with
    | some i=>.missed i (l.length - i)
    | none=>metGo one ps j (l++[t]) (nextS one t).1)=_:=e
  refine s_seq (s_asg (Zfv (w_cons (w_loc s1 (w_cons (w_sub (w_loc s2 (w_cst (OB.of (v:=.int t.1) rfl (w_nil (Ztk ?_)))))))))))
  refine s_seq (s_if (t_cmp (w_loc rfl (w_cst (Ztu _ ?_)))))
  cases hf:(ps.find? fun p=>decide (p.row=t.1)) with
  | some p =>
   rw [hf] at e
   dsimp only at e
   have hpm:p∈ps:=List.mem_of_find?_eq_some hf
   have rl:=(hp p hpm).rl
   refine if_tt ?_
   refine s_seq (s_if (t_cmp (Zfv (w_cons (w_sub (w_loc rfl (w_cst (OB.of (v:=.tup (p.rules.map Rule.av)) rfl (w_cons (w_sub (w_loc s2 (w_cst (OB.of (v:=.tup (t.2.map .int)) rfl (w_nil (Ztj h1 (by omega) (hp p hpm).ok ht.2 (w_cst (tv_is _ ?_)))))))))))))))))
   cases ha:(p.rules.map (numOf t.2)).any Option.isNone with
   | true =>
    rw [ha,if_pos rfl] at e
    rw [← e] at q
    (repeat' (first|refine s_ret ?_|refine w_cst ?_|refine w_loc (by first|rfl|assumption) ?_|refine w_cons ?_|refine w_nil ?_|refine w_tup ?_|refine if_tt ?_|refine hR _ _ ?_|fail))
    exact Zgw rfl q
   | false =>
    rw [ha,if_neg (by decide)] at e
    rw [← e] at q
    (repeat' (first|refine s_ret ?_|refine s_nil ?_|refine w_cst ?_|refine w_loc (by first|rfl|assumption) ?_|refine w_cons ?_|refine w_nil ?_|refine w_tup ?_|refine if_ff ?_|refine hR _ _ ?_|fail))
    exact Zgw rfl q
  | none =>
   rw [hf] at e
   dsimp only at e
   refine if_ff (s_nil ?_)
   refine s_seq (s_if (t_val (w_hasT (w_loc s2 (w_loc s3 (Zh9 (k:=t) (Zf0 ?_)))))))
   rw [Ztl]
   cases hpos:posOf t l 0 with
   | some i =>
    rw [hpos] at e
    dsimp only at e
    have hi:=(Ztn hpos).2
    rw [← e] at q
    have look:lookD (dvF l 0) t=some (.int i):=by rw [Ztl,hpos]; rfl
    refine if_tt ?_
    (repeat' (first|refine Zia (k:=t) look ?_|refine s_ret ?_|refine w_bin ?_|refine w_cst ?_|refine w_loc (by first|rfl|assumption) ?_|refine w_cons ?_|refine w_nil ?_|refine w_tup ?_|refine w_getT ?_|refine ob_sub ?_|refine hR _ _ ?_|fail))
    have:(l.length:Int) - (i:Int)=((l.length - i:Nat):Int):=(Int.ofNat_sub (Nat.le_of_lt (by first|assumption|(rw [Nat.zero_add] at hi; exact hi)|omega))).symm
    rw [this]
    exact Zgw rfl q
   | none =>
    rw [hpos] at e
    dsimp only at e
    refine if_ff (s_nil ?_)
    (repeat' (first|refine Zic (k:=t) (by rw [dv_len]; exact Nat.le_trans (by assumption) (by decide)) ?_|refine Zte h1 ht ?_|refine s_seq ?_|refine s_asg ?_|refine w_bin ?_|refine w_cst ?_|refine w_loc (by first|rfl|assumption) ?_|refine Zfv ?_|refine w_cons ?_|refine w_nil ?_|refine w_sub ?_|refine s_putT ?_|refine ob_add ?_|refine OB.of (by rfl) ?_|fail))
    refine ⟨l++[t],(nextS one t).1,s0,s1,rfl,s3,?_,by rw [put_dv hpos],fun t' h'=>Ztd h1 ht h',?_,?_,by simp; omega,e⟩
    ·show some (AV.int ((l.length:Int)+1))=_
     simp
    ·intro t' h'
     rcases List.mem_append.mp h' with h'|h'
     ·exact hl t' h'
     ·rw [List.mem_singleton.mp h']; exact ht
    ·rw [List.nodup_append]
     refine ⟨hn,by simp,fun a ha b hb=>?_⟩
     rw [List.mem_singleton.mp hb]
     intro q
     exact Ztm hpos (q ▸ ha)
noncomputable def RT (ps:List Place) (rl:List (Int×AV)):Prop:=∀ k,lookD rl k=(ps.find? fun p=>decide (p.row=k)).map fun p=>.tup (p.rules.map Rule.av)
noncomputable def rtL (ps:List Place):List (Int×AV):=ps.map fun p=>(p.row,.tup (p.rules.map Rule.av))
theorem rt_of:∀ ps:List Place,RT ps (rtL ps)
 | [],k=>rfl
 | p::ps,k=>by
  have i:=rt_of ps k
  by_cases e:p.row=k
  ·simp [rtL,lookD,e]
  ·have h1:lookD (rtL (p::ps)) k=lookD (rtL ps) k:=by simp [rtL,lookD,List.find?_cons,e]
   have h2:(p::ps).find? (fun p=>decide (p.row=k))=ps.find? fun p=>decide (p.row=k):=by simp [List.find?_cons,e]
   rw [h1,h2,i]
theorem Ztx {n:Nat} {ps:List Place} (hl:ps.length≤100) (hn:(ps.map Place.row).Nodup) (q:Q (.ref H.length) (H++[.dict (rtL ps)])):W (fns tbl (n+1) Zkn [.lst (ps.map Place.av)] H) Q:=by
 refine Zry (run_u rfl ?_)
 unfold Zo5
 (repeat' (first|refine s_seq ?_|refine s_asg ?_|refine s_for ?_|refine w_loc (by first|rfl|assumption) ?_|refine w_newD ?_|refine OB.of (by rfl) ?_|fail))
 refine Zgk (fun rest σ H'=>σ 1=some (.ref H.length)∧∃ dn,ps=dn++rest∧H'=H++[.dict (rtL dn)]) ?_ ?_ ⟨rfl,[],rfl,rfl⟩
 ·intro p rest σ H' h
  obtain ⟨s1,dn,e,rfl⟩:=h
  have hnew:putD (rtL dn) p.row (.tup (p.rules.map Rule.av))=rtL (dn++[p]):=by
   have:(rtL dn).any (fun x=>decide (x.1=p.row))=false:=by
    rw [List.any_eq_false]
    intro x hx hk
    obtain ⟨p',hp',rfl⟩:=List.mem_map.mp hx
    rw [e,List.map_append,List.nodup_append] at hn
    exact hn.2.2 p'.row (List.mem_map_of_mem hp') p.row (by simp) (of_decide_eq_true hk)
   unfold putD
   rw [this]
   simp [rtL]
  have hdl:(rtL dn).length≤100:=by
   have:=congrArg List.length e
   simp [rtL] at this ⊢
   omega
  (repeat' (first|refine Zh3 (k:=p.row) (by omega) ?_|refine w_cst ?_|refine w_loc (by first|rfl|assumption) ?_|refine w_sub ?_|refine s_putI ?_|refine OB.of (by rfl) ?_|fail))
  exact ⟨s1,dn++[p],by rw [e]; simp,by rw [hnew]⟩
 ·intro σ H' h
  obtain ⟨s1,dn,e,rfl⟩:=h
  rw [List.append_nil] at e
  subst e
  (repeat' (first|refine s_ret ?_|refine w_loc (by first|rfl|assumption) ?_|fail))
  exact q
theorem Zty {c:Bool} {a b:AV} {Q:AV→Prop} (q:Q (if c then b else a)):OB (subop H (.lst [a,b]) (.int (if c=true then 1 else 0))) Q:=by
 cases c with
 | true=>exact ⟨_,rfl,q⟩
 | false=>exact ⟨_,rfl,q⟩
theorem lmet_w {n:Nat} {one two:Prog} (h1:one.Ok) (h2:two.Ok) {ps:List Place} (hp:∀ p∈ps,p.Ok one two) {s:St} (hs:StOk one s) {jr:Nat} {rl:List (Int×AV)} (hj:H[jr]?=some (.dict rl)) (hrt:RT ps rl) (q:Q (metGo one ps 2001 [] (some s)).av H):W (fns tbl (n+3) Zko [one.av,.ref jr,sv (some s)] H) Q:=by
 refine Zrz (run_g3 (fun σ₀ R s0 s1 s2 hR=>?_))
 unfold Zpc
 have b3:=h2.b3
 have hj':∀ X:AH,(H++X)[jr]?=some (.dict rl):=fun X=>by rw [List.getElem?_append_left (List.getElem?_eq_some_iff.mp hj).1]; exact hj
 (repeat' (first|refine s_seq ?_|refine s_asg ?_|refine w_newS ?_|fail))
 refine Zh1 (fun k σ H'=>∃ (l:List St) (st:Option St),σ 0=some one.av∧σ 1=some (.ref jr)∧σ 2=some (sv st)∧σ 3=some (.ref H.length)∧H'=H++[.dictS (dvF l 0)]∧(∀ t,st=some t→StOk one t)∧(∀ t∈l,StOk one t∧(ps.find? fun p=>decide (p.row=t.1))=none)∧l.Nodup∧k+l.length=2001∧metGo one ps k l st=metGo one ps 2001 [] (some s)) 2001 (by decide) ⟨[],some s,s0,s1,s2,rfl,rfl,fun t e=>(Option.some.inj e) ▸ hs,fun _ h=>(nomatch h),List.nodup_nil,rfl,rfl⟩ ?_
 intro k σ H' h
 obtain ⟨l,st,s0,s1,s2,s3,rfl,hst,hl,hn,hk,e⟩:=h
 have few:=Ztt h1 hn fun t ht=>(hl t ht).1
 refine Exists.elim (Zas hk few) fun j eZ1=>?_; subst eZ1
 refine t_cmp (w_loc s2 (w_cst (Ztv st ?_)))
 have dl:(dvF l 0).length=l.length:=dv_len l 0
 cases st with
 | none =>
  refine ⟨fun h=>(nomatch h),fun _=>?_⟩
  have e:Met.over l.length=_:=e
  rw [← e] at q
  (repeat' (first|refine Zib (by omega) ?_|refine s_ret ?_|refine w_cst ?_|refine w_loc (by first|rfl|assumption) ?_|refine w_cons ?_|refine w_nil ?_|refine w_tup ?_|refine w_lenT ?_|refine hR _ _ ?_|fail))
  rw [dl]
  exact Zgw rfl q
 | some t =>
  refine ⟨fun _=>⟨j,rfl,?_⟩,fun h=>(nomatch h)⟩
  have ht:=hst t rfl
  have e:(match (ps.find? fun p=>decide (p.row=t.1)) with
   | some p=>if (p.rules.map (numOf t.2)).any Option.isNone then Met.stuck l.length else .comes l.length
   | none=>match posOf t l 0 with
    | some i=>.missed i (l.length - i)
    | none=>metGo one ps j (l++[t]) (nextS one t).1)=_:=e
  refine s_seq (s_if (t_val (w_hasT (w_loc s2 (w_loc s3 (Zh9 (k:=t) (Zf0 ?_)))))))
  rw [Ztl]
  cases hpos:posOf t l 0 with
  | some i =>
   refine e0a2' (Ztn hpos) fun hm hi=>?_
   rw [(hl t hm).2,hpos] at e
   dsimp only at e
   rw [← e] at q
   have look:lookD (dvF l 0) t=some (.int i):=by rw [Ztl,hpos]; rfl
   refine if_tt ?_
   (repeat' (first|refine Zia (k:=t) look ?_|refine Zib (by omega) ?_|refine s_ret ?_|refine w_bin ?_|refine w_cst ?_|refine w_loc (by first|rfl|assumption) ?_|refine w_cons ?_|refine w_nil ?_|refine w_tup ?_|refine w_getT ?_|refine w_lenT ?_|refine ob_sub ?_|refine hR _ _ ?_|fail))
   rw [dl]
   have:(l.length:Int) - (i:Int)=((l.length - i:Nat):Int):=(Int.ofNat_sub (Nat.le_of_lt (by first|assumption|(rw [Nat.zero_add] at hi; exact hi)|omega))).symm
   rw [this]
   exact Zgw rfl q
  | none =>
   refine if_ff (s_nil ?_)
   refine s_seq (s_if (t_val (w_hasI (w_sub (w_loc s2 (w_cst (OB.of (v:=.int t.1) rfl (w_loc s1 (Zh5 (hj' _) (Zf0 ?_))))))))))
   rw [hrt]
   cases hf:(ps.find? fun p=>decide (p.row=t.1)) with
   | some p =>
    rw [hf] at e
    dsimp only at e
    have hpm:p∈ps:=List.mem_of_find?_eq_some hf
    have rl':=(hp p hpm).rl
    have look:lookD rl t.1=some (.tup (p.rules.map Rule.av)):=by rw [hrt,hf]; rfl
    refine if_tt ?_
    refine s_ret (w_tup (w_cons (w_sub (w_lst (w_cons (w_cst (w_cons (w_cst (w_nil ?_)))))))))
    (repeat' (first|refine Zh6 (hj' _) look ?_|refine Zsl h1 (by omega) (hp p hpm).ok ht.2 ?_|refine tv_is _ ?_|refine w_cst ?_|refine w_loc (by first|rfl|assumption) ?_|refine Zfv ?_|refine Zfw ?_|refine w_cons ?_|refine w_nil ?_|refine w_sub ?_|refine w_cmp ?_|refine w_getI ?_|refine Zgo ?_|refine OB.of (by rfl) ?_|fail))
    refine Zty ?_
    (repeat' (first|refine Zib (by omega) ?_|refine w_loc (by first|rfl|assumption) ?_|refine w_cons ?_|refine w_nil ?_|refine w_lenT ?_|refine hR _ _ ?_|fail))
    rw [dl]
    cases ha:(p.rules.map (numOf t.2)).any Option.isNone with
    | true =>
     rw [ha,if_pos rfl] at e
     rw [← e] at q
     exact Zgw rfl q
    | false =>
     rw [ha,if_neg (by decide)] at e
     rw [← e] at q
     exact Zgw rfl q
   | none =>
    rw [hf,hpos] at e
    dsimp only at e
    refine if_ff (s_nil ?_)
    (repeat' (first|refine Zic (k:=t) (by omega) ?_|refine Ztf h1 ht ?_|refine Zib (by omega) ?_|refine s_seq ?_|refine s_asg ?_|refine w_cst ?_|refine w_loc (by first|rfl|assumption) ?_|refine Zfv ?_|refine w_cons ?_|refine w_nil ?_|refine w_sub ?_|refine w_lenT ?_|refine s_putT ?_|refine OB.of (by rfl) ?_|fail))
    refine ⟨l++[t],(nextS one t).1,s0,s1,rfl,s3,by rw [dl,put_dv hpos],fun t' h'=>Ztd h1 ht h',?_,?_,by simp; omega,e⟩
    ·intro t' h'
     rcases List.mem_append.mp h' with h'|h'
     ·exact hl t' h'
     ·rw [List.mem_singleton.mp h']; exact ⟨ht,hf⟩
    ·rw [List.nodup_append]
     refine ⟨hn,by simp,fun a ha b hb=>?_⟩
     rw [List.mem_singleton.mp hb]
     intro q
     exact Ztm hpos (q ▸ ha)
theorem Ztz {n:Nat} {i lo hi:Int} (h:lo≤i∧i≤hi) (q:Q (.bool true) H):W (fns tbl (n+1) Zjx [.int i,.int lo,.int hi] H) Q:=by
 refine Zsr rfl ?_
 have:among lo hi (.int i)=true:=by
  show (decide _&&decide _)=true
  rw [decide_eq_true h.1,decide_eq_true h.2]; rfl
 rw [this]; exact q
noncomputable def rσ (r:Row) (b m k:Int):Loc:=args0 [r.av,.int b,.int m,.int k] 0
noncomputable def amD (Φ:Fns) (a c:Int):DE:=dCall Φ (dCst (.fn Zjx)) [dCst (.int a),dCst (.int 0),dCst (.int c)]
theorem lt_sub {a c:Int} (h:0≤a∧a < c):0≤a∧a≤c - 1:=⟨h.1,Int.le_sub_one_of_lt h.2⟩
section
variable {Φ:Fns} {H:AH} {b m k j v:Int}
theorem Zt0:Zk6 Φ (rσ .stop b m k) H=.ok (.ret (.bool true),rσ .stop b m k) H:=by kernel_rfl
theorem rk_go:Zk6 Φ (rσ (.go j) b m k) H=sSeq (sRet (amD Φ j (k - 1))) (Zk3 Φ) (rσ (.go j) b m k) H:=by kernel_rfl
theorem Zt1:Zk6 Φ (rσ (.more j) b m k) H=sSeq (sRet (amD Φ j (b - 1))) (Zk2 Φ) (rσ (.more j) b m k) H:=by kernel_rfl
theorem Zt2:Zk6 Φ (rσ (.tell j) b m k) H=sSeq (sRet (amD Φ j (b - 1))) (Zk2 Φ) (rσ (.tell j) b m k) H:=by kernel_rfl
theorem ri_put:Zk6 Φ (rσ (.put j v) b m k) H=sSeq (sIf (tNot (tVal (amD Φ j (b - 1)))) (sRet (dCst (.bool false))) sNil) (Zk1 Φ) (rσ (.put j v) b m k) H:=by kernel_rfl
theorem rk_put:Zk1 Φ (rσ (.put j v) b m k) H=(sSeq (sRet (amD Φ v m)) (Zk0 Φ)) (rσ (.put j v) b m k) H:=by kernel_rfl
theorem Zt3:Zk6 Φ (rσ (.copy j v) b m k) H=sSeq (sIf (tNot (tVal (amD Φ j (b - 1)))) (sRet (dCst (.bool false))) sNil) (Zk1 Φ) (rσ (.copy j v) b m k) H:=by kernel_rfl
theorem Zt4:Zk1 Φ (rσ (.copy j v) b m k) H=(sSeq (sRet (amD Φ v (b - 1))) (Zkz Φ)) (rσ (.copy j v) b m k) H:=by kernel_rfl
theorem ri_ask:Zk6 Φ (rσ (.ask j v) b m k) H=sSeq (sIf (tNot (tVal (amD Φ j (b - 1)))) (sRet (dCst (.bool false))) sNil) (Zk1 Φ) (rσ (.ask j v) b m k) H:=by kernel_rfl
theorem rk_ask:Zk1 Φ (rσ (.ask j v) b m k) H=(sRet (amD Φ v (k - 1))) (rσ (.ask j v) b m k) H:=by kernel_rfl
theorem am_r {n:Nat} {a c:Int} (h:0≤a∧a≤c) {σ:Loc} (q:R (.bool true) H):WS (sRet (amD (fns tbl (n+1)) a c) σ H) N R :=
 s_ret (Zfv (w_cons (w_cst (w_cons (w_cst (w_cons (w_cst (w_nil (Ztz h q)))))))))
theorem am_ret {n:Nat} {a c:Int} (h:0≤a∧a≤c) {d:DS} {σ:Loc} (q:R (.bool true) H):WS (sSeq (sRet (amD (fns tbl (n+1)) a c)) d σ H) N R:=s_seq (am_r h q)
theorem am_if {n:Nat} {a c:Int} (h:0≤a∧a≤c) {d:DS} {σ:Loc} (q:WS (d σ H) N R):WS (sSeq (sIf (tNot (tVal (amD (fns tbl (n+1)) a c))) (sRet (dCst (.bool false))) sNil) d σ H) N R :=
 s_seq (s_if (t_not (t_val (Zfv (w_cons (w_cst (w_cons (w_cst (w_cons (w_cst (w_nil (Ztz h (Zf0 (if_ff (s_nil q)))))))))))))))
end
theorem Zt5 {n:Nat} {b m k:Int} {r:Row} (h:r.Ok b m k) (q:Q (.bool true) H):W (fns tbl (n+2) Zjy [r.av,.int b,.int m,.int k] H) Q:=by
 refine Zq9 (run_w rfl ?_)
 have f:=Zgx (H:=H) (v:=.bool true) rfl q
 refine (?_:WS (Zk6 (fns tbl (n+1)) (rσ r b m k) H) _ _)
 cases r with
 | stop=>rw [Zt0]; exact ⟨_,_,rfl,f⟩
 | go j=>rw [rk_go]; exact am_ret (lt_sub h) f
 | more j=>rw [Zt1]; exact am_ret (lt_sub h) f
 | tell j=>rw [Zt2]; exact am_ret (lt_sub h) f
 | put j v=>rw [ri_put]; refine am_if (lt_sub h.1) ?_; rw [rk_put]; exact am_ret h.2 f
 | copy j v=>rw [Zt3]; refine am_if (lt_sub h.1) ?_; rw [Zt4]; exact am_ret (lt_sub h.2) f
 | ask j v=>rw [ri_ask]; refine am_if (lt_sub h.1) ?_; rw [rk_ask]; exact am_r (lt_sub h.2) f
theorem Zt6 {X:Type} {f:X→AV} {l:List X} {xs:List AV} (h:All2 (fun (_:X) x=>x=AV.bool true) l xs) {Q:AV→Prop} (q:Q (.bool true)):OB (appBI H .all [.lst xs]) Q :=
 Zht (All2.all (T:=fun v=>v=AV.bool true) (fun _ _ e=>e) h) q
theorem Zt7 {ini:List Row} {r:Row} {Q:AV→Prop} (h:ini.length≤1000) (q:Q r.av):OB (subop H (.lst ((ini++[r]).map Row.av)) (.int (-1))) Q:=by
 refine ⟨_,?_,q⟩
 show itemAt ((ini++[r]).map Row.av) (-1)=_
 unfold itemAt
 rw [if_pos ⟨by exact Int.natCast_nonneg _,by exact Int.natCast_nonneg _⟩,if_neg (by decide),if_pos (by simp; omega)]
 have:(-1+(((ini++[r]).map Row.av).length:Int)).toNat=(ini.map Row.av).length:=by simp; omega
 rw [this]
 simp
theorem Zt8 {n:Nat} {P:Prog} (h:P.Ok) (q:Q (.bool true) H):W (fns tbl (n+3) Zjz [P.av] H) Q:=by
 refine Zra (run_w rfl ?_)
 unfold Zld
 have b0:=h.b0
 have b3:=h.b3
 have m1:=h.m1
 have m4:=h.m4
 have r1:=h.r1
 have r16:=h.r16
 (repeat' (first|refine if_tt ?_|refine if_ff ?_|refine Ztz (by omega) ?_|refine Zhu (by exact Nat.le_trans (by assumption) (by decide)) ?_|refine Zg6 (f:=Row.av) (P:=fun _ x=>x=.bool true) ?_|refine s_seq ?_|refine s_if ?_|refine s_ret ?_|refine s_nil ?_|refine w_cst ?_|refine w_loc (by first|rfl|assumption) ?_|refine Zfw ?_|refine w_cons ?_|refine w_nil ?_|refine w_cmp2 ?_|refine t_cmp ?_|refine t_val ?_|refine t_not ?_|refine t_or ?_|refine ob_neI ?_|refine if_dec (fun _=>?_) (fun _=>?_)|refine Zfz (fun _=>?_) (fun _=>?_)|refine Zf0 ?_|refine OB.of (by rfl) ?_|fail))
 all_goals first|(exfalso; omega)|skip
 refine ⟨P.rows,rfl,by exact Nat.le_trans (by assumption) (by decide),?_,?_⟩
 ·intro r hr H'
  (repeat' (first|refine Zhu (by exact Nat.le_trans (by assumption) (by decide)) ?_|refine Zt5 (h.ok r hr) ?_|refine w_loc (by first|rfl|assumption) ?_|refine Zfv ?_|refine Zfw ?_|refine w_cons ?_|refine w_nil ?_|fail))
  exact ⟨rfl,rfl,rfl⟩
 ·intro ys ha
  refine w_nil (Zt6 (f:=Row.av) ha ?_)
  refine e2a2 h.last fun ini r e hl=>?_
  rw [e]
  have hi:ini.length≤1000:=by have:=congrArg List.length e; simp at this; omega
  cases r with
  | go j =>
   (repeat' (first|refine if_tt ?_|refine if_ff ?_|refine Zt7 hi ?_|refine s_ret ?_|refine s_nil ?_|refine w_cst ?_|refine w_loc (by first|rfl|assumption) ?_|refine w_sub ?_|refine w_neg ?_|refine w_cmp ?_|refine w_or ?_|refine Zg3 (by decide +kernel) ?_|refine if_tf ?_|refine Zf0 ?_|refine int_ex ?_|refine OB.of (by rfl) ?_|fail))
   exact Zgx rfl q
  | stop =>
   (repeat' (first|refine if_tt ?_|refine if_ff ?_|refine Zt7 hi ?_|refine s_ret ?_|refine s_nil ?_|refine w_cst ?_|refine w_loc (by first|rfl|assumption) ?_|refine w_sub ?_|refine w_neg ?_|refine w_cmp ?_|refine w_or ?_|refine Zg3 (by decide +kernel) ?_|refine Zg4 (by decide +kernel) ?_|refine if_ft ?_|refine Zf0 ?_|refine int_ex ?_|refine OB.of (by rfl) ?_|fail))
   exact Zgx rfl q
  | _=>exact hl.elim
theorem Zt9 {n:Nat} {P:Prog} (h:P.Ok) (q:Q P.av H):W (fns tbl (n+4) Zj0 [P.av] H) Q:=by
 refine Zrb (run_w rfl ?_)
 unfold Zlf
 (repeat' (first|refine Zt8 h ?_|refine s_seq ?_|refine s_if ?_|refine s_ret ?_|refine s_nil ?_|refine w_loc (by first|rfl|assumption) ?_|refine t_val ?_|refine t_not ?_|refine if_ff ?_|refine Zf0 ?_|fail))
 exact Zgx P.flat q
theorem Zua {X:Type} {f:X→AV} {l:List X} {Q:AV→Prop} (h:l.length≤1000000) (q:Q (.int l.length)):OB (appBI H .len [.tup (l.map f)]) Q:=Zho (by rw [List.length_map]; exact h) (by rw [List.length_map]; exact q)
theorem Zub {n:Nat} {P:Prog} {v:Option Int} (h:OkN P.most v) (q:Q (.bool true) H):W (fns tbl (n+2) Zj2 [P.av,ov v] H) Q:=by
 refine Zrd (run_w rfl ?_)
 unfold Zlu
 cases v with
 | none =>
  (repeat' (first|refine s_ret ?_|refine w_cst ?_|refine w_loc (by first|rfl|assumption) ?_|refine w_cmp ?_|refine w_or ?_|refine if_tf ?_|refine Zf0 ?_|refine OB.of (by rfl) ?_|fail))
  exact Zgx rfl q
 | some i =>
  have:=h i rfl
  (repeat' (first|refine Ztz (by assumption) ?_|refine s_ret ?_|fail))
  exact Zgx rfl q
noncomputable def lσ (a b v:AV):Loc:=args0 [a,b,v] 0
section
variable {Φ:Fns} {H:AH} {a b x y r B:AV} {l:List AV} {b0 m0 j:Int} {v:Option Int}
theorem lk_tt:Zl6 Φ (lσ a b (.tup [x,y,.tup l])) H=Zl5 Φ (lσ a b (.tup [x,y,.tup l])) H:=by kernel_rfl
theorem kr_is:Zl1 Φ (lσ a B (.tup [.str "is",x])) H=sSeq (sRet (dCall Φ (dCst (.fn Zj2)) [dCst B,dCst x])) (Zlz Φ) (lσ a B (.tup [.str "is",x])) H:=by kernel_rfl
theorem kr_by:Zl1 Φ (lσ (.tup [.int b0,.int m0,r]) B (.tup [.str "by",.int j,.tup l])) H=sSeq (sIf (tNot (tVal (amD Φ j (b0 - 1)))) (sRet (dCst (.bool false))) sNil) (Zly Φ) (lσ (.tup [.int b0,.int m0,r]) B (.tup [.str "by",.int j,.tup l])) H:=by kernel_rfl
end
theorem am_e {n:Nat} {c:Bool} {lo hi:Int} {v:AV} (hv:nice v=true) (e:among lo hi v=c) (q:Q (.bool c) H):W (fns tbl (n+1) Zjx [v,.int lo,.int hi] H) Q:=Zsr hv (e ▸ q)
theorem am_in {lo hi i:Int} (h:lo≤i∧i≤hi):among lo hi (.int i)=true:=by
 show (decide _&&decide _)=true
 rw [decide_eq_true h.1,decide_eq_true h.2]; rfl
theorem nl_2 {one two:Prog} (h1:one.Ok) (h2:two.Ok) {x y:AV} {l:List AV} {cx cy:Bool} (hx:nice x=true) (hy:nice y=true) (ex:among 0 ((one.rows.length:Int) - 1) x=cx) (ey:among 0 ((two.rows.length:Int) - 1) y=cy) {n:Nat}
  (q:(cx&&cy)=false→R (.bool false) H) (h:(cx&&cy)=true→WS (Zl4 (fns tbl (n+3)) (lσ one.av two.av (.tup [x,y,.tup l])) H) N R):WS (Zl5 (fns tbl (n+3)) (lσ one.av two.av (.tup [x,y,.tup l])) H) N R:=by
 have r16:=h1.r16
 have t16:=h2.r16
 unfold Zl5
 refine s_seq (s_if (t_or (t_not (t_val (Zfv (w_cons (w_sub (w_loc (v:=.tup [x,y,.tup l]) rfl (w_cst (OB.of (v:=x) rfl (w_cons (w_cst (w_cons ?_)))))))))))))
 refine w_bin (Zfw (w_cons (w_sub (w_loc (v:=one.av) rfl (w_cst (OB.of rfl (w_nil (Zhu (by exact Nat.le_trans (by assumption) (by decide)) (w_cst (ob_sub (w_nil (am_e hx ex (Zf0 ?_)))))))))))))
 cases cx with
 | false=>exact if_tt (if_tt (s_ret (w_cst (q rfl))))
 | true =>
  refine if_ff (t_not (t_val (Zfv (w_cons (w_sub (w_loc (v:=.tup [x,y,.tup l]) rfl (w_cst (OB.of (v:=y) rfl (w_cons (w_cst (w_cons ?_)))))))))))
  refine w_bin (Zfw (w_cons (w_sub (w_loc (v:=two.av) rfl (w_cst (OB.of rfl (w_nil (Zhu (by exact Nat.le_trans (by assumption) (by decide)) (w_cst (ob_sub (w_nil (am_e hy ey (Zf0 ?_)))))))))))))
  cases cy with
  | false=>exact if_tt (s_ret (w_cst (q rfl)))
  | true=>exact if_ff (s_nil (h rfl))
theorem Zuc {n:Nat} {one two:Prog} (h1:one.Ok) (h2:two.Ok) {r:Rule} (h:r.Ok one.boxes one.most two.most) (q:Q (.bool true) H):W (fns tbl (n+3) Zj3 [one.av,two.av,r.av] H) Q:=by
 refine Zre (run_w rfl ?_)
 have f:=Zgx (H:=H) (v:=.bool true) rfl q
 cases r with
 | is v =>
  refine (?_:WS (Zl1 (fns tbl (n+2)) (lσ one.av two.av (.tup [.str "is",ov v])) H) _ _)
  rw [kr_is]
  exact s_seq (s_ret (Zfv (w_cons (w_cst (w_cons (w_cst (w_nil (Zub h f))))))))
 | byBox b vs =>
  have hb:0≤b∧b < one.boxes:=h.1
  have hl:(vs.length:Int)=one.most+1:=h.2.1
  have m4:=h1.m4
  refine (?_:WS (Zl1 (fns tbl (n+2)) (lσ (.tup [.int one.boxes,.int one.most,.lst (one.rows.map Row.av)]) two.av (.tup [.str "by",.int b,.tup (vs.map ov)])) H) _ _)
  rw [kr_by]
  refine am_if (lt_sub hb) ?_
  unfold Zly
  (repeat' (first|refine if_tt ?_|refine if_ff ?_|refine Zua (by omega) ?_|refine Zg6 (f:=ov) (P:=fun _ x=>x=.bool true) (w_sub (w_loc rfl (w_cst (OB.of (v:=.tup (vs.map ov)) rfl ⟨vs,rfl,by omega,?_,?_⟩))))|refine s_seq ?_|refine s_if ?_|refine s_ret ?_|refine s_nil ?_|refine w_bin ?_|refine w_cst ?_|refine w_loc (by first|rfl|assumption) ?_|refine Zfw ?_|refine w_cons ?_|refine w_nil ?_|refine w_sub ?_|refine t_cmp ?_|refine ob_add ?_|refine ob_neI ?_|refine Zfz (fun _=>?_) (fun _=>?_)|refine OB.of (by rfl) ?_|fail))
  all_goals first|(exfalso; omega)|skip
  ·intro v hv H'
   exact Zfv (w_cons (w_loc (v:=two.av) rfl (w_cons (w_loc (v:=ov v) rfl (w_nil (Zub (h.2.2 v hv) ⟨rfl,rfl,rfl⟩))))))
  ·intro ys ha
   exact w_nil (Zt6 (f:=ov) ha f)
theorem Zud {n:Nat} {one two:Prog} (h1:one.Ok) (h2:two.Ok) {p:Place} (h:p.Ok one two) (q:Q (.bool true) H):W (fns tbl (n+4) Zj4 [one.av,two.av,p.av] H) Q:=by
 refine Zrf (run_w rfl ?_)
 have f:=Zgx (H:=H) (v:=.bool true) rfl q
 have b3:=h2.b3
 have g2:=h.r1
 have g4:=h.o1
 have g5:=h.rl
 refine (?_:WS (Zl6 (fns tbl (n+3)) (lσ one.av two.av (.tup [.int p.row,.int p.other,.tup (p.rules.map Rule.av)])) H) _ _)
 rw [lk_tt]
 refine nl_2 h1 h2 rfl rfl (am_in ⟨h.r0,Int.le_sub_one_of_lt g2⟩) (am_in ⟨h.o0,Int.le_sub_one_of_lt g4⟩) (fun e=>nomatch e) (fun _=>?_)
 unfold Zl4
 refine s_ret (w_and (w_cmp (Zfw (w_cons (w_sub (w_loc (v:=.tup [.int p.row,.int p.other,.tup (p.rules.map Rule.av)]) rfl (w_cst (OB.of (v:=.tup (p.rules.map Rule.av)) rfl (w_nil (Zua (by omega) (w_sub (w_loc (v:=two.av) rfl (w_cst (OB.of (v:=.int two.boxes) rfl (ob_eqI (Zf0 ?_))))))))))))))))
 rw [decide_eq_true g5]
 refine if_tt (Zfw (w_cons (Zg6 (f:=Rule.av) (P:=fun _ x=>x=.bool true) (w_sub (w_loc (v:=.tup [.int p.row,.int p.other,.tup (p.rules.map Rule.av)]) rfl (w_cst (OB.of (v:=.tup (p.rules.map Rule.av)) rfl ⟨p.rules,rfl,by omega,?_,?_⟩)))))))
 ·intro r hr H'
  exact Zfv (w_cons (w_loc (v:=one.av) rfl (w_cons (w_loc (v:=two.av) rfl (w_cons (w_loc (v:=r.av) rfl (w_nil (Zuc h1 h2 (h.ok r hr) ⟨rfl,rfl,rfl⟩))))))))
 ·intro ys ha
  exact w_nil (Zt6 (f:=Rule.av) ha f)
noncomputable def PgI (one two:Prog) (ps:List Place) (H:AH) (rest:List Place) (σ:Loc) (H':AH):Prop:=σ 0=some one.av∧σ 1=some two.av∧σ 2=some (.lst (ps.map Place.av))∧σ 3=some (.ref H.length)∧∃ dn,ps=dn++rest∧H'=H++[.dict (dn.map fun p=>(p.row,AV.bool true))]
theorem Zue {n:Nat} {one two:Prog} (h1:one.Ok) (h2:two.Ok) {ps:List Place} (h:POk one two ps) (q:Q (.lst (ps.map Place.av)) H):W (fns tbl (n+5) Zj5 [one.av,two.av,.lst (ps.map Place.av)] H) Q:=by
 refine Zrg (run_g3 (fun σ₀ R s0 s1 s2 hR=>?_))
 unfold Zmb
 have hlen:=h.len
 refine s_seq (s_if ?_)
 (repeat' (first|refine Zhu (by exact Nat.le_trans (by assumption) (by decide)) ?_|refine s_seq ?_|refine s_asg ?_|refine s_nil ?_|refine s_for ?_|refine w_cst ?_|refine w_loc (by first|rfl|assumption) ?_|refine Zfw ?_|refine w_cons ?_|refine w_nil ?_|refine w_newD ?_|refine t_cmp ?_|refine t_val ?_|refine t_not ?_|refine t_or ?_|refine if_dec (fun _=>?_) (fun _=>?_)|refine if_ff ?_|refine Zf0 ?_|refine OB.of (by rfl) ?_|fail))
 ·rename_i h
  exfalso; omega
 refine Zgk (PgI one two ps H) ?_ ?_ ⟨s0,s1,s2,rfl,[],rfl,rfl⟩
 ·intro p rest σ H' hh
  refine Zag hh fun s0 s1 s2 s3 dn e eZ6=>?_; clear hh; subst eZ6
  have hp:p∈ps:=by rw [e]; simp
  have hdl:dn.length≤16:=by have:=congrArg List.length e; simp at this; omega
  have hnew:((dn.map fun p=>(p.row,AV.bool true)).any fun x=>decide (x.1=p.row))=false:=by
   rw [List.any_eq_false]
   intro x hx hk
   refine e1a2 (List.mem_map.mp hx) fun p' hp' eZ2=>?_; subst eZ2
   have hn:=h.nd
   rw [e,List.map_append,List.nodup_append] at hn
   exact hn.2.2 p'.row (List.mem_map_of_mem hp') p.row (by simp) (of_decide_eq_true hk)
  have look:(lookD (dn.map fun p=>(p.row,AV.bool true)) p.row).isSome=false:=by
   unfold lookD
   rw [Option.isSome_map]
   rw [List.any_eq_false] at hnew
   have:List.find? (fun q=>decide (q.1=p.row)) (dn.map fun p=>(p.row,AV.bool true))=none:=List.find?_eq_none.mpr hnew
   rw [this]; rfl
  have hput:putD (dn.map fun p=>(p.row,AV.bool true)) p.row (.bool true)=(dn++[p]).map fun p=>(p.row,AV.bool true):=by
   unfold putD
   rw [hnew]
   simp
  (repeat' (first|refine Zud h1 h2 (h.ok p hp) ?_|refine s_seq ?_|refine s_if ?_|refine w_cst ?_|refine w_loc (by first|rfl|assumption) ?_|refine Zfv ?_|refine w_cons ?_|refine w_nil ?_|refine w_sub ?_|refine w_hasI ?_|refine t_val ?_|refine t_not ?_|refine t_or ?_|refine if_ff ?_|refine Zf0 ?_|refine OB.of (by rfl) ?_|fail))
  refine Zh2 (k:=p.row) ?_
  rw [look]
  (repeat' (first|refine Zh3 (k:=p.row) (by simp; exact Nat.le_trans (by assumption) (by decide)) ?_|refine s_nil ?_|refine w_cst ?_|refine w_loc (by first|rfl|assumption) ?_|refine w_sub ?_|refine s_putI ?_|refine if_ff ?_|refine Zf0 ?_|refine OB.of (by rfl) ?_|fail))
  exact ⟨s0,s1,s2,s3,dn++[p],by rw [e]; simp,by rw [hput]⟩
 ·intro σ H' hh
  refine Zag hh fun s0 s1 s2 s3 dn e eZ6=>?_; clear hh; subst eZ6
  (repeat' (first|refine Zhr (by simp; exact Nat.le_trans (by assumption) (by decide)) ?_|refine s_ret ?_|refine w_loc (by first|rfl|assumption) ?_|refine Zfw ?_|refine w_cons ?_|refine w_nil ?_|refine hR _ _ ?_|fail))
  exact Zgw (Zgv (Zso (by decide))) q
noncomputable def Met.bad:Met→Bool
 | .stuck _=>true
 | .missed _ _=>true
 | _=>false
noncomputable def Met.word:Met→Str
 | .over _=>Str.ofString "over"
 | .stuck _=>Str.ofString "stuck"
 | .comes _=>Str.ofString "comes"
 | .missed _ _=>Str.ofString "missed"
theorem Zuf (m:Met) {Q:AV→Prop} (q:Q (.str m.word)):OB (subop H m.av (.int 0)) Q:=⟨_,by cases m <;> rfl,q⟩
noncomputable def place? (ps:List Place) (t:St):Option Place:=ps.find? fun p=>decide (p.row=t.1)
inductive Ev (P:Prog) (ps:List Place):Option St→Str→Prop
 | over:Ev P ps none (Str.ofString "over")
 | here {s:St} {p:Place}:place? ps s=some p→Ev P ps (some s) (if (p.rules.map (numOf s.2)).any Option.isNone then Str.ofString "stuck" else Str.ofString "comes")
 | step {s:St} {w:Str}:place? ps s=none→Ev P ps (nextS P s).1 w→Ev P ps (some s) w
noncomputable def Cl (P:Prog) (ps:List Place) (st:Option St):Prop:=∃ L:List St,(∃ s,st=some s∧s∈L)∧∀ t∈L,place? ps t=none∧∃ t'∈L,(nextS P t).1=some t'
theorem Ev.none_inv {P:Prog} {ps:List Place} {st:Option St} {w:Str} (h:Ev P ps st w):∀ s,st=some s→place? ps s=none→Ev P ps (nextS P s).1 w:=by
 cases h with
 | over=>intro s e; injection e
 | here hp=>intro s e hn; obtain rfl:=inj e; rw [hp] at hn; injection hn
 | step hp h=>intro s e hn; obtain rfl:=inj e; exact h
theorem Ev.unique {P:Prog} {ps:List Place} {st:Option St} {w w':Str} (h:Ev P ps st w) (h':Ev P ps st w'):w=w':=by
 induction h with
 | over=>cases h'; rfl
 | here hp =>
  cases h' with
  | here hp'=>rw [hp] at hp'; obtain rfl:=inj hp'; rfl
  | step hp' _=>rw [hp] at hp'; injection hp'
 | step hp _ ih=>exact ih (h'.none_inv _ rfl hp)
theorem Cl.next {P:Prog} {ps:List Place} {s:St} (h:Cl P ps (some s)):place? ps s=none∧Cl P ps (nextS P s).1:=by
 refine e1a2 h fun L qZ1 hL=>?_; refine e1a2 qZ1 fun s' e hs=>?_
 obtain rfl:=inj e
 refine maea (hL s hs) fun h1 t' h2 h3=>?_
 exact ⟨h1,L,⟨t',h3,h2⟩,hL⟩
theorem Ev.notCl {P:Prog} {ps:List Place} {st:Option St} {w:Str} (h:Ev P ps st w):¬ Cl P ps st:=by
 induction h with
 | over=>intro hZ; refine e1a2 hZ fun _ qZ1 _=>?_; refine e1a2 qZ1 fun s e _=>?_; injection e
 | here hp=>intro c; rw [c.next.1] at hp; injection hp
 | step hp _ ih=>intro c; exact ih c.next.2
theorem Zug {P:Prog} (hP:P.Ok) (ps:List Place) (f:Nat):∀ (l:List St) (st:Option St),2001≤f+l.length→l.Nodup→(∀ s∈l,StOk P s)→(∀ t,st=some t→StOk P t) →
  (∀ t∈l,place? ps t=none∧((∃ t'∈l,(nextS P t).1=some t')∨(nextS P t).1=st))→Ev P ps st (metGo P ps f l st).word∨((metGo P ps f l st).word=Str.ofString "missed"∧Cl P ps st):=by
 induction f with
 | zero =>
  intro l st hf hn hk _ _
  have:=Ztt hP hn hk
  omega
 | succ f ih =>
  intro l st hf hn hk ho hc
  cases st with
  | none=>exact .inl .over
  | some s =>
   have e:metGo P ps (f+1) l (some s)=match place? ps s with
    | some p=>if (p.rules.map (numOf s.2)).any Option.isNone then .stuck l.length else .comes l.length
    | none=>match posOf s l 0 with
     | some i=>.missed i (l.length - i)
     | none=>metGo P ps f (l++[s]) (nextS P s).1:=rfl
   rw [e]
   cases hp:place? ps s with
   | some p =>
    refine .inl ?_
    show Ev P ps (some s) (if (p.rules.map (numOf s.2)).any Option.isNone then Met.stuck l.length else .comes l.length).word
    have:=Ev.here (P:=P) hp
    cases hb:(p.rules.map (numOf s.2)).any Option.isNone with
    | true=>rw [hb,if_pos rfl] at this; rw [if_pos rfl]; exact this
    | false=>rw [hb,if_neg Bool.false_ne_true] at this; rw [if_neg Bool.false_ne_true]; exact this
   | none =>
    cases hq:posOf s l 0 with
    | some i =>
     have hm:=(Ztn hq).1
     refine .inr ⟨rfl,l,⟨s,rfl,hm⟩,fun t ht=>?_⟩
     refine e0a2' (hc t ht) fun h1 h2=>?_
     rcases h2 with h2|h2
     ·exact ⟨h1,h2⟩
     ·exact ⟨h1,s,hm,h2⟩
    | none =>
     have hs:=ho s rfl
     have key:=ih (l++[s]) (nextS P s).1 (by rw [List.length_append]; show 2001≤f+(l.length+1); omega) (by
      rw [List.nodup_append]
      exact ⟨hn,by simp,fun a ha b hb=>by rw [List.mem_singleton.mp hb]; rintro rfl; exact Ztm hq ha⟩) (fun x hx=>by
      rcases List.mem_append.mp hx with hx|hx
      ·exact hk x hx
      ·rw [List.mem_singleton.mp hx]; exact hs) (fun t e=>Ztd hP hs e) (fun t ht=>by
      rcases List.mem_append.mp ht with ht|ht
      ·refine e0a2' (hc t ht) fun h1 h2=>?_
       refine ⟨h1,.inl ?_⟩
       rcases h2 with ⟨t',h3,h4⟩|h2
       ·exact ⟨t',List.mem_append_left _ h3,h4⟩
       ·exact ⟨s,List.mem_append_right _ (List.mem_singleton.mpr rfl),h2⟩
      ·rw [List.mem_singleton.mp ht]; exact ⟨hp,.inr rfl⟩)
     rcases key with h|⟨hw,L,⟨s',e',hs'⟩,hL⟩
     ·exact .inl (.step hp h)
     ·refine .inr ⟨hw,s::L,⟨s,rfl,List.mem_cons_self⟩,fun t ht=>?_⟩
      rcases List.mem_cons.mp ht with rfl|ht
      ·exact ⟨hp,s',List.mem_cons_of_mem _ hs',e'⟩
      ·refine maea (hL t ht) fun h1 t' h2 h3=>?_
       exact ⟨h1,t',List.mem_cons_of_mem _ h2,h3⟩
noncomputable def wd (P:Prog) (ps:List Place) (st:Option St):Str:=(metGo P ps 2001 [] st).word
theorem wd_end {P:Prog} (hP:P.Ok) (ps:List Place) {st:Option St} (ho:∀ t,st=some t→StOk P t):Ev P ps st (wd P ps st)∨(wd P ps st=Str.ofString "missed"∧Cl P ps st) :=
 Zug hP ps 2001 [] st (by simp) List.nodup_nil (fun _ h=>nomatch h) ho (fun _ h=>nomatch h)
theorem Zuh {P:Prog} (hP:P.Ok) (ps:List Place) {s:St} (hs:StOk P s) (hp:place? ps s=none):wd P ps (some s)=wd P ps (nextS P s).1:=by
 have h1:=wd_end hP ps (st:=some s) fun t e=>by obtain rfl:=inj e; exact hs
 have h2:=wd_end hP ps (st:=(nextS P s).1) fun t e=>Ztd hP hs e
 rcases h1 with h1|⟨e1,c1⟩
 ·have h1:=h1.none_inv _ rfl hp
  rcases h2 with h2|⟨_,c2⟩
  ·exact h1.unique h2
  ·exact absurd c2 h1.notCl
 ·rcases h2 with h2|⟨e2,_⟩
  ·exact absurd c1.next.2 h2.notCl
  ·rw [e1,e2]
theorem Zui {P:Prog} {ps:List Place} {s:St} {p:Place} (hp:place? ps s=some p):wd P ps (some s)=if (p.rules.map (numOf s.2)).any Option.isNone then Str.ofString "stuck" else Str.ofString "comes":=by
 show (match place? ps s with
    | some p=>if (p.rules.map (numOf s.2)).any Option.isNone then Met.stuck 0 else .comes 0
    | none=>match posOf s [] 0 with
     | some i=>.missed i (0 - i)
     | none=>metGo P ps 2000 ([]++[s]) (nextS P s).1).word=_
 rw [hp]
 show (if (p.rules.map (numOf s.2)).any Option.isNone then Met.stuck 0 else .comes 0).word=_
 cases (p.rules.map (numOf s.2)).any Option.isNone <;> rfl
noncomputable def Zuj (kn:List (St×AV)):List St→(St→AV)→List (St×AV)
 | [],_=>kn
 | s::r,f=>Zuj (putD kn s (f s)) r f
theorem Zuk (f:St→AV) (s:St):∀ (l:List St) (kn:List (St×AV)),Zuj kn (l++[s]) f=putD (Zuj kn l f) s (f s)
 | [],_=>rfl
 | t::l,kn=>Zuk f s l (putD kn t (f t))
theorem Zul (kn:List (St×AV)) (s:St) (v:AV):(putD kn s v).length≤kn.length+1:=by
 unfold putD
 split
 ·simp
 ·simp
theorem Zum (f:St→AV):∀ (l:List St) (kn:List (St×AV)),(Zuj kn l f).length≤kn.length+l.length
 | [],_=>Nat.le_refl _
 | t::l,kn=>by
  have h1:=Zum f l (putD kn t (f t))
  have h2:=Zul kn t (f t)
  show (Zuj (putD kn t (f t)) l f).length≤kn.length+(l.length+1)
  omega
theorem Zun {j:Nat} {o:AO} (h:H[j]?=some o):H.set j o=H:=by
 refine List.ext_getElem? fun i=>?_
 by_cases e:j=i
 ·subst e; rw [List.getElem?_set_self (List.getElem?_eq_some_iff.mp h).1,h]
 ·rw [List.getElem?_set_ne e]
noncomputable def LkS (one:Prog):Option St→List St→Prop
 | _,[]=>True
 | st,s::r=>(nextS one s).1=st∧StOk one s∧LkS one (some s) r
noncomputable def wdv (one:Prog) (ps:List Place) (s:St):AV:=.str (wd one ps (some s))
noncomputable def GbI (one:Prog) (ps:List Place) (jr jk:Nat) (H:AH) (kn:List (St×AV)) (path rest:List St) (σ:Loc) (H':AH):Prop :=
 σ 0=some (.ref jr)∧σ 3=some (.ref jk)∧∃ dn st,path=dn++rest∧σ 2=some (.str (wd one ps st))∧LkS one st rest∧H'=H.set jk (.dictS (Zuj kn dn (wdv one ps)))
theorem Zuo {n:Nat} {one two:Prog} (h1:one.Ok) (h2:two.Ok) {ps:List Place} (hp:∀ p∈ps,p.Ok one two) {jr jk:Nat} {rl:List (Int×AV)} (hj:H[jr]?=some (.dict rl)) (hrt:RT ps rl) {kn:List (St×AV)} (hk:H[jk]?=some (.dictS kn)) (hkl:kn.length≤5000) {path:List St} (hpl:path.length≤5000)
  {st:Option St} (lk:LkS one st path) {Q:AV→AH→Prop} (q:Q .none (H.set jk (.dictS (Zuj kn path (wdv one ps))))):W (fns tbl (n+3) Zkp [.ref jr,.lst ((path.reverse).map fun s=>stAV s),.str (wd one ps st),.ref jk] H) Q:=by
 refine Zr0 (run_u rfl ?_)
 unfold Zpf
 have b3:=h2.b3
 have hne:jk≠jr:=by rintro rfl; rw [hj] at hk; injection hk with hk; injection hk
 refine s_for (w_rev (w_loc rfl ⟨_,_,rfl,?_⟩))
 refine ob_rev (by simp; exact Nat.le_trans (by assumption) (by decide)) (OB.of rfl ?_)
 rw [← List.map_reverse,List.reverse_reverse]
 refine Zgk (f:=fun s=>stAV s) (GbI one ps jr jk H kn path) ?_ ?_ ⟨rfl,rfl,[],st,rfl,rfl,lk,?_⟩
 ·intro s r σ H' h
  refine Zaj h fun s0 s3 dn st' e s2 qZ6 eZ7=>?_; obtain ⟨hnx,hok,lk'⟩:=qZ6; subst eZ7
  unfold Zpe
  have hlt:jk < H.length:=(List.getElem?_eq_some_iff.mp hk).1
  have hj':(H.set jk (.dictS (Zuj kn dn (wdv one ps))))[jr]?=some (.dict rl):=by rw [List.getElem?_set_ne hne]; exact hj
  have hk':(H.set jk (.dictS (Zuj kn dn (wdv one ps))))[jk]?=some (.dictS (Zuj kn dn (wdv one ps))):=List.getElem?_set_self hlt
  have hdl:dn.length≤path.length:=by rw [e]; simp
  have hlen:=Zum (wdv one ps) dn kn
  have fin:∀ w:Str,w=wd one ps (some s)→WS (sPutT (dLoc 3) (dLoc 4) (dLoc 2) (upd (upd σ 4 (stAV s)) 2 (.str w)) (H.set jk (.dictS (Zuj kn dn (wdv one ps))))) (GbI one ps jr jk H kn path r) (fun v H₁=>Q v H₁):=by
   rintro w rfl
   refine s_putT (w_loc rfl (w_loc (v:=.ref jk) s3 (w_loc (v:=stAV s) rfl (Zjf hk' (by omega) ?_))))
   refine ⟨s0,s3,dn++[s],some s,by rw [e]; simp,rfl,lk',?_⟩
   rw [List.set_set,Zuk]; rfl
  refine s_seq (s_if (t_val (w_hasI (w_sub (w_loc rfl (w_cst (OB.of (v:=.int s.1) rfl (w_loc (v:=.ref jr) s0 (Zh5 hj' (Zf0 ?_))))))))))
  rw [hrt]
  cases hf:(ps.find? fun p=>decide (p.row=s.1)) with
  | some p =>
   have hpm:p∈ps:=List.mem_of_find?_eq_some hf
   have rl':=(hp p hpm).rl
   have look:lookD rl s.1=some (.tup (p.rules.map Rule.av)):=by rw [hrt,hf]; rfl
   refine if_tt (s_asg (w_sub (w_lst (w_cons (w_cst (w_cons (w_cst (w_nil ?_))))))))
   (repeat' (first|refine Zh6 hj' look ?_|refine Zsl h1 (by omega) (hp p hpm).ok hok.2 ?_|refine tv_is _ ?_|refine w_cst ?_|refine w_loc (by first|rfl|assumption) ?_|refine Zfv ?_|refine Zfw ?_|refine w_cons ?_|refine w_nil ?_|refine w_sub ?_|refine w_cmp ?_|refine w_getI ?_|refine Zgo ?_|refine OB.of (by rfl) ?_|fail))
   refine Zty ?_
   have hw:=Zui (P:=one) (ps:=ps) (s:=s) (p:=p) hf
   cases ha:(p.rules.map (numOf s.2)).any Option.isNone with
   | true=>rw [ha,if_pos rfl] at hw; exact fin _ hw.symm
   | false=>rw [ha,if_neg (by decide)] at hw; exact fin _ hw.symm
  | none =>
   refine if_ff (s_nil ?_)
   have e2:upd σ 4 (stAV s)=upd (upd σ 4 (stAV s)) 2 (.str (wd one ps st')):=by
    funext i
    by_cases hi:i=2
    ·subst hi; exact s2
    ·exact (upd_ne _ _ hi).symm
   rw [e2]
   exact fin _ (by rw [Zuh h1 ps hok hf,hnx])
 ·intro σ H' h
  refine Zaj h fun _ _ dn st' e _ _ eZ7=>?_; subst eZ7
  rw [List.append_nil] at e
  rw [← e]; exact q
 ·exact (Zun hk).symm
noncomputable def bsL (m:Int):Nat→List (List Int)
 | 0=>[[]]
 | k+1=>(bsL m k).flatMap fun xs=>(List.range (m+1).toNat).map fun j:Nat=>xs++[(j:Int)]
theorem Zup {α β:Type} {f:α→List β} {c:Nat}:∀ {l:List α},(∀ x∈l,(f x).length≤c)→(l.flatMap f).length≤l.length * c
 | [],_=>by simp
 | x::l,h=>by
  rw [List.flatMap_cons,List.length_append,List.length_cons,Nat.succ_mul]
  have h1:=h x (List.mem_cons_self ..)
  have h2:=Zup (f:=f) (c:=c) (l:=l) fun y hy=>h y (List.mem_cons_of_mem _ hy)
  omega
theorem Zuq {m:Int} (h4:m≤4) {l:List (List Int)}:(l.flatMap fun xs=>(List.range (m+1).toNat).map fun j:Nat=>xs++[(j:Int)]).length≤l.length * 5:=Zup fun x _=>by simp; exact Int.lt_of_le_of_lt (by assumption) (by decide)
theorem bs_len {m:Int} (h4:m≤4):∀ k,(bsL m k).length≤5 ^ k
 | 0=>by simp [bsL]
 | k+1=>by
  have h1:=Zuq h4 (l:=bsL m k)
  have h2:=bs_len h4 k
  have h3:(bsL m k).length * 5≤5 ^ k * 5:=Nat.mul_le_mul_right 5 h2
  rw [Nat.pow_succ]
  exact Nat.le_trans h1 h3
theorem bs_ok {m:Int}:∀ (k:Nat) (xs:List Int),xs∈bsL m k→xs.length=k∧∀ x∈xs,0≤x∧x≤m
 | 0,xs,h=>by
  have h:xs∈[[]]:=h
  rw [List.mem_singleton.mp h]
  exact ⟨rfl,fun _ h=>nomatch h⟩
 | k+1,xs,h=>by
  obtain ⟨ys,hy,h⟩:=List.mem_flatMap.mp (show xs∈(bsL m k).flatMap _ from h)
  refine e1a2 (List.mem_map.mp h) fun j hj eZ2=>?_; subst eZ2
  have hj:=List.mem_range.mp hj
  refine e0a2' (bs_ok k ys hy) fun h1 h2=>?_
  refine ⟨by simp [h1],fun x hx=>?_⟩
  rcases List.mem_append.mp hx with hx|hx
  ·exact h2 x hx
  ·rw [List.mem_singleton.mp hx]; omega
theorem bs_all {m:Int}:∀ (k:Nat) (xs:List Int),xs.length=k→(∀ x∈xs,0≤x∧x≤m)→xs∈bsL m k
 | 0,xs,h,_=>by rw [List.length_eq_zero_iff.mp h]; exact List.mem_singleton.mpr rfl
 | k+1,xs,h,hx=>by
  have hne:xs≠[]:=by intro e; rw [e] at h; injection h
  obtain ⟨ini,x,rfl⟩:∃ ini x,xs=ini++[x]:=⟨xs.dropLast,xs.getLast hne,(List.dropLast_concat_getLast hne).symm⟩
  have hx0:=hx x (by simp)
  refine List.mem_flatMap.mpr ⟨ini,bs_all k ini (by simpa using h) (fun y hy=>hx y (List.mem_append_left _ hy)),List.mem_map.mpr ⟨x.toNat,List.mem_range.mpr (by omega),?_⟩⟩
  rw [show ((x.toNat:Nat):Int)=x by omega]
theorem Zur {m n r:Nat} {l:List AV} (hr:m≤r) (h:H[r]?=some (.list l)) (hf:∀ v∈l,flat n v=true):freeze m H (n+1) (.ref r)=some (.lst l):=by
 show (if r < m then some (AV.ref r) else match H[r]? with|some (.list l)=>(l.mapM (freeze m H n)).map .lst|_=>none)=_
 rw [if_neg (by omega),h]
 show (l.mapM (freeze m H n)).map AV.lst=_
 rw [Zgf fun v hv=>Zgg n v (hf v hv)]
 rfl
theorem Zus (xs:List Int):flat 11 (nums xs)=true:=Zgu Zsi
noncomputable def BeI (P:Prog) (H:AH) (j:Nat) (σ:Loc) (H':AH):Prop:=σ 0=some P.av∧j≤3∧∃ r X,σ 1=some (.ref r)∧H'=H++X∧H.length≤r∧H'[r]?=some (.list ((bsL P.most j).map nums))
noncomputable def BfI (P:Prog) (H X:AH) (xs:List Int) (dn:List (List Int)) (i:Nat) (σ2:Loc) (H2:AH):Prop:=σ2 0=some P.av∧σ2 3=some (.ref (H++X).length)∧σ2 4=some (nums xs)∧i≤5∧H2=(H++X)++[.list (((dn.flatMap fun xs=>(List.range (P.most+1).toNat).map fun j:Nat=>xs++[(j:Int)])++(List.range i).map fun j:Nat=>xs++[(j:Int)]).map nums)]
theorem Zut {n:Nat} {P:Prog} (hP:P.Ok) (q:Q (.lst ((bsL P.most P.boxes.toNat).map nums)) H):W (fns tbl (n+1) Zkm [P.av] H) Q:=by
 refine Zrx (run_g1 (fun σ₀ R s0 hR=>?_))
 have b0:=hP.b0
 have b3:=hP.b3
 have m1:=hP.m1
 have m4:=hP.m4
 unfold Zo1
 refine s_seq (s_asg (w_newL (w_cons (w_tup (w_nil (w_nil ?_))))))
 unfold Zo0
 refine s_seq (s_for (Zfw (w_cons (w_sub (w_loc s0 (w_cst (OB.of (v:=.int P.boxes) rfl (w_nil (Zgl (by assumption) (by exact Int.le_trans (by assumption) (by decide)) (Zgm (by assumption) (by exact Int.le_trans (by assumption) (by decide)) ?_))))))))))
 refine Zgj (BeI P H) ?_ ?_ ⟨s0,by exact Nat.zero_le _,H.length,[.list [.tup []]],rfl,rfl,Nat.le_refl _,by simp; rfl⟩
 ·intro j σ H' hj h
  refine Zaj h fun g0 hj3 r X g1 eZ5 hr hl=>?_; subst eZ5
  have bl:=bs_len m4 j
  have b5:5 ^ j≤5 ^ 3:=Nat.pow_le_pow_right (by decide) (by assumption)
  have bl:(bsL P.most j).length≤125:=Nat.le_trans bl b5
  refine s_seq (s_asg (w_newL (w_nil ?_)))
  unfold Zoz
  refine s_seq (s_forR (w_loc (v:=.ref r) g1 ⟨r,rfl,?_⟩))
  refine Zhw (f:=nums) (l:=bsL P.most j) (fun rest σ' H''=>σ' 0=some P.av∧σ' 3=some (.ref (H++X).length)∧∃ dn,bsL P.most j=dn++rest∧H''=(H++X)++[.list ((dn.flatMap fun xs=>(List.range (P.most+1).toNat).map fun j:Nat=>xs++[(j:Int)]).map nums)]) ?_ ?_ ?_ (by exact Nat.le_trans (by assumption) (by decide)) ⟨g0,rfl,[],rfl,rfl⟩
  ·intro rest σ' H'' h
   refine maaea h fun _ _ dn _ eZ4=>?_; subst eZ4
   show (match (H++X++_)[r]? with|some (.list l)=>some l|_=>none)=_
   rw [List.getElem?_append_left (List.getElem?_eq_some_iff.mp hl).1,hl]
  ·intro xs rest σ' H'' h
   refine maaea h fun g0 g3 dn e eZ4=>?_; subst eZ4
   refine ⟨_,rfl,?_⟩
   have dl:dn.length≤125:=by have:=congrArg List.length e; simp at this; omega
   have fl:=Zuq m4 (l:=dn)
   have xl:xs.length=j:=(bs_ok j xs (by rw [e]; simp)).1
   unfold Zoy
   refine s_for (Zfw (w_cons (w_bin (w_sub (w_loc g0 (w_cst (OB.of (v:=.int P.most) rfl (w_cst (ob_add (w_nil (Zgl (by omega) (by exact Int.lt_of_le_of_lt (by assumption) (by decide)) (Zgm (by omega) (by exact Int.lt_of_le_of_lt (by assumption) (by decide)) ?_))))))))))))
   refine Zgj (BfI P H X xs dn) ?_ ?_ ⟨g0,g3,rfl,by exact Nat.zero_le _,by simp⟩
   ·intro i σ2 H2 hi h
    refine e0a5 h fun g0 g3 g4 hi5 eZ4=>?_; subst eZ4
    unfold Zox
    refine s_expr (w_meth (w_loc g3 (And.intro (Zgb _ _) (w_cons (w_bin (w_loc g4 (w_tup (w_cons (w_loc rfl (w_nil (ob_cat (by simp; omega) (w_nil ?_))))))))))))
    refine ob_app (by rw [List.length_map,List.length_append,List.length_map,List.length_range]; omega) ⟨g0,g3,g4,by omega,?_⟩
    rw [List.range_succ]
    simp [nums]
   ·intro σ2 H2 h
    refine e0a5 h fun g0 g3 g4 _ eZ4=>?_; subst eZ4
    refine ⟨g0,g3,dn++[xs],by rw [e]; simp,?_⟩
    rw [List.flatMap_append]
    simp
  ·intro σ' H'' h
   refine maaea h fun g0 g3 dn e eZ4=>?_; subst eZ4
   rw [List.append_nil] at e
   refine s_asg (w_loc g3 ⟨g0,by omega,(H++X).length,X++[AO.list ((dn.flatMap fun xs=>(List.range (P.most+1).toNat).map fun j:Nat=>xs++[(j:Int)]).map nums)],rfl,List.append_assoc ..,by simp,?_⟩)
   rw [Zf8]
   show some (AO.list _)=some (AO.list (((bsL P.most j).flatMap _).map nums))
   rw [e]
 ·intro σ H' h
  refine Zaj h fun g0 _ r X g1 eZ5 hr hl=>?_; clear h; subst eZ5
  refine s_ret (w_loc g1 (hR _ _ ⟨Zf9 _ _,_,Zur hr hl ?_,q⟩))
  intro v hv
  refine e1a2 (List.mem_map.mp hv) fun xs _ eZ2=>?_; subst eZ2
  exact Zus xs
structure KnOk (one:Prog) (ps:List Place) (dn:List (List Int)) (kn:List (St×AV)):Prop where
 nd:(kn.map (·.1)).Nodup
 ok:∀ p∈kn,StOk one p.1∧p.2=wdv one ps p.1
 cl:∀ s∈kn.map (·.1),∀ t,(nextS one s).1=some t→t∈kn.map (·.1)
 re:∀ s∈kn.map (·.1),∃ xs∈dn,∃ k,(runS one k (some (0,xs))).2=some s
 be:∀ xs∈dn,(0,xs)∈kn.map (·.1)
theorem KnOk.few {one:Prog} (h1:one.Ok) {ps:List Place} {dn:List (List Int)} {kn:List (St×AV)} (h:KnOk one ps dn kn):kn.length≤2000:=by
 have:=Ztt h1 h.nd fun s hs=>by
  refine e1a2 (List.mem_map.mp hs) fun p hp eZ2=>?_; subst eZ2
  exact (h.ok p hp).1
 simpa using this
theorem Zuu {kn:List (St×AV)} {s:St} {p:St×AV} (hf:kn.find? (fun p=>decide (p.1=s))=some p):p.1=s:=by
 have:=List.find?_some hf
 simpa using this
theorem Zuv {kn:List (St×AV)} {s:St}:(lookD kn s).isSome=decide (s∈kn.map (·.1)):=by
 unfold lookD
 rw [Option.isSome_map]
 by_cases h:s∈kn.map (·.1)
 ·rw [decide_eq_true h]
  refine e1a2 (List.mem_map.mp h) fun p hp e=>?_
  rw [List.find?_isSome]
  exact ⟨p,hp,decide_eq_true e⟩
 ·rw [decide_eq_false h]
  cases hf:kn.find? fun p=>decide (p.1=s) with
  | none=>rfl
  | some p=>exact absurd (List.mem_map.mpr ⟨p,List.mem_of_find?_eq_some hf,Zuu hf⟩) h
theorem KnOk.look {one:Prog} {ps:List Place} {dn:List (List Int)} {kn:List (St×AV)} (h:KnOk one ps dn kn) {s:St} (hs:s∈kn.map (·.1)):lookD kn s=some (wdv one ps s):=by
 unfold lookD
 cases hf:kn.find? fun p=>decide (p.1=s) with
 | none =>
  refine e1a2 (List.mem_map.mp hs) fun p hp e=>?_
  have:=List.find?_eq_none.mp hf p hp
  exact absurd (decide_eq_true e) this
 | some p =>
  have e:=Zuu hf
  show some p.2=_
  rw [(h.ok p (List.mem_of_find?_eq_some hf)).2,e]
theorem Zuw (f:St→AV):∀ (l:List St) (kn:List (St×AV)),l.Nodup→(∀ s∈l,s∉kn.map (·.1))→Zuj kn l f=kn++l.map fun s=>(s,f s)
 | [],kn,_,_=>by simp [Zuj]
 | s::l,kn,hn,hd=>by
  have hs:=hd s List.mem_cons_self
  have e:putD kn s (f s)=kn++[(s,f s)]:=by
   unfold putD
   rw [if_neg]
   rw [List.any_eq_true]
   intro hZ; refine e1a2 hZ fun p hp e=>?_
   exact hs (List.mem_map.mpr ⟨p,hp,of_decide_eq_true e⟩)
  rw [List.nodup_cons] at hn
  show Zuj (putD kn s (f s)) l f=_
  rw [e,Zuw f l _ hn.2 (fun t ht hm=>by
   rw [List.map_append] at hm
   rcases List.mem_append.mp hm with hm|hm
   ·exact hd t (List.mem_cons_of_mem _ ht) hm
   ·have:t=s:=by simpa using hm
    exact hn.1 (this ▸ ht))]
  simp
theorem LkS.mem {one:Prog}:∀ {l:List St} {st:Option St},LkS one st l→∀ s∈l,StOk one s∧((nextS one s).1=st∨∃ t∈l,(nextS one s).1=some t)
 | [],_,_,s,hs=>by cases hs
 | x::l,st,⟨h1,h2,h3⟩,s,hs=>by
  rcases List.mem_cons.mp hs with rfl|hs
  ·exact ⟨h2,.inl h1⟩
  ·refine e0a2' (LkS.mem h3 s hs) fun a b=>?_
   refine ⟨a,.inr ?_⟩
   rcases b with b|⟨t,ht,b⟩
   ·exact ⟨x,List.mem_cons_self,b⟩
   ·exact ⟨t,List.mem_cons_of_mem _ ht,b⟩
theorem KnOk.add {one:Prog} {ps:List Place} {dn:List (List Int)} {kn:List (St×AV)} (h:KnOk one ps dn kn) {xs:List Int} {l:List St} {st:Option St} (lk:LkS one st l.reverse) (hn:l.Nodup) (hd:∀ s∈l,s∉kn.map (·.1)) (hst:∀ t,st=some t→t∈kn.map (·.1)∨t∈l)
  (hr:∀ s∈l,∃ k,(runS one k (some (0,xs))).2=some s) (hb:(0,xs)∈l∨(0,xs)∈kn.map (·.1)):KnOk one ps (dn++[xs]) (Zuj kn l.reverse (wdv one ps)):=by
 have hn':l.reverse.Nodup:=List.pairwise_reverse.mpr (hn.imp fun h q=>h q.symm)
 have e:=Zuw (wdv one ps) l.reverse kn hn' fun s hs=>hd s (List.mem_reverse.mp hs)
 have ek:(Zuj kn l.reverse (wdv one ps)).map (·.1)=kn.map (·.1)++l.reverse:=by
  rw [e,List.map_append,List.map_map]
  congr 1
  exact List.map_id'' (fun _=>rfl) _
 refine ⟨?_,?_,?_,?_,?_⟩
 ·rw [ek,List.nodup_append]
  exact ⟨h.nd,hn',fun a ha b hb' q=>hd b (List.mem_reverse.mp hb') (q ▸ ha)⟩
 ·intro p hp
  rw [e] at hp
  rcases List.mem_append.mp hp with hp|hp
  ·exact h.ok p hp
  ·refine e1a2 (List.mem_map.mp hp) fun s hs eZ2=>?_; subst eZ2
   exact ⟨(lk.mem s hs).1,rfl⟩
 ·rw [ek]
  intro s hs t ht
  rcases List.mem_append.mp hs with hs|hs
  ·exact List.mem_append_left _ (h.cl s hs t ht)
  ·rcases (lk.mem s hs).2 with q|⟨t',ht',q⟩
   ·rcases hst t (q ▸ ht) with q|q
    ·exact List.mem_append_left _ q
    ·exact List.mem_append_right _ (List.mem_reverse.mpr q)
   ·rw [q] at ht
    obtain rfl:=inj ht
    exact List.mem_append_right _ ht'
 ·rw [ek]
  intro s hs
  rcases List.mem_append.mp hs with hs|hs
  ·refine meae (h.re s hs) fun ys hy k q=>?_
   exact ⟨ys,List.mem_append_left _ hy,k,q⟩
  ·refine Exists.elim (hr s (List.mem_reverse.mp hs)) fun k q=>?_
   exact ⟨xs,List.mem_append_right _ (List.mem_singleton.mpr rfl),k,q⟩
 ·rw [ek]
  intro ys hy
  rcases List.mem_append.mp hy with hy|hy
  ·exact List.mem_append_left _ (h.be ys hy)
  ·rw [List.mem_singleton.mp hy]
   rcases hb with hb|hb
   ·exact List.mem_append_right _ (List.mem_reverse.mpr hb)
   ·exact List.mem_append_left _ hb
theorem KnOk.run {one:Prog} {ps:List Place} {dn:List (List Int)} {kn:List (St×AV)} (h:KnOk one ps dn kn):∀ (k:Nat) (s t:St),s∈kn.map (·.1)→(runS one k (some s)).2=some t→t∈kn.map (·.1)
 | 0,s,t,hs,e=>by obtain rfl:=inj e; exact hs
 | k+1,s,t,hs,e=>by
  have e:(runS one k (nextS one s).1).2=some t:=e
  cases hn:(nextS one s).1 with
  | none=>rw [hn,runS_none] at e; injection e
  | some s'=>rw [hn] at e; exact h.run k s' t (h.cl s hs s' hn) e
theorem Zux:∀ (l:List St) (i:Nat),(dvF l i).map (fun p=>stAV p.1)=l.map fun s=>stAV s
 | [],_=>rfl
 | s::l,i=>by
  show stAV s::(dvF l (i+1)).map (fun p=>stAV p.1)=stAV s::l.map fun s=>stAV s
  rw [Zux l (i+1)]
theorem dv_has (l:List St) (t:St):(lookD (dvF l 0) t).isSome=decide (t∈l):=by
 rw [Ztl,Option.isSome_map]
 cases h:posOf t l 0 with
 | none=>rw [decide_eq_false (Ztm h)]; rfl
 | some i=>rw [decide_eq_true (Ztn h).1]; rfl
theorem Zuy {H X:AH} {a b:AO}:((H++[a])++X).set H.length b=(H++[b])++X:=by
 rw [List.append_assoc,List.set_append_right _ _ (Nat.le_refl _),Nat.sub_self,List.append_assoc]; rfl
noncomputable def IsI (one:Prog) (ps:List Place) (jr:Nat) (H:AH) (rest:List (List Int)) (σ:Loc) (H':AH):Prop :=
 σ 0=some one.av∧σ 1=some (.ref jr)∧σ 2=some (.ref H.length)∧∃ dn kn X,bsL one.most one.boxes.toNat=dn++rest∧KnOk one ps dn kn∧H'=(H++[.dictS kn])++X
theorem Zuz {n:Nat} {one two:Prog} (h1:one.Ok) (h2:two.Ok) {ps:List Place} (hp:∀ p∈ps,p.Ok one two) {jr:Nat} {rl:List (Int×AV)} (hj:H[jr]?=some (.dict rl)) (hrt:RT ps rl) {dn rest:List (List Int)} {xs:List Int} (hbs:bsL one.most one.boxes.toNat=dn++xs::rest) {kn:List (St×AV)} (hkn:KnOk one ps dn kn) {X:AH}
  {l:List St} {st:Option St} (hn:l.Nodup) (lk:LkS one st l.reverse) (hd:∀ s∈l,s∉kn.map (·.1)) (hst:∀ t,st=some t→t∈kn.map (·.1)∨t∈l) (hr:∀ s∈l,∃ k,(runS one k (some (0,xs))).2=some s) (hb:(0,xs)∈l∨(0,xs)∈kn.map (·.1))
  {σ:Loc} (g0:σ 0=some one.av) (g1:σ 1=some (.ref jr)) (g2:σ 2=some (.ref H.length)) (g5:σ 5=some (.ref ((H++[AO.dictS kn])++X).length)) (g6:σ 6=some (.str (wd one ps st))) {R:AV→AH→Prop} :
  WS (Zpi (fns tbl (n+3)) σ (((H++[.dictS kn])++X)++[.dictS (dvF l 0)])) (IsI one ps jr H rest) R:=by
 unfold Zpi
 have few:=Ztt h1 hn fun s hs=>(lk.mem s (List.mem_reverse.mpr hs)).1
 have kfew:=hkn.few h1
 have hjl:=(List.getElem?_eq_some_iff.mp hj).1
 have hk:(((H++[.dictS kn])++X)++[AO.dictS (dvF l 0)])[H.length]?=some (.dictS kn):=by simp
 have hh:(((H++[.dictS kn])++X)++[AO.dictS (dvF l 0)])[((H++[AO.dictS kn])++X).length]?=some (.dictS (dvF l 0)):=by simp
 have hj':(((H++[.dictS kn])++X)++[AO.dictS (dvF l 0)])[jr]?=some (.dict rl):=by
  rw [List.append_assoc,List.append_assoc,List.getElem?_append_left hjl]; exact hj
 have ek:(dvF l 0).map (fun p=>stAV p.1)=(l.reverse.reverse).map fun s=>stAV s:=by rw [List.reverse_reverse,Zux]
 refine s_expr (Zfv (w_cons (w_loc g1 (w_cons (Zjc (w_loc g5 (Zjj hh (by rw [dv_len]; exact Nat.le_trans (by assumption) (by decide)) ?_)))))))
 rw [ek]
 refine w_cons (w_loc g6 (w_cons (w_loc g2 (w_nil (Zuo h1 h2 hp hj' hrt hk (by exact Nat.le_trans (by assumption) (by decide)) (by rw [List.length_reverse]; exact Nat.le_trans (by assumption) (by decide)) lk ?_)))))
 refine ⟨g0,g1,g2,dn++[xs],_,X++[.dictS (dvF l 0)],by rw [hbs]; simp,hkn.add lk hn hd hst hr hb,?_⟩
 rw [List.append_assoc (H++[AO.dictS kn]),Zuy]
theorem Zu0 {n:Nat} {one two:Prog} (h1:one.Ok) (h2:two.Ok) {ps:List Place} (hp:∀ p∈ps,p.Ok one two) {jr:Nat} {rl:List (Int×AV)} (hj:H[jr]?=some (.dict rl)) (hrt:RT ps rl) {dn rest:List (List Int)} {xs:List Int} (hbs:bsL one.most one.boxes.toNat=dn++xs::rest) {kn:List (St×AV)} (hkn:KnOk one ps dn kn) {X:AH}
  {l:List St} {st:Option St} (hso:∀ t,st=some t→StOk one t) (hn:l.Nodup) (lk:LkS one st l.reverse) (hd:∀ s∈l,s∉kn.map (·.1)) (hst:∀ t,st=some t→t∈kn.map (·.1)∨t∈l) (hr:∀ s∈l,∃ k,(runS one k (some (0,xs))).2=some s) (hb:(0,xs)∈l∨(0,xs)∈kn.map (·.1))
  {σ:Loc} (g0:σ 0=some one.av) (g1:σ 1=some (.ref jr)) (g2:σ 2=some (.ref H.length)) (g4:σ 4=some (sv st)) (g5:σ 5=some (.ref ((H++[AO.dictS kn])++X).length)) {R:AV→AH→Prop} :
  WS (Zpl (fns tbl (n+3)) σ (((H++[.dictS kn])++X)++[.dictS (dvF l 0)])) (IsI one ps jr H rest) R:=by
 unfold Zpl
 have hjl:=(List.getElem?_eq_some_iff.mp hj).1
 have hk:(((H++[.dictS kn])++X)++[AO.dictS (dvF l 0)])[H.length]?=some (.dictS kn):=by simp
 have hh:(((H++[.dictS kn])++X)++[AO.dictS (dvF l 0)])[((H++[AO.dictS kn])++X).length]?=some (.dictS (dvF l 0)):=by simp
 have hj':(((H++[.dictS kn])++X)++[AO.dictS (dvF l 0)])[jr]?=some (.dict rl):=by
  rw [List.append_assoc,List.append_assoc,List.getElem?_append_left hjl]; exact hj
 have fin:∀ σ':Loc,(∀ i,i≠6→σ' i=σ i)→σ' 6=some (.str (wd one ps st))→WS (Zpi (fns tbl (n+3)) σ' (((H++[.dictS kn])++X)++[.dictS (dvF l 0)])) (IsI one ps jr H rest) R:=fun σ' hs' h6 =>
  Zuz h1 h2 hp hj hrt hbs hkn hn lk hd hst hr hb ((hs' 0 (by decide)).trans g0) ((hs' 1 (by decide)).trans g1) ((hs' 2 (by decide)).trans g2) ((hs' 5 (by decide)).trans g5) h6
 refine s_seq (s_asg (w_cst ?_))
 unfold Zpk
 cases st with
 | none =>
  refine s_seq (s_if (t_val (w_hasN (w_loc (v:=.none) g4 (w_loc (v:=.ref H.length) g2 (Zji hk (Zf0 (if_ff (s_nil ?_)))))))))
  unfold Zpj
  refine s_seq (s_if (t_val (w_hasN (w_loc (v:=.none) g4 (w_loc g5 (Zji hh (Zf0 (if_ff (s_nil ?_)))))))))
  exact fin _ (fun i hi=>upd_ne _ _ hi) rfl
 | some t =>
  have ht:=hso t rfl
  have third:∀ σ':Loc,(∀ i,i≠6→σ' i=σ i)→(t∉l→σ' 6=some (.str (wd one ps (some t))))→WS (Zpj (fns tbl (n+3)) σ' (((H++[.dictS kn])++X)++[.dictS (dvF l 0)])) (IsI one ps jr H rest) R:=by
   intro σ' hs' h6
   unfold Zpj
   refine s_seq (s_if (t_val (w_hasN (w_loc (v:=stAV t) ((hs' 4 (by decide)).trans g4) (w_loc ((hs' 5 (by decide)).trans g5) (Zjh hh (Zf0 ?_)))))))
   rw [dv_has]
   by_cases hm:t∈l
   ·rw [decide_eq_true hm]
    refine if_tt (s_asg (w_sub (Zfv (w_cons (w_loc ((hs' 0 (by decide)).trans g0) (w_cons (w_loc ((hs' 1 (by decide)).trans g1) (w_cons (w_loc ((hs' 4 (by decide)).trans g4) (w_nil (lmet_w h1 h2 hp ht hj' hrt (w_cst (Zuf _ ?_)))))))))))))
    exact fin _ (fun i hi=>(upd_ne _ _ hi).trans (hs' i hi)) rfl
   ·rw [decide_eq_false hm]
    exact if_ff (s_nil (fin _ hs' (h6 hm)))
  refine s_seq (s_if (t_val (w_hasN (w_loc (v:=stAV t) g4 (w_loc (v:=.ref H.length) g2 (Zjh hk (Zf0 ?_)))))))
  rw [Zuv]
  by_cases hm:t∈kn.map (·.1)
  ·rw [decide_eq_true hm]
   refine if_tt (s_asg (w_getT (w_loc (v:=.ref H.length) g2 (w_loc (v:=stAV t) g4 (Zje hk (hkn.look hm) ?_)))))
   exact third _ (fun i hi=>(upd_ne _ _ hi).trans (upd_ne _ _ hi)) fun _=>rfl
  ·rw [decide_eq_false hm]
   exact if_ff (s_nil (third _ (fun i hi=>upd_ne _ _ hi) fun h=>absurd ((hst t rfl).resolve_left hm) h))
noncomputable def WhI (one:Prog) (jr j2:Nat) (H1:AH) (kn:List (St×AV)) (xs:List Int) (k:Nat) (σ:Loc) (H':AH):Prop :=
 ∃ (l:List St) (st:Option St),σ 0=some one.av∧σ 1=some (.ref jr)∧σ 2=some (.ref j2)∧σ 4=some (sv st)∧σ 5=some (.ref H1.length)∧H'=H1++[.dictS (dvF l 0)]∧(∀ t,st=some t→StOk one t)∧l.Nodup∧LkS one st l.reverse∧(∀ s∈l,s∉kn.map (·.1)) ∧
  (runS one l.length (some (0,xs))).2=st∧(∀ i s,l[i]?=some s→(runS one i (some (0,xs))).2=some s)∧k+l.length=2001
theorem run_next {one:Prog} {s t:St}:∀ {k:Nat},(runS one k (some s)).2=some t→(runS one (k+1) (some s)).2=(nextS one t).1:=by
 intro k
 induction k generalizing s with
 | zero =>
  intro e
  obtain rfl:=inj e
  rfl
 | succ k ih =>
  intro e
  have e:(runS one k (nextS one s).1).2=some t:=e
  show (runS one (k+1) (nextS one s).1).2=_
  cases hn:(nextS one s).1 with
  | none=>rw [hn,runS_none] at e; injection e
  | some s'=>rw [hn] at e; exact ih e
theorem Zu1 {one:Prog} {ps:List Place} {dn:List (List Int)}:∀ {kn:List (St×AV)},(∀ p∈kn,StOk one p.1∧p.2=wdv one ps p.1)→(kn.mapM fun p=>strOf? p.2)=some (kn.map fun p=>wd one ps (some p.1))
 | [],_=>rfl
 | p::kn,h=>by
  rw [List.mapM_cons,Zu1 (dn:=dn) fun q hq=>h q (List.mem_cons_of_mem _ hq),(h p List.mem_cons_self).2]
  rfl
theorem Zu2 {P:Prog} {ps:List Place} {s:St}:(metGo P ps 2001 [] (some s)).bad=(decide (wd P ps (some s)=Str.ofString "stuck") || decide (wd P ps (some s)=Str.ofString "missed")):=by
 unfold wd
 cases metGo P ps 2001 [] (some s) with
 | over n=>show false=(decide (Str.ofString "over"=Str.ofString "stuck") || decide (Str.ofString "over"=Str.ofString "missed")); decide +kernel
 | stuck n=>show true=(decide (Str.ofString "stuck"=Str.ofString "stuck") || decide (Str.ofString "stuck"=Str.ofString "missed")); decide +kernel
 | comes n=>show false=(decide (Str.ofString "comes"=Str.ofString "stuck") || decide (Str.ofString "comes"=Str.ofString "missed")); decide +kernel
 | missed a b=>show true=(decide (Str.ofString "missed"=Str.ofString "stuck") || decide (Str.ofString "missed"=Str.ofString "missed")); decide +kernel
theorem Zu3 {n:Nat} {one two:Prog} (h1:one.Ok) (h2:two.Ok) {ps:List Place} (hp:∀ p∈ps,p.Ok one two) {jr:Nat} {rl:List (Int×AV)} (hj:H[jr]?=some (.dict rl)) (hrt:RT ps rl)
  (q:∀ b:Bool,(b=true ↔ ∀ xs,NumsOk one xs→∀ k t,(runS one k (some (0,xs))).2=some t→(metGo one ps 2001 [] (some t)).bad=false)→Q (.bool b) H):W (fns tbl (n+4) Zkq [one.av,.ref jr] H) Q:=by
 refine Zr1 (run_g2 (fun σ₀ R s0 s1 hR=>?_))
 have b0:=h1.b0
 unfold Zpq
 refine s_seq (s_asg (w_newS ?_))
 unfold Zpp
 refine s_seq (s_for (Zfv (w_cons (w_loc (v:=one.av) s0 (w_nil (Zut h1 (OB.of rfl ?_)))))))
 refine Zgk (IsI one ps jr H) ?_ ?_ ⟨s0,s1,rfl,[],[],[],rfl,⟨List.nodup_nil,fun _ h=>(nomatch h),fun _ h=>(nomatch h),fun _ h=>(nomatch h),fun _ h=>(nomatch h)⟩,by simp⟩
 ·intro xs rest σ H' h
  refine Zao h fun g0 g1 g2 dn kn X hbs hkn eZ8=>?_; subst eZ8
  have hx:NumsOk one xs:=by
   have:=bs_ok _ xs (show xs∈bsL one.most one.boxes.toNat by rw [hbs]; simp)
   exact ⟨by have:=this.1; omega,this.2⟩
  have ok0:StOk one (0,xs):=⟨⟨Int.le_refl _,by have:=h1.r1; show (0:Int) < (one.rows.length:Int); omega⟩,hx⟩
  unfold Zpn
  refine s_seq (s_asg (w_tup (w_cons (w_cst (w_cons (w_loc (v:=nums xs) rfl (w_nil ?_)))))))
  refine s_seq (s_asg (w_newS ?_))
  unfold Zpm
  refine s_seq (Zh1 (WhI one jr H.length ((H++[.dictS kn])++X) kn xs) 2001 (by decide) ⟨[],some (0,xs),g0,g1,g2,rfl,rfl,rfl,fun t e=>(Option.some.inj e) ▸ ok0,List.nodup_nil,trivial,fun _ h=>(nomatch h),rfl,fun i s h=>by simp at h,rfl⟩ ?_)
  clear g0 g1 g2
  intro k σ' H' h
  refine e2a13 h fun l st g0 g1 g2 g4 g5 eZ7 hso hn lk hd hrun hidx hk=>?_; subst eZ7
  have few:=Ztt h1 hn fun s hs=>(lk.mem s (List.mem_reverse.mpr hs)).1
  refine Exists.elim (Zas hk few) fun j eZ1=>?_; subst eZ1
  have hkd:(((H++[.dictS kn])++X)++[AO.dictS (dvF l 0)])[H.length]?=some (.dictS kn):=by simp
  have hh:(((H++[.dictS kn])++X)++[AO.dictS (dvF l 0)])[((H++[AO.dictS kn])++X).length]?=some (.dictS (dvF l 0)):=by simp
  have tail:(∀ t,st=some t→t∈kn.map (·.1)∨t∈l)→WS (Zpl (fns tbl (n+3)) σ' (((H++[.dictS kn])++X)++[.dictS (dvF l 0)])) (IsI one ps jr H rest) R:=fun hst=>by
   refine Zu0 h1 h2 hp hj hrt hbs hkn hso hn lk hd hst (fun s hs=>?_) ?_ g0 g1 g2 g4 g5
   ·refine Exists.elim (List.getElem?_of_mem hs) fun i hi=>?_
    exact ⟨i,hidx i s hi⟩
   ·cases l with
    | nil=>exact (hst (0,xs) hrun.symm).symm
    | cons s l =>
     have:=hidx 0 s rfl
     obtain rfl:=inj this
     exact .inl List.mem_cons_self
  refine t_and (t_cmp (w_loc g4 (w_cst (Ztv st ?_))))
  cases st with
  | none =>
   refine if_ff ⟨fun h=>(nomatch h),fun _=>?_⟩
   exact tail fun t e=>(nomatch e)
  | some t =>
   have ht:=hso t rfl
   refine if_tt (t_and (t_val (w_notT (w_loc (v:=stAV t) g4 (w_loc g2 (Zjd hkd ⟨_,rfl,Zf0 ?_⟩))))))
   rw [Zuv]
   by_cases hm:t∈kn.map (·.1)
   ·rw [decide_eq_true hm]
    refine if_ff ⟨fun h=>(nomatch h),fun _=>?_⟩
    exact tail fun t' e=>.inl ((Option.some.inj e) ▸ hm)
   ·rw [decide_eq_false hm]
    refine if_tt (t_val (w_notT (w_loc (v:=stAV t) g4 (w_loc g5 (Zjd hh ⟨_,rfl,Zf0 ?_⟩)))))
    rw [dv_has]
    by_cases hl:t∈l
    ·rw [decide_eq_true hl]
     exact ⟨fun h=>(nomatch h),fun _=>tail fun t' e=>.inr ((Option.some.inj e) ▸ hl)⟩
    ·rw [decide_eq_false hl]
     refine ⟨fun _=>⟨j,rfl,?_⟩,fun h=>(nomatch h)⟩
     have hpos:posOf t l 0=none:=by
      cases h:posOf t l 0 with
      | none=>rfl
      | some i=>exact absurd (Ztn h).1 hl
     refine s_seq (s_putT (w_lenT (w_loc g5 (Zjg hh (by rw [dv_len]; exact Nat.le_trans (by assumption) (by decide)) (w_loc g5 (w_loc (v:=stAV t) g4 (Zjf hh (by rw [dv_len]; exact Nat.le_trans (by assumption) (by decide)) ?_)))))))
     unfold Zph
     refine s_asg (w_sub (Zfv (w_cons (w_loc g0 (w_cons (w_loc g4 (w_nil (Ztf h1 ht (w_cst (OB.of rfl ?_))))))))))
     refine ⟨l++[t],(nextS one t).1,g0,g1,g2,rfl,g5,?_,fun t' h'=>Ztd h1 ht h',?_,?_,?_,?_,?_,by simp; omega⟩
     ·rw [List.set_append_right _ _ (Nat.le_refl _),Nat.sub_self,dv_len]
      show _++[AO.dictS (putD (dvF l 0) t (.int l.length))]=_
      rw [put_dv hpos]
     ·rw [List.nodup_append]
      exact ⟨hn,by simp,fun a ha b hb=>by rw [List.mem_singleton.mp hb]; rintro rfl; exact hl ha⟩
     ·rw [List.reverse_append]
      exact ⟨rfl,ht,lk⟩
     ·intro s hs
      rcases List.mem_append.mp hs with hs|hs
      ·exact hd s hs
      ·rw [List.mem_singleton.mp hs]; exact hm
     ·rw [List.length_append]
      exact run_next hrun
     ·intro i s hi
      by_cases hil:i < l.length
      ·rw [List.getElem?_append_left hil] at hi; exact hidx i s hi
      ·have hlen:=(List.getElem?_eq_some_iff.mp hi).1
       have e:i=l.length:=by rw [List.length_append] at hlen; simp at hlen; omega
       subst e
       have e2:s=t:=by simpa using hi.symm
       rw [e2]; exact hrun
 ·intro σ H' h
  refine Zao h fun g0 g1 g2 dn kn X hbs hkn eZ8=>?_; subst eZ8
  rw [List.append_nil] at hbs
  unfold Zpo
  have hkd:((H++[AO.dictS kn])++X)[H.length]?=some (.dictS kn):=by simp
  have hs:=Zu1 (dn:=dn) hkn.ok
  have key:∀ b:Bool,(b=true ↔ ∀ p∈kn,(metGo one ps 2001 [] (some p.1)).bad=false)→R (.bool b) ((H++[AO.dictS kn])++X):=by
   intro b hb
   rw [List.append_assoc]
   refine hR _ _ (Zgw rfl (q b (hb.trans ⟨fun h xs hx k t e=>?_,fun h p hpk=>?_⟩)))
   ·have hm:xs∈dn:=hbs ▸ bs_all _ xs (by have:=hx.1; omega) hx.2
    refine e1a2 (List.mem_map.mp (hkn.run k (0,xs) t (hkn.be xs hm) e)) fun p hp' e'=>?_
    rw [← e']; exact h p hp'
   ·refine meae (hkn.re p.1 (List.mem_map.mpr ⟨p,hpk,rfl⟩)) fun xs hxs k e=>?_
    have hbo:=bs_ok _ xs (hbs ▸ hxs)
    exact h xs ⟨by have:=hbo.1; omega,hbo.2⟩ k p.1 e
  have any_is:∀ w:Str,((kn.map fun p=>wd one ps (some p.1)).any fun b=>decide (b=w))=kn.any fun p=>decide (wd one ps (some p.1)=w):=fun w=>by rw [List.any_map]; rfl
  refine s_ret (w_and (w_notV (w_cst (w_loc (v:=.ref H.length) g2 (Zjk hkd hs (Zf0 ?_))))))
  rw [any_is]
  cases ha:kn.any fun p=>decide (wd one ps (some p.1)=Str.ofString "stuck") with
  | true =>
   refine if_ff (key false ⟨fun h=>(nomatch h),fun h=>?_⟩)
   refine e1a2 (List.any_eq_true.mp ha) fun p hp' e=>?_
   have:=h p hp'
   rw [Zu2,e,Bool.true_or] at this
   injection this
  | false =>
   refine if_tt (w_notV (w_cst (w_loc (v:=.ref H.length) g2 (Zjk hkd hs ?_))))
   rw [any_is]
   cases hb:kn.any fun p=>decide (wd one ps (some p.1)=Str.ofString "missed") with
   | true =>
    refine key false ⟨fun h=>(nomatch h),fun h=>?_⟩
    refine e1a2 (List.any_eq_true.mp hb) fun p hp' e=>?_
    have:=h p hp'
    rw [Zu2,e,Bool.or_true] at this
    injection this
   | false =>
    refine key true ⟨fun _ p hp'=>?_,fun _=>rfl⟩
    rw [Zu2]
    have h3:=List.any_eq_false.mp ha p hp'
    have h4:=List.any_eq_false.mp hb p hp'
    rw [Bool.eq_false_iff.mpr h3,Bool.eq_false_iff.mpr h4]; rfl
theorem Zu4 {n:Nat} {P:Prog} (hP:P.Ok) (q:∀ r X,H.length≤r→(H++X)[r]?=some (.list ((bsL P.most P.boxes.toNat).map nums))→Q (.ref r) (H++X)):W (fns tbl (n+1) Zj9 [P.av] H) Q:=by
 refine Zrk (run_u rfl ?_)
 have s0:args0 [P.av] 0 0=some P.av:=rfl
 have b0:=hP.b0
 have b3:=hP.b3
 have m1:=hP.m1
 have m4:=hP.m4
 unfold Zmr
 refine s_seq (s_asg (w_newL (w_cons (w_tup (w_nil (w_nil ?_))))))
 unfold Zmq
 refine s_seq (s_for (Zfw (w_cons (w_sub (w_loc s0 (w_cst (OB.of (v:=.int P.boxes) rfl (w_nil (Zgl (by assumption) (by exact Int.le_trans (by assumption) (by decide)) (Zgm (by assumption) (by exact Int.le_trans (by assumption) (by decide)) ?_))))))))))
 refine Zgj (BeI P H) ?_ ?_ ⟨s0,by exact Nat.zero_le _,H.length,[.list [.tup []]],rfl,rfl,Nat.le_refl _,by simp; rfl⟩
 ·intro j σ H' hj h
  refine Zaj h fun g0 hj3 r X g1 eZ5 hr hl=>?_; subst eZ5
  have bl:=bs_len m4 j
  have b5:5 ^ j≤5 ^ 3:=Nat.pow_le_pow_right (by decide) (by assumption)
  have bl:(bsL P.most j).length≤125:=Nat.le_trans bl b5
  refine s_seq (s_asg (w_newL (w_nil ?_)))
  unfold Zmp
  refine s_seq (s_forR (w_loc (v:=.ref r) g1 ⟨r,rfl,?_⟩))
  refine Zhw (f:=nums) (l:=bsL P.most j) (fun rest σ' H''=>σ' 0=some P.av∧σ' 3=some (.ref (H++X).length)∧∃ dn,bsL P.most j=dn++rest∧H''=(H++X)++[.list ((dn.flatMap fun xs=>(List.range (P.most+1).toNat).map fun j:Nat=>xs++[(j:Int)]).map nums)]) ?_ ?_ ?_ (by exact Nat.le_trans (by assumption) (by decide)) ⟨g0,rfl,[],rfl,rfl⟩
  ·intro rest σ' H'' h
   refine maaea h fun _ _ dn _ eZ4=>?_; subst eZ4
   show (match (H++X++_)[r]? with|some (.list l)=>some l|_=>none)=_
   rw [List.getElem?_append_left (List.getElem?_eq_some_iff.mp hl).1,hl]
  ·intro xs rest σ' H'' h
   refine maaea h fun g0 g3 dn e eZ4=>?_; subst eZ4
   refine ⟨_,rfl,?_⟩
   have dl:dn.length≤125:=by have:=congrArg List.length e; simp at this; omega
   have fl:=Zuq m4 (l:=dn)
   have xl:xs.length=j:=(bs_ok j xs (by rw [e]; simp)).1
   unfold Zmo
   refine s_for (Zfw (w_cons (w_bin (w_sub (w_loc g0 (w_cst (OB.of (v:=.int P.most) rfl (w_cst (ob_add (w_nil (Zgl (by omega) (by exact Int.lt_of_le_of_lt (by assumption) (by decide)) (Zgm (by omega) (by exact Int.lt_of_le_of_lt (by assumption) (by decide)) ?_))))))))))))
   refine Zgj (BfI P H X xs dn) ?_ ?_ ⟨g0,g3,rfl,by exact Nat.zero_le _,by simp⟩
   ·intro i σ2 H2 hi h
    refine e0a5 h fun g0 g3 g4 hi5 eZ4=>?_; subst eZ4
    unfold Zmn
    refine s_expr (w_meth (w_loc g3 (And.intro (Zgb _ _) (w_cons (w_bin (w_loc g4 (w_tup (w_cons (w_loc rfl (w_nil (ob_cat (by simp; omega) (w_nil ?_))))))))))))
    refine ob_app (by rw [List.length_map,List.length_append,List.length_map,List.length_range]; omega) ⟨g0,g3,g4,by omega,?_⟩
    rw [List.range_succ]
    simp [nums]
   ·intro σ2 H2 h
    refine e0a5 h fun g0 g3 g4 _ eZ4=>?_; subst eZ4
    refine ⟨g0,g3,dn++[xs],by rw [e]; simp,?_⟩
    rw [List.flatMap_append]
    simp
  ·intro σ' H'' h
   refine maaea h fun g0 g3 dn e eZ4=>?_; subst eZ4
   rw [List.append_nil] at e
   refine s_asg (w_loc g3 ⟨g0,by omega,(H++X).length,X++[AO.list ((dn.flatMap fun xs=>(List.range (P.most+1).toNat).map fun j:Nat=>xs++[(j:Int)]).map nums)],rfl,List.append_assoc ..,by simp,?_⟩)
   rw [Zf8]
   show some (AO.list _)=some (AO.list (((bsL P.most j).flatMap _).map nums))
   rw [e]
 ·intro σ H' h
  refine Zaj h fun g0 _ r X g1 eZ5 hr hl=>?_; clear h; subst eZ5
  exact s_ret (w_loc g1 (q r X hr hl))
noncomputable def lookGo (P:Prog) (ps:List Place):Nat→List St→Option St→Option (Met×Nat)
 | 0,_,_=>none
 | _+1,_,none=>none
 | f+1,l,some s=>if s∈l then none else if (metGo P ps 2001 [] (some s)).bad then some (metGo P ps 2001 [] (some s),l.length) else lookGo P ps f (l++[s]) (nextS P s).1
noncomputable def seenL (l:List St):List (St×AV):=l.map fun s=>(s,.bool true)
theorem Zu5 (l:List St) (t:St):(lookD (seenL l) t).isSome=decide (t∈l):=by
 induction l with
 | nil=>rfl
 | cons s l ih =>
  by_cases e:s=t
  ·simp [lookD,seenL,e]
  ·have h1:lookD (seenL (s::l)) t=lookD (seenL l) t:=by simp [lookD,seenL,List.find?_cons,e]
   rw [h1,ih]
   have:(t∈s::l) ↔ t∈l:=by
    rw [List.mem_cons]
    exact ⟨fun h=>h.resolve_left fun q=>e q.symm,.inr⟩
   exact (decide_eq_decide.mpr this).symm
theorem Zu6 {l:List St} {t:St} (h:t∉l):putD (seenL l) t (.bool true)=seenL (l++[t]):=by
 have:(seenL l).any (fun p=>decide (p.1=t))=false:=by
  rw [List.any_eq_false]
  intro x hx hk
  refine e1a2 (List.mem_map.mp hx) fun s hs eZ2=>?_; subst eZ2
  exact h (of_decide_eq_true hk ▸ hs)
 unfold putD
 rw [this]
 simp [seenL]
noncomputable def lookV (xs:List Int):Option (Met×Nat)→AV
 | none=>.none
 | some (m,k)=>.tup [.str m.word,nums xs,.int k]
theorem Zu7 (xs:List Int) (r:Option (Met×Nat)):flat 12 (lookV xs r)=true:=by
 cases r with
 | none=>rfl
 | some r =>
  refine Zgu ?_
  intro v hv
  simp at hv
  rcases hv with rfl|rfl|rfl
  ·rfl
  ·exact Zus xs
  ·rfl
noncomputable def LkI (one:Prog) (ps:List Place) (xs:List Int) (H:AH) (k:Nat) (σ:Loc) (H':AH):Prop:=∃ (l:List St) (st:Option St),σ 0=some one.av∧σ 1=some (.lst (ps.map Place.av))∧σ 2=some (nums xs)∧σ 3=some (sv st)∧σ 4=some (.ref H.length)∧σ 5=some (.int l.length)∧H'=H++[.dictS (seenL l)]∧(∀ t,st=some t→StOk one t)∧(∀ t∈l,StOk one t)∧l.Nodup∧k+l.length=2001∧lookGo one ps k l st=lookGo one ps 2001 [] (some (0,xs))
theorem run_looked_w {n:Nat} {one two:Prog} (h1:one.Ok) (h2:two.Ok) {ps:List Place} (hp:∀ p∈ps,p.Ok one two) {xs:List Int} (hx:NumsOk one xs) (q:Q (lookV xs (lookGo one ps 2001 [] (some (0,xs)))) H):W (fns tbl (n+4) Zkb [one.av,.lst (ps.map Place.av),nums xs] H) Q:=by
 refine Zrm (run_g3 (fun σ₀ R s0 s1 s2 hR=>?_))
 have ok0:StOk one (0,xs):=⟨⟨Int.le_refl _,by have:=h1.r1; show (0:Int) < (one.rows.length:Int); omega⟩,hx⟩
 have fin:∀ (X:AH) (r:Option (Met×Nat)),r=lookGo one ps 2001 [] (some (0,xs))→R (lookV xs r) (H++X):=fun X r e=>hR _ _ (by rw [e]; exact Zgw (Zu7 _ _) q)
 unfold Zm4
 refine s_seq (s_asg (w_tup (w_cons (w_cst (w_cons (w_loc s2 (w_nil ?_)))))))
 unfold Zm3
 refine s_seq (s_asg (w_newS (s_seq (s_asg (w_cst ?_)))))
 unfold Zm2
 refine s_seq (Zh1 (LkI one ps xs H) 2001 (by decide) ⟨[],some (0,xs),s0,s1,s2,rfl,rfl,rfl,rfl,fun t e=>(Option.some.inj e) ▸ ok0,fun _ h=>(nomatch h),List.nodup_nil,rfl,rfl⟩ ?_)
 intro k σ H' h
 refine e2a12 h fun l st g0 g1 g2 g3 g4 g5 eZ8 hst hl hn hk e=>?_; subst eZ8
 have few:=Ztt h1 hn hl
 refine Exists.elim (Zas hk few) fun j eZ1=>?_; subst eZ1
 refine t_and (t_cmp (w_loc g3 (w_cst (Ztv st ?_))))
 cases st with
 | none =>
  refine if_ff ⟨fun h=>(nomatch h),fun _=>?_⟩
  exact s_ret (w_cst (fin _ none e))
 | some t =>
  have ht:=hst t rfl
  have e:(if t∈l then none else if (metGo one ps 2001 [] (some t)).bad then some (metGo one ps 2001 [] (some t),l.length) else lookGo one ps j (l++[t]) (nextS one t).1)=_:=e
  refine if_tt (t_val (w_notT (w_loc g3 (w_loc g4 (Zh9 (k:=t) ⟨_,rfl,Zf0 ?_⟩)))))
  rw [Zu5]
  by_cases hm:t∈l
  ·rw [if_pos hm] at e
   rw [decide_eq_true hm]
   refine ⟨fun h=>(nomatch h),fun _=>?_⟩
   exact s_ret (w_cst (fin _ none e))
  ·rw [if_neg hm] at e
   rw [decide_eq_false hm]
   refine ⟨fun _=>⟨j,rfl,?_⟩,fun h=>(nomatch h)⟩
   refine s_seq (s_asg (Zfv (w_cons (w_loc g0 (w_cons (w_loc g1 (w_cons (w_loc g3 (w_nil (Ztw h1 h2 hp ht ?_))))))))))
   unfold Zm1
   have good:(metGo one ps 2001 [] (some t)).bad=false→∀ v:AV,WS (Zm0 (fns tbl (n+3)) (upd σ 6 v) (H++[.dictS (seenL l)])) (LkI one ps xs H j) R:=by
    intro hb v
    rw [hb] at e
    have e:lookGo one ps j (l++[t]) (nextS one t).1=_:=e
    unfold Zm0
    refine s_seq (s_putT (w_cst (w_loc (v:=.ref H.length) g4 (w_loc (v:=sv (some t)) g3 (Zic (k:=t) (by simp [seenL]; exact Nat.le_trans (by assumption) (by decide)) ?_)))))
    unfold Zmz
    refine s_seq (s_asg (w_sub (Zfv (w_cons (w_loc (v:=one.av) g0 (w_cons (w_loc (v:=sv (some t)) g3 (w_nil (Zte h1 ht (w_cst (OB.of rfl ?_)))))))))))
    refine s_asg (w_bin (w_loc (v:=.int l.length) g5 (w_cst (ob_add ?_))))
    refine ⟨l++[t],(nextS one t).1,g0,g1,g2,rfl,g4,?_,by rw [Zu6 hm],fun t' h'=>Ztd h1 ht h',?_,?_,by simp; omega,e⟩
    ·show some (AV.int ((l.length:Int)+1))=_
     simp
    ·intro t' h'
     rcases List.mem_append.mp h' with h'|h'
     ·exact hl t' h'
     ·rw [List.mem_singleton.mp h']; exact ht
    ·rw [List.nodup_append]
     refine ⟨hn,by simp,fun a ha b hb=>?_⟩
     rw [List.mem_singleton.mp hb]
     intro q
     exact hm (q ▸ ha)
   have bad:(metGo one ps 2001 [] (some t)).bad=true→R (lookV xs (some (metGo one ps 2001 [] (some t),l.length))) (H++[.dictS (seenL l)]):=fun hb=>fin _ _ (by rw [← e,hb]; rfl)
   generalize metGo one ps 2001 [] (some t)=m at good bad ⊢
   cases m with
   | over a=>(repeat' (first|refine good rfl _|refine s_seq ?_|refine s_if ?_|refine s_nil ?_|refine w_cst ?_|refine w_loc (by first|rfl|assumption) ?_|refine w_sub ?_|refine t_cmp ?_|refine t_or ?_|refine Zg4 (by decide +kernel) ?_|refine if_ff ?_|refine OB.of (by rfl) ?_|fail))
   | comes a=>(repeat' (first|refine good rfl _|refine s_seq ?_|refine s_if ?_|refine s_nil ?_|refine w_cst ?_|refine w_loc (by first|rfl|assumption) ?_|refine w_sub ?_|refine t_cmp ?_|refine t_or ?_|refine Zg4 (by decide +kernel) ?_|refine if_ff ?_|refine OB.of (by rfl) ?_|fail))
   | stuck a=>(repeat' (first|exact bad rfl|refine s_seq ?_|refine s_if ?_|refine s_ret ?_|refine w_cst ?_|refine w_loc (by first|rfl|assumption) ?_|refine w_cons ?_|refine w_nil ?_|refine w_tup ?_|refine w_sub ?_|refine t_cmp ?_|refine t_or ?_|refine Zg3 (by decide +kernel) ?_|refine if_tt ?_|refine OB.of (by rfl) ?_|fail))
   | missed a b=>(repeat' (first|exact bad rfl|refine s_seq ?_|refine s_if ?_|refine s_ret ?_|refine w_cst ?_|refine w_loc (by first|rfl|assumption) ?_|refine w_cons ?_|refine w_nil ?_|refine w_tup ?_|refine w_sub ?_|refine t_cmp ?_|refine t_or ?_|refine Zg3 (by decide +kernel) ?_|refine Zg4 (by decide +kernel) ?_|refine if_tt ?_|refine if_ff ?_|refine OB.of (by rfl) ?_|fail))
noncomputable def LookR (P:Prog) (ps:List Place) (v:AV):Prop:=(v=.tup [.str "safe"]∧∀ xs,NumsOk P xs→lookGo P ps 2001 [] (some (0,xs))=none)∨∃ xs m k,NumsOk P xs∧lookGo P ps 2001 [] (some (0,xs))=some (m,k)∧v=.tup [.str m.word,nums xs,.int k]
noncomputable def LoI (one:Prog) (ps:List Place) (H:AH) (rest:List (List Int)) (σ:Loc) (H':AH):Prop:=σ 0=some one.av∧σ 2=some (.lst (ps.map Place.av))∧H'=H∧∃ dn,bsL one.most one.boxes.toNat=dn++rest∧∀ xs∈dn,lookGo one ps 2001 [] (some (0,xs))=none
theorem Zu8 {n:Nat} {one two:Prog} (h1:one.Ok) (h2:two.Ok) {ps:List Place} (hp:POk one two ps) (q:∀ v,LookR one ps v→Q v H):W (fns tbl (n+6) Zkc [one.av,two.av,.lst (ps.map Place.av)] H) Q:=by
 refine Zrn (run_g3 (fun σ₀ R s0 s1 s2 hR=>?_))
 have b0:=h1.b0
 unfold Znb
 refine s_seq (s_expr (Zfv (w_cons (w_loc s0 (w_nil (Zt9 h1 ?_))))))
 unfold Zna
 refine s_seq (s_expr (Zfv (w_cons (w_loc s1 (w_nil (Zt9 h2 ?_))))))
 unfold Zm9
 refine s_seq (s_expr (Zfv (w_cons (w_loc s0 (w_cons (w_loc s1 (w_cons (w_loc s2 (w_nil (Zue h1 h2 hp ?_))))))))))
 unfold Zm8
 refine s_seq (s_forR (Zfv (w_cons (w_loc s0 (w_nil (Zu4 h1 fun rb X hrb hlb=>⟨rb,rfl,?_⟩))))))
 have bl:(bsL one.most one.boxes.toNat).length≤10000:=by
  have h3:one.boxes.toNat≤3:=by have:=h1.b3; omega
  exact Nat.le_trans (bs_len h1.m4 _) (Nat.le_trans (Nat.pow_le_pow_right (by decide) h3) (by decide))
 refine Zhw (f:=nums) (l:=bsL one.most one.boxes.toNat) (LoI one ps (H++X)) ?_ ?_ ?_ bl ⟨s0,s2,rfl,[],rfl,fun _ h=>nomatch h⟩
 ·intro rest σ' H'' h
  refine e0a4 h fun _ _ eZ2 _=>?_; subst eZ2
  show (match (H++X)[rb]? with|some (.list l)=>some l|_=>none)=_
  rw [hlb]
 ·intro xs rest σ H' h
  refine maaaea h fun g0 g2 eZ2 dn e hd=>?_; subst eZ2
  refine ⟨_,rfl,?_⟩
  have hx:NumsOk one xs:=by
   have:=bs_ok _ xs (show xs∈bsL one.most one.boxes.toNat by rw [e]; simp)
   exact ⟨by omega,this.2⟩
  unfold Zm7
  refine s_seq (s_asg (Zfv (w_cons (w_loc (v:=one.av) g0 (w_cons (w_loc (v:=.lst (ps.map Place.av)) g2 (w_cons (w_loc rfl (w_nil (run_looked_w h1 h2 hp.ok hx ?_))))))))))
  unfold Zm6
  cases hr:lookGo one ps 2001 [] (some (0,xs)) with
  | none =>
   refine s_if (t_cmp (w_loc rfl (w_cst (OB.of (v:=false) rfl (if_ff (s_nil ⟨g0,g2,rfl,dn++[xs],by rw [e]; simp,?_⟩))))))
   intro y hy
   rcases List.mem_append.mp hy with hy|hy
   ·exact hd y hy
   ·rw [List.mem_singleton.mp hy]; exact hr
  | some r =>
   obtain ⟨m,k⟩:=r
   refine s_if (t_cmp (w_loc rfl (w_cst (OB.of (v:=true) rfl (if_tt (s_ret (w_loc rfl (hR _ _ (Zgw (Zu7 xs (some (m,k))) (q _ (.inr ⟨xs,m,k,hx,hr,rfl⟩)))))))))))
 ·intro σ H' h
  refine maaaea h fun g0 g2 eZ2 dn e hd=>?_; clear h; subst eZ2
  rw [List.append_nil] at e
  refine s_ret (w_tup (w_cons (w_cst (w_nil (hR _ _ (Zgw rfl (q _ (.inl ⟨rfl,fun xs hx=>?_⟩))))))))
  refine hd xs ?_
  rw [← e]
  exact bs_all _ xs (by have:=hx.1; omega) hx.2
theorem Zu9 (P:Prog) (ps:List Place):∀ (f:Nat) (l:List St) (st:Option St) (m:Met) (k:Nat),lookGo P ps f l st=some (m,k)→m.bad=true∧∃ c s,k=l.length+c∧c < f∧(runS P c st).2=some s∧metGo P ps 2001 [] (some s)=m
 | 0,_,_,_,_,h=>by injection h
 | f+1,l,none,_,_,h=>by injection h
 | f+1,l,some s,m,k,h=>by
  have h:(if s∈l then none else if (metGo P ps 2001 [] (some s)).bad then some (metGo P ps 2001 [] (some s),l.length) else lookGo P ps f (l++[s]) (nextS P s).1)=some (m,k):=h
  by_cases hm:s∈l
  ·rw [if_pos hm] at h; injection h
  ·rw [if_neg hm] at h
   cases hb:(metGo P ps 2001 [] (some s)).bad with
   | true =>
    rw [hb,if_pos rfl] at h
    cases h
    exact ⟨hb,0,s,rfl,by exact Nat.succ_pos _,rfl,rfl⟩
   | false =>
    rw [hb,if_neg (by decide)] at h
    refine Zak (Zu9 P ps f _ _ m k h) fun h1 c t e hc hr hmt=>?_
    refine ⟨h1,c+1,t,?_,by omega,hr,hmt⟩
    rw [e]; simp; omega
theorem Zva {P:Prog} (hP:P.Ok) (ps:List Place) {s₀:St}:∀ (f:Nat) (l:List St) (st:Option St),lookGo P ps f l st=none→2001≤f+l.length→l.Nodup→(∀ s∈l,StOk P s)→(∀ t,st=some t→StOk P t)→(∀ x∈l,(metGo P ps 2001 [] (some x)).bad=false)→(∀ x∈l,∀ y,(nextS P x).1=some y→y∈l∨st=some y)→(s₀∈l∨st=some s₀) →
  ∃ L:List St,s₀∈L∧(∀ x∈L,(metGo P ps 2001 [] (some x)).bad=false)∧∀ x∈L,∀ y,(nextS P x).1=some y→y∈L
 | 0,l,st,_,hf,hn,hk,_,_,_,_=>by
  have:=Ztt hP hn hk
  omega
 | f+1,l,none,_,_,_,_,_,hb,hc,h0=>⟨l,h0.resolve_right (fun h=>nomatch h),hb,fun x hx y hy=>(hc x hx y hy).resolve_right fun h=>nomatch h⟩
 | f+1,l,some s,h,hf,hn,hk,ho,hb,hc,h0=>by
  have h:(if s∈l then none else if (metGo P ps 2001 [] (some s)).bad then some (metGo P ps 2001 [] (some s),l.length) else lookGo P ps f (l++[s]) (nextS P s).1)=none:=h
  by_cases hm:s∈l
  ·refine ⟨l,h0.elim id (fun e=>by obtain rfl:=inj e; exact hm),hb,fun x hx y hy=>(hc x hx y hy).elim id fun e=>by obtain rfl:=inj e; exact hm⟩
  ·rw [if_neg hm] at h
   cases hbs:(metGo P ps 2001 [] (some s)).bad with
   | true=>rw [hbs,if_pos rfl] at h; injection h
   | false =>
    rw [hbs,if_neg (by decide)] at h
    have hs:=ho s rfl
    refine Zva hP ps f (l++[s]) (nextS P s).1 h (by simp; omega) ?_ ?_ (fun t e=>Ztd hP hs e) ?_ ?_ ?_
    ·rw [List.nodup_append]
     exact ⟨hn,by simp,fun a ha b hb=>by rw [List.mem_singleton.mp hb]; rintro rfl; exact hm ha⟩
    ·intro x hx
     rcases List.mem_append.mp hx with hx|hx
     ·exact hk x hx
     ·rw [List.mem_singleton.mp hx]; exact hs
    ·intro x hx
     rcases List.mem_append.mp hx with hx|hx
     ·exact hb x hx
     ·rw [List.mem_singleton.mp hx]; exact hbs
    ·intro x hx y hy
     rcases List.mem_append.mp hx with hx|hx
     ·rcases hc x hx y hy with h|h
      ·exact .inl (List.mem_append_left _ h)
      ·obtain rfl:=inj h; exact .inl (List.mem_append_right _ (List.mem_singleton.mpr rfl))
     ·rw [List.mem_singleton.mp hx] at hy
      exact .inr hy
    ·rcases h0 with h|h
     ·exact .inl (List.mem_append_left _ h)
     ·obtain rfl:=inj h; exact .inl (List.mem_append_right _ (List.mem_singleton.mpr rfl))
theorem Zvb {P:Prog} (hP:P.Ok) {ps:List Place} {s₀:St} (hs:StOk P s₀) (h:lookGo P ps 2001 [] (some s₀)=none):∀ (k:Nat) (t:St),(runS P k (some s₀)).2=some t→(metGo P ps 2001 [] (some t)).bad=false:=by
 refine e1a3 (Zva hP ps (s₀:=s₀) 2001 [] (some s₀) h (by simp) List.nodup_nil (fun _ h=>nomatch h) (fun t e=>by obtain rfl:=inj e; exact hs) (fun _ h=>nomatch h) (fun _ h=>nomatch h) (.inr rfl)) fun L h0 hb hc=>?_
 have key:∀ (k:Nat) (s t:St),s∈L→(runS P k (some s)).2=some t→t∈L:=by
  intro k
  induction k with
  | zero=>intro s t hs e; obtain rfl:=inj e; exact hs
  | succ k ih =>
   intro s t hs e
   have e:(runS P k (nextS P s).1).2=some t:=e
   cases hn:(nextS P s).1 with
   | none=>rw [hn,runS_none] at e; injection e
   | some s'=>rw [hn] at e; exact ih s' t (hc s hs s' hn) e
 exact fun k t e=>hb t (key k s₀ t h0 e)
noncomputable def encM (B:Nat):List Int→Nat
 | []=>0
 | x::r=>x.toNat+B * encM B r
theorem Zvc {B:Nat}:∀ {l:List Int},(∀ x∈l,x.toNat < B)→encM B l < B ^ l.length
 | [],_=>by simp [encM]
 | x::r,h=>by
  have i:=Zvc (B:=B) (l:=r) fun y hy=>h y (List.mem_cons_of_mem _ hy)
  have hx:=h x (List.mem_cons_self ..)
  show x.toNat+B * encM B r < B ^ (r.length+1)
  have h1:B * (encM B r+1)≤B * B ^ r.length:=Nat.mul_le_mul_left B i
  rw [Nat.mul_succ] at h1
  rw [Nat.pow_succ,Nat.mul_comm (B ^ r.length) B]
  omega
theorem Zvd {x y:Int} (hx:0≤x) (hy:0≤y) (e:x.toNat=y.toNat):x=y:=by rw [← Int.toNat_of_nonneg hx,e,Int.toNat_of_nonneg hy]
theorem Zve {B:Nat}:∀ {l k:List Int},l.length=k.length→(∀ x∈l,0≤x∧x.toNat < B)→(∀ x∈k,0≤x∧x.toNat < B)→encM B l=encM B k→l=k
 | [],[],_,_,_,_=>rfl
 | [],_::_,h,_,_,_=>by injection h
 | _::_,[],h,_,_,_=>by injection h
 | x::l,y::k,hl,h1,h2,e=>by
  have hx:=h1 x (List.mem_cons_self ..)
  have hy:=h2 y (List.mem_cons_self ..)
  have e:x.toNat+B * encM B l=y.toNat+B * encM B k:=e
  have e1:x.toNat=y.toNat:=by
   have:=congrArg (· % B) e
   simp only [Nat.add_mul_mod_self_left] at this
   rwa [Nat.mod_eq_of_lt hx.2,Nat.mod_eq_of_lt hy.2] at this
  have e2:encM B l=encM B k:=by
   rw [e1] at e
   exact Nat.eq_of_mul_eq_mul_left (Nat.lt_of_le_of_lt (Nat.zero_le _) hx.2) (Nat.add_left_cancel e)
  rw [Zvd hx.1 hy.1 e1,Zve (by simpa using hl) (fun z hz=>h1 z (List.mem_cons_of_mem _ hz)) (fun z hz=>h2 z (List.mem_cons_of_mem _ hz)) e2]
noncomputable def Zvf (P:Prog):Nat:=P.rows.length * (P.most+1).toNat ^ P.boxes.toNat
theorem Zvg {P:Prog} (hP:P.Ok) {l:List St} (hn:l.Nodup) (h:∀ s∈l,StOk P s):l.length≤Zvf P:=by
 have m1:=hP.m1
 have B0:0 < (P.most+1).toNat ^ P.boxes.toNat:=Nat.pow_pos (by omega)
 have dig:∀ s∈l,s.2.length=P.boxes.toNat∧∀ x∈s.2,0≤x∧x.toNat < (P.most+1).toNat:=by
  intro s hs
  have:=(h s hs).2
  exact ⟨by have:=this.1; omega,fun x hx=>by have:=this.2 x hx; omega⟩
 let en:St→Nat:=fun s=>encM (P.most+1).toNat s.2+(P.most+1).toNat ^ P.boxes.toNat * s.1.toNat
 have lt:∀ s∈l,encM (P.most+1).toNat s.2 < (P.most+1).toNat ^ P.boxes.toNat:=by
  intro s hs
  have:=Zvc (B:=(P.most+1).toNat) (l:=s.2) fun x hx=>((dig s hs).2 x hx).2
  rw [(dig s hs).1] at this
  exact this
 have inj:∀ s∈l,∀ t∈l,en s=en t→s=t:=by
  intro s hs t ht e
  have e:encM (P.most+1).toNat s.2+(P.most+1).toNat ^ P.boxes.toNat * s.1.toNat=encM (P.most+1).toNat t.2+(P.most+1).toNat ^ P.boxes.toNat * t.1.toNat:=e
  have e1:encM (P.most+1).toNat s.2=encM (P.most+1).toNat t.2:=by
   have:=congrArg (· % ((P.most+1).toNat ^ P.boxes.toNat)) e
   simp only [Nat.add_mul_mod_self_left] at this
   rwa [Nat.mod_eq_of_lt (lt s hs),Nat.mod_eq_of_lt (lt t ht)] at this
  have e2:s.1.toNat=t.1.toNat:=by
   rw [e1] at e
   exact Nat.eq_of_mul_eq_mul_left B0 (Nat.add_left_cancel e)
  have h1:=(h s hs).1
  have h2:=(h t ht).1
  exact Prod.ext (Zvd h1.1 h2.1 e2) (Zve ((dig s hs).1.trans (dig t ht).1.symm) (dig s hs).2 (dig t ht).2 e1)
 have nd:(l.map en).Nodup:=by
  clear lt dig h
  induction l with
  | nil=>simp
  | cons s l ih =>
   rw [List.nodup_cons] at hn
   rw [List.map_cons,List.nodup_cons]
   refine ⟨fun hm=>?_,ih hn.2 fun a ha b hb=>inj a (List.mem_cons_of_mem _ ha) b (List.mem_cons_of_mem _ hb)⟩
   refine e1a2 (List.mem_map.mp hm) fun t ht e=>?_
   exact hn.1 (inj t (List.mem_cons_of_mem _ ht) s (List.mem_cons_self ..) e ▸ ht)
 have:=pigeon (Zvf P) (l.map en) nd fun x hx=>by
  refine e1a2 (List.mem_map.mp hx) fun s hs eZ2=>?_; subst eZ2
  have h1:=(h s hs).1
  have h2:=lt s hs
  show encM (P.most+1).toNat s.2+(P.most+1).toNat ^ P.boxes.toNat * s.1.toNat < P.rows.length * (P.most+1).toNat ^ P.boxes.toNat
  have h3:(P.most+1).toNat ^ P.boxes.toNat * (s.1.toNat+1)≤(P.most+1).toNat ^ P.boxes.toNat * P.rows.length:=Nat.mul_le_mul_left _ (by omega)
  rw [Nat.mul_succ] at h3
  rw [Nat.mul_comm P.rows.length]
  omega
 simpa using this
theorem Zvh {P:Prog} (hP:P.Ok):Zvf P≤2000:=by
 have h1:=hP.m4
 have h2:=hP.b3
 exact Nat.mul_le_mul hP.r16 (Nat.le_trans (Nat.pow_le_pow_left (show (P.most+1).toNat≤5 by omega) _) (Nat.pow_le_pow_right (by decide) (show P.boxes.toNat≤3 by omega)))
theorem Zvi {n:Nat} {P:Prog} (hP:P.Ok) (q:Q (.int (Zvf P)) H):W (fns tbl (n+1) Zkr [P.av] H) Q:=by
 refine Zr2 (run_g1 (fun σ₀ R s0 hR=>?_))
 have b0:=hP.b0
 have b3:=hP.b3
 have m1:=hP.m1
 have m4:=hP.m4
 have r16:=hP.r16
 unfold Zpu
 refine s_seq (s_asg (Zfw (w_cons (w_sub (w_loc s0 (w_cst (OB.of (v:=.lst (P.rows.map Row.av)) rfl (w_nil (Zhu (by exact Nat.le_trans (by assumption) (by decide)) ?_)))))))))
 unfold Zpt
 refine s_seq (s_for (Zfw (w_cons (w_sub (w_loc s0 (w_cst (OB.of (v:=.int P.boxes) rfl (w_nil (Zgl (by assumption) (by exact Int.le_trans (by assumption) (by decide)) (Zgm (by assumption) (by exact Int.le_trans (by assumption) (by decide)) ?_))))))))))
 refine Zgj (fun j σ H'=>σ 0=some P.av∧σ 1=some (.int ((P.rows.length * (P.most+1).toNat ^ j:Nat):Int))∧H'=H) ?_ ?_ ⟨s0,by show some (AV.int _)=_; simp,rfl⟩
 ·intro j σ H' hj h
  refine e0a3 h fun g0 g1 eZ2=>?_; subst eZ2
  unfold Zps
  refine s_asg (w_bin (w_loc g1 (w_bin (w_sub (w_loc g0 (w_cst (OB.of (v:=.int P.most) rfl (w_cst (ob_add (ob_mul (.inl (by omega)) ⟨g0,?_,rfl⟩))))))))))
  show some (AV.int _)=_
  rw [Nat.pow_succ,← Nat.mul_assoc]
  have:P.most+1=((P.most+1).toNat:Int):=by omega
  rw [Int.natCast_mul (_ * _),← this]
 ·intro σ H' h
  refine e0a3 h fun g0 g1 eZ2=>?_; clear h; subst eZ2
  exact s_ret (w_loc g1 (hR _ _ (Zgx rfl q)))
theorem Zvj {P:Prog} (hP:P.Ok) (ps:List Place) (f:Nat):∀ (l:List St) (st:Option St) (m:Met) (k:Nat),l.Nodup→(∀ s∈l,StOk P s)→(∀ t,st=some t→StOk P t)→lookGo P ps f l st=some (m,k)→k < Zvf P:=by
 induction f with
 | zero=>intro l st m k _ _ _ h; injection h
 | succ f ih =>
  intro l st m k hn hk ho h
  cases st with
  | none=>injection h
  | some s =>
   have h:(if s∈l then none else if (metGo P ps 2001 [] (some s)).bad then some (metGo P ps 2001 [] (some s),l.length) else lookGo P ps f (l++[s]) (nextS P s).1)=some (m,k):=h
   by_cases hm:s∈l
   ·rw [if_pos hm] at h; injection h
   ·rw [if_neg hm] at h
    have hs:=ho s rfl
    have hn':(l++[s]).Nodup:=by
     rw [List.nodup_append]
     exact ⟨hn,by simp,fun a ha b hb=>by rw [List.mem_singleton.mp hb]; rintro rfl; exact hm ha⟩
    have hk':∀ x∈l++[s],StOk P x:=fun x hx=>by
     rcases List.mem_append.mp hx with hx|hx
     ·exact hk x hx
     ·rw [List.mem_singleton.mp hx]; exact hs
    cases hb:(metGo P ps 2001 [] (some s)).bad with
    | true =>
     rw [hb,if_pos rfl] at h
     have e:l.length=k:=by
      have:=inj h
      exact (Prod.mk.inj this).2
     have:=Zvg hP hn' hk'
     rw [List.length_append] at this
     rw [← e]; exact this
    | false =>
     rw [hb,if_neg Bool.false_ne_true] at h
     exact ih _ _ m k hn' hk' (fun t e=>Ztd hP hs e) h
theorem Zvk (xs ys:List Int):∃ b,eqD H (nums xs) (nums ys)=some b∧(xs=ys→b=true):=by
 unfold eqD nums
 rw [Zsm,Zsm]
 show ∃ b,(if (SeqAt.shaped (.tuple (xs.map .int))&&SeqAt.shaped (.tuple (ys.map .int)))=true then some (PyData.eqv (.tuple (xs.map .int)) (.tuple (ys.map .int))) else none)=some b∧_
 rw [Zsn,Zsn]
 refine ⟨_,if_pos rfl,fun e=>?_⟩
 subst e
 have:=Zf6 (H:=H) (a:=.tup (xs.map .int)) (Zsm xs) (Zsn xs)
 unfold eqD at this
 rw [Zsm] at this
 have this:(if (SeqAt.shaped (.tuple (xs.map .int))&&SeqAt.shaped (.tuple (xs.map .int)))=true then some (PyData.eqv (.tuple (xs.map .int)) (.tuple (xs.map .int))) else none)=some true:=this
 rw [Zsn] at this
 have this:some (PyData.eqv (.tuple (xs.map .int)) (.tuple (xs.map .int)))=some true:=this
 exact inj this
theorem Zvl (xs:List Int):∀ l:List (List Int),∃ b,anyEq H (nums xs) (l.map nums)=some b∧(xs∈l→b=true)
 | []=>⟨false,rfl,fun h=>nomatch h⟩
 | y::l=>by
  refine e1a2 (Zvk (H:=H) y xs) fun b e hb=>?_
  obtain ⟨c,e',hc⟩:∃ b,anyEq H (nums xs) (l.map nums)=some b∧(xs∈l→b=true):=Zvl xs l
  refine ⟨b || c,?_,fun h=>?_⟩
  ·show (match eqD H (nums y) (nums xs),anyEq H (nums xs) (l.map nums) with|some b,some c=>some (b || c)|_,_=>none)=_
   rw [e,e']
  ·rcases List.mem_cons.mp h with h|h
   ·rw [hb h.symm]; rfl
   ·rw [hc h,Bool.or_true]
theorem Zvm {xs:List Int} {l:List (List Int)} (h:xs∈l) {Q:Bool→Prop} (q:Q false):OB (cmpop H .notIn (nums xs) (.lst (l.map nums))) Q:=by
 refine e1a2 (Zvl (H:=H) xs l) fun b e hb=>?_
 refine ⟨false,?_,q⟩
 show (inOp H (nums xs) (.lst (l.map nums))).map (!·)=some false
 have:inOp H (nums xs) (.lst (l.map nums))=some b:=e
 rw [this,hb h]; rfl
theorem Zvn {n:Nat} {v:AV} (h1:∀ H,isiTOp H v [.tuple,.list]=some false) (h2:∀ H,appBI H .isinstance [v,.bi .bool]=some (.bool false)) (q:Q (.bool true) H):W (fns tbl (n+1) Zks [v] H) Q:=by
 refine Zr3 (run_g1 (fun σ₀ R s0 hR=>?_))
 unfold Zpy
 refine s_seq (s_if (t_val (w_isiT (w_loc s0 ⟨_,h1 _,Zf0 (if_ff (s_nil ?_))⟩))))
 unfold Zpx
 refine s_ret (w_not (t_val (Zfw (w_cons (w_loc s0 (w_cons (w_cst (w_nil ⟨_,h2 H,Zf0 ?_⟩))))))))
 exact hR _ _ (Zgx rfl q)
theorem Zvo {n:Nat} {X:Type} {f:X→AV} {l:List X} {v:AV} (hv:iter? v=some (l.map f)) (hi:∀ H,isiTOp H v [.tuple,.list]=some true) (hl:l.length≤1000) (hx:∀ x∈l,∀ {H:AH} {Q:AV→AH→Prop},Q (.bool true) H→W (fns tbl (n+1) Zks [f x] H) Q) (q:Q (.bool true) H):W (fns tbl (n+2) Zks [v] H) Q:=by
 refine Zr3 (run_g1 (fun σ₀ R s0 hR=>?_))
 unfold Zpy
 refine s_seq (s_if (t_val (w_isiT (w_loc s0 ⟨_,hi _,Zf0 (if_tt ?_)⟩))))
 refine s_ret (Zfw (w_cons (Zg6 (f:=f) (P:=fun _ x=>x=.bool true) (w_loc s0 ⟨l,hv,by exact Nat.le_trans hl (by decide),?_,?_⟩))))
 ·intro x hxm H'
  refine Zfv (w_cons (w_loc rfl (w_nil (hx x hxm ?_))))
  exact ⟨rfl,rfl,rfl⟩
 ·intro ys ha
  exact w_nil (Zt6 (f:=f) ha (hR _ _ (Zgx rfl q)))
theorem Zvp {n:Nat} {m:Met} {xs:List Int} (hx:xs.length≤100) {k:Int} (q:Q (.bool true) H):W (fns tbl (n+3) Zks [.tup [.str m.word,nums xs,.int k]] H) Q:=by
 refine Zvo (f:=fun v:AV=>v) (l:=[.str m.word,nums xs,.int k]) rfl (fun _=>rfl) (show 3≤1000 by decide) (fun v hv=>?_) q
 intro H Q q
 have hv:v=.str m.word∨v=nums xs∨v=.int k:=by simpa using hv
 rcases hv with rfl|rfl|rfl
 ·exact Zvn (n:=n+1) (fun _=>rfl) (fun _=>rfl) q
 ·exact Zvo (n:=n) (f:=fun i:Int=>AV.int i) (l:=xs) rfl (fun _=>rfl) (Nat.le_trans hx (by decide)) (fun i _=>fun q=>Zvn (fun _=>rfl) (fun _=>rfl) q) q
 ·exact Zvn (n:=n+1) (fun _=>rfl) (fun _=>rfl) q
theorem runS_add (P:Prog):∀ (a b:Nat) (s:Option St),runS P (a+b) s=((runS P a s).1++(runS P b (runS P a s).2).1,(runS P b (runS P a s).2).2)
 | 0,b,s=>by rw [Nat.zero_add]; rfl
 | a+1,b,none=>by rw [runS_none,runS_none,runS_none]; rfl
 | a+1,b,some s=>by
  rw [show a+1+b=(a+b)+1 by omega]
  show ((nextS P s).2.toList++(runS P (a+b) (nextS P s).1).1,(runS P (a+b) (nextS P s).1).2)=_
  rw [runS_add P a b]
  show _=(((nextS P s).2.toList++(runS P a (nextS P s).1).1)++_,_)
  rw [List.append_assoc]
  rfl
theorem sv_is (s:Option St) {Q:Bool→Prop} (q:Q s.isNone):OB (cmpop H .is (sv s) .none) Q:=by
 cases s with
 | none=>exact ⟨true,rfl,q⟩
 | some s=>exact ⟨false,rfl,q⟩
theorem bad_in {m:Met} (h:m.bad=true):m.word=Str.ofString "stuck"∨m.word=Str.ofString "missed":=by
 cases m with
 | over n=>injection h
 | stuck n=>exact .inl rfl
 | comes n=>injection h
 | missed a b=>exact .inr rfl
theorem ob_bad {m:Met} (h:m.bad=true) {Q:Bool→Prop} (q:Q false):OB (cmpop H .notIn (.str m.word) (.tup [.str "stuck",.str "missed"])) Q:=by
 rcases bad_in h with e|e
 ·rw [e]; exact ⟨false,by kernel_rfl,q⟩
 ·rw [e]; exact ⟨false,by kernel_rfl,q⟩
noncomputable def RgI (one:Prog) (jr:Nat) (v:AV) (xs:List Int) (H:AH) (j:Nat) (σ:Loc) (H':AH):Prop:=σ 0=some one.av∧σ 1=some (.ref jr)∧σ 2=some v∧σ 4=some (sv (runS one j (some (0,xs))).2)∧H'=H
theorem Zvq {n:Nat} {one two:Prog} (h1:one.Ok) (h2:two.Ok) {ps:List Place} (hp:∀ p∈ps,p.Ok one two) {jr:Nat} {rl:List (Int×AV)} (hj:H[jr]?=some (.dict rl)) (hrt:RT ps rl) {xs:List Int} (hx:NumsOk one xs) {m:Met} {k:Nat} (hl:lookGo one ps 2001 [] (some (0,xs))=some (m,k)) (q:Q (.bool true) H) :
  W (fns tbl (n+5) Zkt [one.av,.ref jr,.tup [.str m.word,nums xs,.int k],.bool false] H) Q:=by
 refine Zr4 (run_w rfl ?_)
 have f:=Zgx (H:=H) (v:=.bool true) rfl q
 have b0:=h1.b0
 have b3:=h1.b3
 have ok0:StOk one (0,xs):=⟨⟨Int.le_refl _,by have:=h1.r1; show (0:Int) < (one.rows.length:Int); omega⟩,hx⟩
 refine Zak (Zu9 one ps 2001 [] (some (0,xs)) m k hl) fun hbad c s e _ hrun hmet=>?_
 have e:k=c:=by simpa using e
 subst e
 have hfew:=Zvj h1 ps 2001 [] (some (0,xs)) m k List.nodup_nil (fun _ h=>nomatch h) (fun t e=>by obtain rfl:=inj e; exact ok0) hl
 have hle:=Zvh h1
 have hxl:xs.length≤100:=by have:=hx.1; omega
 have hin:xs∈bsL one.most one.boxes.toNat:=bs_all _ xs (by have:=hx.1; omega) hx.2
 have hrunOk:∀ j t,(runS one j (some (0,xs))).2=some t→StOk one t:=by
  intro j
  induction j with
  | zero=>intro t e; obtain rfl:=inj e; exact ok0
  | succ j ih =>
   intro t e
   cases hj:(runS one j (some (0,xs))).2 with
   | none =>
    exfalso
    have:=runS_add one j 1 (some (0,xs))
    rw [this] at e
    rw [hj,runS_none] at e; injection e
   | some u=>rw [run_next hj] at e; exact Ztd h1 (ih u hj) e
 unfold Zp7
 (repeat' (first|refine if_tt ?_|refine if_ff ?_|refine if_ft ?_|refine if_tf ?_|refine Zut h1 (Zvm hin ?_)|refine Zvp hxl ?_|refine Zvi h1 ?_|refine Zgj (RgI one jr (.tup [.str m.word,nums xs,.int k]) xs H) ?_ ?_ ⟨rfl,rfl,rfl,rfl,rfl⟩|refine s_seq ?_|refine s_if ?_|refine s_ret ?_|refine s_asg ?_|refine s_nil ?_|refine s_for ?_|refine w_cst ?_|refine w_loc (by first|rfl|assumption) ?_|refine Zfw ?_|refine w_cons ?_|refine w_nil ?_|refine w_tup ?_|refine w_sub ?_|refine w_cmp2 ?_|refine t_cmp ?_|refine t_val ?_|refine t_not ?_|refine t_or ?_|refine ob_neI ?_|refine Zfz (fun _=>?_) (fun _=>?_)|refine Zf0 ?_|refine Zgl (by omega) (by omega) ?_|refine Zgm (by omega) (by omega) ?_|refine OB.of (by rfl) ?_|fail))
 ·exfalso
  omega
 ·intro j σ H' hjk h
  refine e0a5 h fun g0 g1 g2 g4 eZ4=>?_; subst eZ4
  unfold Zp0
  cases hr:(runS one j (some (0,xs))).2 with
  | none =>
   rw [hr] at g4
   have hn:(runS one (j+1) (some (0,xs))).2=none:=by rw [runS_add one j 1 (some (0,xs)),hr]; rfl
   refine s_if (t_cmp (w_loc (v:=.none) g4 (w_cst (OB.of (v:=false) rfl (if_ff (s_nil ⟨g0,g1,g2,?_,rfl⟩))))))
   rw [hn]; exact g4
  | some u =>
   rw [hr] at g4
   refine s_if (t_cmp (w_loc (v:=sv (some u)) g4 (w_cst (Ztv (some u) (if_tt ?_)))))
   refine s_asg (w_sub (Zfv (w_cons (w_loc (v:=one.av) g0 (w_cons (w_loc (v:=sv (some u)) g4 (w_nil (Ztf h1 (hrunOk j u hr) (w_cst (OB.of rfl ?_))))))))))
   exact ⟨g0,g1,g2,by rw [run_next hr]; rfl,rfl⟩
 ·intro σ H' h
  refine e0a5 h fun g0 g1 g2 g4 eZ4=>?_; subst eZ4
  rw [Int.toNat_natCast,hrun] at g4
  unfold Zp2
  refine s_seq (s_if (t_or (t_cmp (w_loc (v:=sv (some s)) g4 (w_cst (sv_is (some s) (if_ff ?_)))))))
  refine t_cmp (w_sub (w_loc g2 (w_cst (OB.of (v:=.str m.word) rfl ?_))))
  refine w_tup (w_cons (w_cst (w_cons (w_cst (w_nil ?_)))))
  refine ob_bad hbad (if_ff (s_nil ?_))
  unfold Zp1
  refine s_ret (w_cmp (w_sub (Zfv (w_cons (w_loc (v:=one.av) g0 (w_cons (w_loc g1 (w_cons (w_loc (v:=sv (some s)) g4 (w_nil ?_))))))))))
  refine lmet_w h1 h2 hp (hrunOk k s hrun) hj hrt (w_cst (Zuf _ ?_))
  refine w_sub (w_loc g2 (w_cst (OB.of (v:=.str m.word) rfl ?_)))
  rw [hmet]
  refine Zg3 ?_ f
  rcases bad_in hbad with e|e <;> (rw [e]; decide +kernel)
theorem Zvr {n:Nat} {one two:Prog} (h1:one.Ok) (h2:two.Ok) {ps:List Place} (hp:∀ p∈ps,p.Ok one two) {jr:Nat} {rl:List (Int×AV)} (hj:H[jr]?=some (.dict rl)) (hrt:RT ps rl) {v:AV} {b:Bool} (hv:LookR one ps v) (hb:b=true ↔ ∀ xs,NumsOk one xs→∀ k t,(runS one k (some (0,xs))).2=some t→(metGo one ps 2001 [] (some t)).bad=false) (q:Q (.bool true) H) :
  W (fns tbl (n+5) Zkt [one.av,.ref jr,v,.bool b] H) Q:=by
 have ok0:∀ xs,NumsOk one xs→StOk one (0,xs):=fun xs hx=>⟨⟨Int.le_refl _,by have:=h1.r1; show (0:Int) < (one.rows.length:Int); omega⟩,hx⟩
 rcases hv with ⟨rfl,hs⟩|⟨xs,m,k,hx,hl,rfl⟩
 ·have e:b=true:=hb.mpr fun xs hx k t e=>Zvb h1 (ok0 xs hx) (hs xs hx) k t e
  subst e
  refine Zr4 (run_w rfl ?_)
  have f:=Zgx (H:=H) (v:=.bool true) rfl q
  have pl:pln 12 (.tup [.str "safe"])=true:=by decide +kernel
  unfold Zp7
  (repeat' (first|refine if_tt ?_|refine if_ff ?_|refine if_ft ?_|refine if_tf ?_|refine Zhf pl rfl f|refine s_seq ?_|refine s_if ?_|refine s_ret ?_|refine w_cst ?_|refine w_loc (by first|rfl|assumption) ?_|refine Zfw ?_|refine w_cons ?_|refine w_nil ?_|refine w_tup ?_|refine w_cmp ?_|refine t_val ?_|refine t_not ?_|refine t_or ?_|refine Zf0 ?_|refine OB.of (by rfl) ?_|fail))
 ·have e:b=false:=by
   cases b with
   | false=>rfl
   | true =>
    refine Zak (Zu9 one ps 2001 [] (some (0,xs)) m k hl) fun hbad c s e _ hrun hmet=>?_
    have:=hb.mp rfl xs hx c s hrun
    rw [hmet,hbad] at this
    injection this
  subst e
  exact Zvq h1 h2 hp hj hrt hx hl q
theorem Zvs {n:Nat} {xs:List Int} (hx:xs.length≤100) (q:Q (.bool true) H):W (fns tbl (n+2) Zks [nums xs] H) Q:=by
 refine Zvo (n:=n) (f:=fun i:Int=>AV.int i) (l:=xs) rfl (fun _=>rfl) (Nat.le_trans hx (by decide)) ?_ q
 intro i _ H' Q' q'
 exact Zvn (fun _=>rfl) (fun _=>rfl) q'
theorem kd_ref {r:Nat} {l:List AV} (hr:H[r]?=some (.list l)):kdOf H (.ref r)=some .list:=by
 unfold kdOf
 simp only [hr]
theorem Zvt {n r:Nat} {l:List (List Int)} (hr:H[r]?=some (.list (l.map nums))) (hl:l.length≤10000) (hx:∀ xs∈l,xs.length≤100) (q:Q (.bool true) H):W (fns tbl (n+3) Zks [.ref r] H) Q:=by
 refine Zr3 (run_g1 (fun σ₀ R s0 hR=>?_))
 unfold Zpy
 have hi:isiTOp H (.ref r) [.tuple,.list]=some true:=by
  unfold isiTOp isiTOp isiTOp isiOp
  rw [kd_ref hr]; rfl
 refine s_seq (s_if (t_val (w_isiT (w_loc s0 ⟨_,hi,Zf0 (if_tt ?_)⟩))))
 refine s_ret (Zfw (w_cons (Zhn (P:=fun _ x=>x=.bool true) (w_loc s0 ⟨r,_,rfl,hr,by rw [List.length_map]; exact hl,?_,?_⟩))))
 ·intro v hv H'
  refine e1a2 (List.mem_map.mp hv) fun xs hm eZ2=>?_; subst eZ2
  refine Zfv (w_cons (w_loc rfl (w_nil (Zvs (hx xs hm) ?_))))
  exact ⟨rfl,rfl,rfl⟩
 ·intro ys ha
  exact w_nil (Zht (ha.all (T:=fun v=>v=AV.bool true) fun _ _ h=>h) (hR _ _ (Zgx rfl q)))
theorem Zvu {n:Nat} {i lo hi:Int} (h:i < lo∨hi < i) (q:Q (.bool false) H):W (fns tbl (n+1) Zjx [.int i,.int lo,.int hi] H) Q:=by
 refine Zsr rfl ?_
 have:among lo hi (.int i)=false:=by
  show (decide _&&decide _)=false
  rw [Bool.and_eq_false_iff,decide_eq_false_iff_not,decide_eq_false_iff_not]
  omega
 rw [this]; exact q
noncomputable def NoPg (v:AV):Prop:=∀ (n:Nat) (H:AH) (Q:AV→AH→Prop),Q (.bool false) H→W (fns tbl (n+3) Zjz [v] H) Q
noncomputable def pσ (x y z:AV):Loc:=upd (upd (upd (args0 [.tup [x,y,z]] 0) 1 x) 2 y) 3 z
section
variable {Φ:Fns} {H:AH} {x y z:AV} {l:List AV}
theorem Zvv:Zld Φ (args0 [.none] 0) H=.ok (.ret (.bool false),args0 [.none] 0) H:=by kernel_rfl
theorem pk_3:Zld Φ (args0 [.tup [x,y,z]] 0) H=Zlc Φ (pσ x y z) H:=by kernel_rfl
theorem pk_tup:Zlb Φ (pσ x y (.tup l)) H=.ok (.ret (.bool false),pσ x y (.tup l)) H:=by kernel_rfl
theorem pk_nil:Zlb Φ (pσ x y (.lst [])) H=.ok (.ret (.bool false),pσ x y (.lst [])) H:=by kernel_rfl
end
theorem Zvw:NoPg .none:=fun n H Q q=>by
 refine Zra (run_w rfl ?_)
 show WS (Zld _ (args0 [.none] 0) H) _ _
 rw [Zvv]
 exact ⟨_,_,rfl,Zgx rfl q⟩
theorem np_3 {x y z:AV} (h:∀ (n:Nat) (H:AH) (N:Loc→AH→Prop) (R:AV→AH→Prop),R (.bool false) H→WS (Zlc (fns tbl (n+2)) (pσ x y z) H) N R):NoPg (.tup [x,y,z]):=fun n H Q q=>by
 refine Zra (run_w rfl ?_)
 show WS (Zld _ (args0 [.tup [x,y,z]] 0) H) _ _
 rw [pk_3]
 exact h n H _ _ (Zgx rfl q)
theorem Zvx {i:Int} {y z:AV} (h:i < 0∨3 < i):NoPg (.tup [.int i,y,z]):=np_3 fun n H N R q=>by
 unfold Zlc
 refine s_seq (s_if (t_or (t_not (t_val (Zfv (w_cons (w_loc (v:=.int i) rfl (w_cons (w_cst (w_cons (w_cst (w_nil (Zvu h (Zf0 ?_))))))))))))))
 exact if_tt (if_tt (s_ret (w_cst q)))
theorem Zvy {b i:Int} {z:AV} (hb:0≤b∧b≤3) (h:i < 1∨4 < i):NoPg (.tup [.int b,.int i,z]):=np_3 fun n H N R q=>by
 unfold Zlc
 refine s_seq (s_if (t_or (t_not (t_val (Zfv (w_cons (w_loc (v:=.int b) rfl (w_cons (w_cst (w_cons (w_cst (w_nil (Ztz hb (Zf0 (if_ff ?_)))))))))))))))
 refine t_not (t_val (Zfv (w_cons (w_loc (v:=.int i) rfl (w_cons (w_cst (w_cons (w_cst (w_nil (Zvu h (Zf0 ?_)))))))))))
 exact if_tt (s_ret (w_cst q))
theorem np_34 {b m:Int} {z:AV} (hb:0≤b∧b≤3) (hm:1≤m∧m≤4) (h:∀ (n:Nat) (H:AH) (N:Loc→AH→Prop) (R:AV→AH→Prop),R (.bool false) H→WS (Zlb (fns tbl (n+2)) (pσ (.int b) (.int m) z) H) N R):NoPg (.tup [.int b,.int m,z]):=np_3 fun n H N R q=>by
 unfold Zlc
 refine s_seq (s_if (t_or (t_not (t_val (Zfv (w_cons (w_loc (v:=.int b) rfl (w_cons (w_cst (w_cons (w_cst (w_nil (Ztz hb (Zf0 (if_ff ?_)))))))))))))))
 refine t_not (t_val (Zfv (w_cons (w_loc (v:=.int m) rfl (w_cons (w_cst (w_cons (w_cst (w_nil (Ztz hm (Zf0 ?_)))))))))))
 exact if_ff (s_nil (h n H N R q))
theorem np_tup {b m:Int} {l:List AV} (hb:0≤b∧b≤3) (hm:1≤m∧m≤4):NoPg (.tup [.int b,.int m,.tup l]):=np_34 hb hm fun n H N R q=>by
 rw [pk_tup]
 exact ⟨_,_,rfl,q⟩
theorem np_nil {b m:Int} (hb:0≤b∧b≤3) (hm:1≤m∧m≤4):NoPg (.tup [.int b,.int m,.lst []]):=np_34 hb hm fun n H N R q=>by
 rw [pk_nil]
 exact ⟨_,_,rfl,q⟩
theorem Zvz {X:Type} {p:X→Bool}:∀ {l:List X} {xs:List AV},All2 (fun v x=>x=.bool (p v)) l xs→allTrue? xs=some (l.all p)
 | _,_,.nil=>rfl
 | _,_,.cons h r=>by
  rw [h]
  show (allTrue? _).map _=_
  rw [Zvz r]; rfl
theorem Zv0 {X:Type} {p:X→Bool} {l:List X} {xs:List AV} (h:All2 (fun v x=>x=.bool (p v)) l xs) {Q:AV→Prop} (q:Q (.bool (l.all p))):OB (appBI H .all [.lst xs]) Q:=by
 refine ⟨_,?_,q⟩
 show Option.map AV.bool (allTrue? xs)=_
 rw [Zvz h]; rfl
theorem Zv1 {L:List AV} {k:Nat} (e:L.length=k) (h:k≤1000000) {Q:AV→Prop} (q:Q (.int k)):OB (appBI H .len [.lst L]) Q:=by
 subst e
 exact Zhp h q
theorem Zv2 {ini:List AV} {r:AV} {Q:AV→Prop} (h:ini.length≤1000) (q:Q r):OB (subop H (.lst (ini++[r])) (.int (-1))) Q:=by
 refine ⟨_,?_,q⟩
 show itemAt (ini++[r]) (-1)=_
 unfold itemAt
 rw [if_pos ⟨by exact Int.natCast_nonneg _,by exact Int.natCast_nonneg _⟩,if_neg (by decide),if_pos (by simp; omega)]
 have:(-1+((ini++[r]).length:Int)).toNat=ini.length:=by simp; omega
 rw [this]
 simp
theorem Zv3 {b m:Int} (hb:0≤b∧b≤3) (hm:1≤m∧m≤4) {rs:List Row} {la:AV} {gl:Bool} {k:Nat} (hk:rs.length+1=k) (hl:k≤17) (hr:∀ r∈rs,r.Ok b m k) (hla:∀ (n:Nat) (H:AH) (Q:AV→AH→Prop),Q (.bool gl) H→W (fns tbl (n+2) Zjy [la,.int b,.int m,.int k] H) Q)
  (hs:gl=true→la=.tup [.str "tell",.int 0]):NoPg (.tup [.int b,.int m,.lst (rs.map Row.av++[la])]):=np_34 hb hm fun n H N R q=>by
 have hL:(rs.map Row.av++[la]).length=k:=by simp; exact hk
 have h7:k≤1000000:=Nat.le_trans hl (by decide)
 unfold Zlb
 refine s_seq (s_if ?_)
 (repeat' (first|refine if_ff ?_|refine Zv1 hL h7 ?_|refine s_seq ?_|refine s_if ?_|refine s_ret ?_|refine s_nil ?_|refine w_cst ?_|refine w_loc (by first|rfl|assumption) ?_|refine Zfw ?_|refine w_cons ?_|refine w_nil ?_|refine w_cmp2 ?_|refine t_val ?_|refine t_not ?_|refine if_dec (fun _=>?_) (fun _=>?_)|refine Zfz (fun _=>?_) (fun _=>?_)|refine if_tt ?_|refine Zf0 ?_|refine OB.of (by rfl) ?_|fail))
 ·exact q
 ·refine Zg6 (f:=fun o:Option Row=>o.elim la Row.av) (P:=fun o x=>x=.bool (o.elim gl fun _=>true)) (w_loc (v:=.lst (rs.map Row.av++[la])) rfl ⟨rs.map some++[none],?_,?_,?_,?_⟩)
  ·show some (rs.map Row.av++[la])=_
   rw [List.map_append,List.map_map]; rfl
  ·simp; omega
  ·intro o ho H'
   refine Zfv (w_cons (w_loc rfl (w_cons (w_loc (v:=.int b) rfl (w_cons (w_loc (v:=.int m) rfl (w_cons (Zfw (w_cons (w_loc (v:=.lst (rs.map Row.av++[la])) rfl (w_nil (Zv1 hL h7 (w_nil ?_)))))))))))))
   cases o with
   | none=>exact hla n H' _ ⟨rfl,rfl,rfl⟩
   | some r =>
    have hm:r∈rs:=by simpa using ho
    exact Zt5 (hr r hm) ⟨rfl,rfl,rfl⟩
  ·intro ys ha
   refine w_nil (Zv0 ha (Zf0 ?_))
   have e:((rs.map some++[none]).all fun o:Option Row=>o.elim gl fun _=>true)=gl:=by
    rw [List.all_append,List.all_map]
    have:(rs.all ((fun o:Option Row=>o.elim gl fun _=>true) ∘ some))=true:=List.all_eq_true.mpr fun _ _=>rfl
    rw [this]
    simp
   rw [e]
   cases gl with
   | false=>exact if_tt (s_ret (w_cst q))
   | true =>
    refine if_ff (s_nil ?_)
    have hi:(rs.map Row.av).length≤1000:=by simp; omega
    rw [hs rfl]
    unfold Zk9
    (repeat' (first|refine if_ff ?_|refine Zv2 hi ?_|refine s_ret ?_|refine w_cst ?_|refine w_loc (by first|rfl|assumption) ?_|refine w_sub ?_|refine w_neg ?_|refine w_cmp ?_|refine w_or ?_|refine Zg4 (by decide +kernel) ?_|refine if_ft ?_|refine Zf0 ?_|refine int_ex ?_|refine OB.of (by rfl) ?_|fail))
    exact q
 ·exact q
theorem Zv4 {n:Nat} {v:AV} (h:NoPg v):Z (fns tbl (n+4) Zj0 [v] H) 1 H:=by
 refine Zr7 (z_run rfl ?_)
 unfold Zlf
 refine z_seq1 (z_if (t_not (t_val (Zfv (w_cons (w_loc (v:=v) rfl (w_nil (h n H _ (Zf0 (if_tt ?_))))))))))
 exact Zhx (w_cst rfl)
theorem Zv5 {n:Nat} {v x y:AV} (h:NoPg v):Z (fns tbl (n+5) Zkc [v,x,y] H) 1 H:=by
 refine Zr9 (z_run rfl ?_)
 unfold Znb
 exact z_seq1 (z_expr (Zhy (w_cons (w_loc (v:=v) rfl (w_nil (Zv4 h))))))
theorem Zv6 {n:Nat} {one:Prog} (h1:one.Ok) {v y:AV} (h:NoPg v):Z (fns tbl (n+5) Zkc [one.av,v,y] H) 1 H:=by
 refine Zr9 (z_run rfl ?_)
 unfold Znb
 refine z_seq (s_expr (Zfv (w_cons (w_loc (v:=one.av) rfl (w_nil (Zt9 h1 ?_))))))
 unfold Zna
 exact z_seq1 (z_expr (Zhy (w_cons (w_loc (v:=v) rfl (w_nil (Zv4 h))))))
noncomputable def wdL (c:Nat):AV:=.lst [.str (if c=1 then Str.ofString "program" else Str.ofString "places"),.str "value"]
noncomputable def hdW (Φ:Fns):DS:=sSeq (sAsg 4 (dBin .add (dBin .rep (dLst [dCst (.str "program")]) (dInt (dIsiX (tab [(1,true),(3,false)]) (dLoc 3)))) (dBin .rep (dLst [dCst (.str "places")]) (dInt (dIsiX (tab [(1,false),(3,true)]) (dLoc 3)))))) (Zqi Φ)
theorem hd_1 {Φ:Fns} {σ:Loc}:hdW Φ (upd σ 3 (.exc 1)) H=.ok (.ret (wdL 1),upd (upd (upd σ 3 (.exc 1)) 4 (.lst [.str "program"])) 5 (.bool false)) H:=by kernel_rfl
theorem hd_3 {Φ:Fns} {σ:Loc}:hdW Φ (upd σ 3 (.exc 3)) H=.ok (.ret (wdL 3),upd (upd (upd σ 3 (.exc 3)) 4 (.lst [.str "places"])) 5 (.bool false)) H:=by kernel_rfl
theorem word_w {n c:Nat} (hc:c=1∨c=3) {a b d:AV} {H H':AH} (ht:H'.take H.length=H) (h:Z (fns tbl n Zkc [a,b,d] H) c H') (q:Q (wdL c) H):W (fns tbl (n+1) Zkv [a,b,d] H) Q:=by
 refine Zr6 (run_w rfl ?_)
 unfold Zqj
 refine s_seq (s_try2 (c:=c) (H₁:=H') (Zhy (w_cons (w_loc rfl (w_cons (w_loc rfl (w_cons (w_loc rfl (w_nil h)))))))) ?_ ?_)
 ·rcases hc with rfl|rfl <;> decide
 ·refine (?_:WS (hdW (fns tbl n) _ H') _ _)
  rcases hc with rfl|rfl
  ·rw [hd_1]; exact ⟨_,_,rfl,ht,_,rfl,q⟩
  ·rw [hd_3]; exact ⟨_,_,rfl,ht,_,rfl,q⟩
theorem am_rd {n:Nat} {a c:Int} {d:DS} {σ:Loc} (q:R (.bool (among 0 c (.int a))) H):WS (sSeq (sRet (amD (fns tbl (n+1)) a c)) d σ H) N R :=
 s_seq (s_ret (Zfv (w_cons (w_cst (w_cons (w_cst (w_cons (w_cst (w_nil (Zsr rfl q))))))))))
theorem Zv7 {n:Nat} (q:Q (.bool false) H):W (fns tbl (n+2) Zjy [.tup [.str "go",.int 1],.int 0,.int 1,.int 1] H) Q:=by
 refine Zq9 (run_w rfl ?_)
 refine (?_:WS (Zk6 (fns tbl (n+1)) (rσ (.go 1) 0 1 1) H) _ _)
 rw [rk_go]
 exact am_rd (Zgx rfl q)
theorem Zv8 {n:Nat} {b m k:Int} (q:Q (.bool (among 0 (b - 1) (.int 0))) H):W (fns tbl (n+2) Zjy [.tup [.str "tell",.int 0],.int b,.int m,.int k] H) Q:=by
 refine Zq9 (run_w rfl ?_)
 refine (?_:WS (Zk6 (fns tbl (n+1)) (rσ (.tell 0) b m k) H) _ _)
 rw [Zt2]
 exact am_rd (Zgx rfl q)
theorem Zv9 {Φ:Fns} {b m k:Int}:Zk6 Φ (args0 [.tup [.str "stop",.int 0],.int b,.int m,.int k] 0) H=.ok (.ret (.bool false),args0 [.tup [.str "stop",.int 0],.int b,.int m,.int k] 0) H:=by kernel_rfl
theorem Zwa {n:Nat} {b m k:Int} (q:Q (.bool false) H):W (fns tbl (n+2) Zjy [.tup [.str "stop",.int 0],.int b,.int m,.int k] H) Q:=by
 refine Zq9 (run_w rfl ?_)
 refine (?_:WS (Zk6 (fns tbl (n+1)) (args0 [.tup [.str "stop",.int 0],.int b,.int m,.int k] 0) H) _ _)
 rw [Zv9]
 exact ⟨_,_,rfl,Zgx rfl q⟩
theorem Row.Ok.more8 {b m k k':Int} (h:k≤k') {r:Row} (hr:r.Ok b m k):r.Ok b m k':=by
 cases r with
 | stop=>trivial
 | go j=>exact ⟨hr.1,Int.lt_of_lt_of_le hr.2 h⟩
 | more j=>exact hr
 | tell j=>exact hr
 | put j v=>exact hr
 | copy j v=>exact hr
 | ask j v=>exact ⟨hr.1,hr.2.1,Int.lt_of_lt_of_le hr.2.2 h⟩
theorem odd_pg {one:Prog} (h:one.Ok):∀ v∈([.tup [.int 0,.int 1,.lst [.tup [.str "go",.int 1]]],.none,.tup [.int one.boxes,.int one.most,.lst []],.tup [.int 4,.int one.most,.lst (one.rows.map Row.av)],.tup [.int one.boxes,.int 5,.lst (one.rows.map Row.av)]]++[.tup [.int one.boxes,.int one.most,.lst (one.rows.map Row.av++[.tup [.str "stop",.int 0]])],.tup [.int one.boxes,.int one.most,.tup (one.rows.map Row.av)]]++[.tup [.int one.boxes,.int one.most,.lst (cut (one.rows.map Row.av) (some 1) none++[.tup [.str "tell",.int 0]])]]:List AV),NoPg v:=by
 have hb:0≤one.boxes∧one.boxes≤3:=⟨h.b0,h.b3⟩
 have hm:1≤one.most∧one.most≤4:=⟨h.m1,h.m4⟩
 have r1:=h.r1
 have r16:=h.r16
 intro v hv
 simp only [List.mem_append,List.mem_cons,List.not_mem_nil,or_false] at hv
 rcases hv with ((rfl|rfl|rfl|rfl|rfl)|rfl|rfl)|rfl
 ·exact Zv3 (rs:=[]) (k:=1) ⟨by decide,by decide⟩ ⟨by decide,by decide⟩ rfl (by decide) (fun _ h=>nomatch h) (fun n H Q q=>Zv7 q) (fun h=>nomatch h)
 ·exact Zvw
 ·exact np_nil hb hm
 ·exact Zvx (.inr (by decide))
 ·exact Zvy hb (.inr (by decide))
 ·exact Zv3 (k:=one.rows.length+1) hb hm rfl (by exact Nat.lt_of_le_of_lt (by assumption) (by decide)) (fun r hr=>(h.ok r hr).more8 (by omega)) (fun n H Q q=>Zwa q) (fun h=>nomatch h)
 ·exact np_tup hb hm
 ·have e:cut (one.rows.map Row.av) (some 1) none=(one.rows.drop 1).map Row.av:=by
   show ((one.rows.map Row.av).take (one.rows.map Row.av).length).drop 1=_
   rw [List.take_of_length_le (Nat.le_refl _),List.map_drop]
  rw [e]
  exact Zv3 (k:=one.rows.length) hb hm (by rw [List.length_drop]; omega) (by exact Nat.le_trans (by assumption) (by decide)) (fun r hr=>h.ok r (List.mem_of_mem_drop hr)) (fun n H Q q=>Zv8 q) (fun _=>rfl)
theorem Zwb {l:List AV} {k:Int} {Q:AV→Prop} (h0:0≤k) (h1:k < l.length) (hl:l.length≤1000) (q:∀ v∈l,Q v):OB (subop H (.lst l) (.int k)) Q:=by
 have hlt:k.toNat < l.length:=by omega
 exact Zgr h0 (by omega) (List.getElem?_eq_getElem hlt) (q _ (List.getElem_mem hlt))
theorem Row.pln_of (r:Row) {n:Nat} (h:2≤n):Mine.pln n r.av=true:=by
 refine Zg7 _ h ?_
 cases r <;> exact Zg9 (by simp) (by
  intro v hv
  simp at hv
  first
   | (rcases hv with rfl|rfl|rfl <;> first|rfl|decide +kernel)
   | (rcases hv with rfl|rfl <;> first|rfl|decide +kernel)
   | (subst hv; decide +kernel))
theorem ov_pln (v:Option Int) {n:Nat}:pln (n+1) (ov v)=true:=by cases v <;> rfl
theorem Rule.pln_of {r:Rule} {b m M:Int} (h:r.Ok b m M) (hm:m≤100):Mine.pln 3 r.av=true:=by
 cases r with
 | is v =>
  refine Zg9 (by simp) ?_
  intro w hw
  simp at hw
  rcases hw with rfl|rfl
  ·decide +kernel
  ·exact ov_pln _
 | byBox b vs =>
  refine Zg9 (by simp) ?_
  intro v hv
  simp at hv
  rcases hv with rfl|rfl|rfl
  ·decide +kernel
  ·rfl
  ·refine Zg9 (by have:=h.2.1; simp; omega) ?_
   intro v hv
   obtain ⟨r,_,rfl⟩:=List.mem_map.mp hv
   exact ov_pln _
theorem Place.pln_of {one two:Prog} {p:Place} (hp:p.Ok one two) (h1:one.Ok) (h2:two.Ok):Mine.pln 5 p.av=true:=by
 have b3:=h2.b3
 have m4:=h1.m4
 have rl:=hp.rl
 refine Zg9 (by simp) ?_
 intro v hv
 simp at hv
 rcases hv with rfl|rfl|rfl
 ·rfl
 ·rfl
 ·refine Zg9 (by simp; omega) ?_
  intro v hv
  obtain ⟨r,hr,rfl⟩:=List.mem_map.mp hv
  exact r.pln_of (hp.ok r hr) (by omega)
theorem Zwc {one two:Prog} {ps:List Place} (hl:ps.length≤16) (hp:∀ p∈ps,p.Ok one two) (h1:one.Ok) (h2:two.Ok):Mine.pln 6 (.lst (ps.map Place.av))=true:=by
 refine Zha (by simp; omega) ?_
 intro v hv
 obtain ⟨p,hm,rfl⟩:=List.mem_map.mp hv
 exact p.pln_of (hp p hm) h1 h2
theorem Zwd {X:Type} {f:X→AV} (l:List X) (k:Int):cut (l.map f) none (some k)=(l.take k.toNat).map f:=by
 show ((l.map f).take k.toNat).drop 0=_
 rw [List.drop_zero,List.map_take]
noncomputable def NoPl (one two:Prog) (v:AV):Prop:=∀ (n:Nat) (H:AH) (Q:AV→AH→Prop),Q (.bool false) H→W (fns tbl (n+4) Zj4 [one.av,two.av,v] H) Q
noncomputable def isz:AV:=.tup [.str "is",.int 0]
section
variable {Φ:Fns} {H:AH} {a b x y z w:AV} {l:List AV}
theorem Zwe:Zl6 Φ (lσ a b .none) H=.ok (.ret (.bool false),lσ a b .none) H:=by kernel_rfl
theorem lk_lst:Zl6 Φ (lσ a b (.lst l)) H=.ok (.ret (.bool false),lσ a b (.lst l)) H:=by kernel_rfl
theorem lk_two:Zl6 Φ (lσ a b (.tup [x,y])) H=.ok (.ret (.bool false),lσ a b (.tup [x,y])) H:=by kernel_rfl
theorem Zwf:Zl6 Φ (lσ a b (.tup [x,y,z,w])) H=.ok (.ret (.bool false),lσ a b (.tup [x,y,z,w])) H:=by kernel_rfl
theorem lk_tl:Zl6 Φ (lσ a b (.tup [x,y,.lst l])) H=.ok (.ret (.bool false),lσ a b (.tup [x,y,.lst l])) H:=by kernel_rfl
end
theorem nl_of {one two:Prog} {v:AV} (e:∀ Φ H,Zl6 Φ (lσ one.av two.av v) H=.ok (.ret (.bool false),lσ one.av two.av v) H):NoPl one two v:=fun n H Q q=>by
 refine Zrf (run_w rfl ?_)
 refine (?_:WS (Zl6 (fns tbl (n+3)) (lσ one.av two.av v) H) _ _)
 rw [e]
 exact ⟨_,_,rfl,Zgx rfl q⟩
theorem nl_tt {one two:Prog} {x y:AV} {l:List AV} (h:∀ (n:Nat) (H:AH) (N:Loc→AH→Prop) (R:AV→AH→Prop),R (.bool false) H→WS (Zl5 (fns tbl (n+3)) (lσ one.av two.av (.tup [x,y,.tup l])) H) N R):NoPl one two (.tup [x,y,.tup l]):=fun n H Q q=>by
 refine Zrf (run_w rfl ?_)
 refine (?_:WS (Zl6 (fns tbl (n+3)) (lσ one.av two.av (.tup [x,y,.tup l])) H) _ _)
 rw [lk_tt]
 exact h n H _ _ (Zgx rfl q)
theorem am_out {lo hi i:Int} (h:i < lo∨hi < i):among lo hi (.int i)=false:=by
 show (decide _&&decide _)=false
 rw [Bool.and_eq_false_iff,decide_eq_false_iff_not,decide_eq_false_iff_not]
 omega
theorem nl_x {one two:Prog} (h1:one.Ok) (h2:two.Ok) {x y:AV} {l:List AV} (hx:nice x=true) (hy:nice y=true) (ex:among 0 ((one.rows.length:Int) - 1) x=false∨among 0 ((two.rows.length:Int) - 1) y=false):NoPl one two (.tup [x,y,.tup l]):=nl_tt fun n H N R q=>by
 refine nl_2 h1 h2 hx hy rfl rfl (fun _=>q) (fun h=>?_)
 refine e0a2' (Bool.and_eq_true_iff.mp h) fun e1 e2=>?_
 rcases ex with e|e
 ·rw [e] at e1; injection e1
 ·rw [e] at e2; injection e2
theorem nl_0 {one two:Prog} (h1:one.Ok) (h2:two.Ok) {l:List AV} (h:∀ (n:Nat) (H:AH) (N:Loc→AH→Prop) (R:AV→AH→Prop),R (.bool false) H→WS (Zl4 (fns tbl (n+3)) (lσ one.av two.av (.tup [.int 0,.int 0,.tup l])) H) N R):NoPl one two (.tup [.int 0,.int 0,.tup l]):=nl_tt fun n H N R q=>by
 have r1:=h1.r1
 have t1:=h2.r1
 exact nl_2 h1 h2 rfl rfl (am_in ⟨Int.le_refl _,by omega⟩) (am_in ⟨Int.le_refl _,by omega⟩) (fun e=>nomatch e) (fun _=>h n H N R q)
theorem nl_len {one two:Prog} (h1:one.Ok) (h2:two.Ok) {l:List AV} (hl:l.length≤1000) (hn:(l.length:Int)≠two.boxes):NoPl one two (.tup [.int 0,.int 0,.tup l]):=nl_0 h1 h2 fun n H N R q=>by
 unfold Zl4
 refine s_ret (w_and (w_cmp (Zfw (w_cons (w_sub (w_loc (v:=.tup [.int 0,.int 0,.tup l]) rfl (w_cst (OB.of (v:=.tup l) rfl (w_nil (Zho (by exact Nat.le_trans (by assumption) (by decide)) (w_sub (w_loc (v:=two.av) rfl (w_cst (OB.of (v:=.int two.boxes) rfl (ob_eqI (Zf0 ?_))))))))))))))))
 rw [decide_eq_false hn]
 exact if_ff q
theorem nl_r {one two:Prog} (h1:one.Ok) (h2:two.Ok) {k:Nat} (hk:(k:Int)+1=two.boxes) {bad:AV} (hb:∀ (n:Nat) (H:AH) (Q:AV→AH→Prop),Q (.bool false) H→W (fns tbl (n+3) Zj3 [one.av,two.av,bad] H) Q):NoPl one two (.tup [.int 0,.int 0,.tup (List.replicate k isz++[bad])]):=nl_0 h1 h2 fun n H N R q=>by
 have b3:=h2.b3
 have hl:(List.replicate k isz++[bad]).length=k+1:=by simp
 have e0:((List.replicate k true++[false]).map fun c:Bool=>if c=true then isz else bad)=List.replicate k isz++[bad]:=by
  rw [List.map_append,List.map_replicate]; rfl
 unfold Zl4
 refine s_ret (w_and (w_cmp (Zfw (w_cons (w_sub (w_loc (v:=.tup [.int 0,.int 0,.tup (List.replicate k isz++[bad])]) rfl (w_cst (OB.of (v:=.tup (List.replicate k isz++[bad])) rfl (w_nil (Zho (by omega) (w_sub (w_loc (v:=two.av) rfl (w_cst (OB.of (v:=.int two.boxes) rfl (ob_eqI (Zf0 ?_))))))))))))))))
 rw [hl,decide_eq_true (by assumption)]
 refine if_tt (Zfw (w_cons (Zg6 (f:=fun c:Bool=>if c=true then isz else bad) (P:=fun c x=>x=.bool c) (w_sub (w_loc (v:=.tup [.int 0,.int 0,.tup (List.replicate k isz++[bad])]) rfl (w_cst (OB.of (v:=.tup (List.replicate k isz++[bad])) rfl ⟨List.replicate k true++[false],by rw [e0]; rfl,by simp; omega,?_,?_⟩)))))))
 ·intro c _ H'
  cases c with
  | false=>exact Zfv (w_cons (w_loc (v:=one.av) rfl (w_cons (w_loc (v:=two.av) rfl (w_cons (w_loc (v:=bad) rfl (w_nil (hb n H' _ ⟨rfl,rfl,rfl⟩))))))))
  | true =>
   refine Zfv (w_cons (w_loc (v:=one.av) rfl (w_cons (w_loc (v:=two.av) rfl (w_cons (w_loc (v:=(Rule.is (some 0)).av) rfl (w_nil (Zuc h1 h2 ?_ ⟨rfl,rfl,rfl⟩))))))))
   intro i e
   obtain rfl:=inj e
   exact ⟨Int.le_refl _,Int.le_trans (by decide) h2.m1⟩
 ·intro ys ha
  refine w_nil (Zv0 (p:=fun c:Bool=>c) ha ?_)
  have e:((List.replicate k true++[false]).all fun c:Bool=>c)=false:=by simp
  rw [e]; exact q
theorem Zwg {n:Nat} {one two:Prog} {i:Int} (h:two.most < i) (q:Q (.bool false) H):W (fns tbl (n+3) Zj3 [one.av,two.av,.tup [.str "is",.int i]] H) Q:=by
 refine Zre (run_w rfl ?_)
 unfold Zl1
 have hn:∀ {n:Nat} {H:AH} {Q:AV→AH→Prop},Q (.bool false) H→W (fns tbl (n+2) Zj2 [two.av,.int i] H) Q:=fun q=>by
  refine Zrd (run_w rfl ?_)
  unfold Zlu
  (repeat' (first|refine if_tt ?_|refine if_ff ?_|refine Zvu (.inr h) ?_|refine s_ret ?_|fail))
  exact Zgx rfl q
 (repeat' (first|refine if_tt ?_|refine if_ff ?_|refine hn ?_|refine s_seq ?_|refine s_if ?_|refine s_ret ?_|refine s_nil ?_|refine w_cst ?_|refine w_loc (by first|rfl|assumption) ?_|refine Zfw ?_|refine w_cons ?_|refine w_nil ?_|refine w_sub ?_|refine t_cmp ?_|refine t_val ?_|refine t_not ?_|refine t_or ?_|refine Zg3 (by decide +kernel) ?_|refine Zf0 ?_|refine OB.of (by rfl) ?_|fail))
 exact Zgx rfl q
theorem Zwh {n:Nat} {one two:Prog} (h1:one.Ok) (q:Q (.bool false) H):W (fns tbl (n+3) Zj3 [one.av,two.av,.tup [.str "by",.int 0,.tup []]] H) Q:=by
 refine Zre (run_w rfl ?_)
 have m1:=h1.m1
 have f:=Zgx (H:=H) (v:=.bool false) rfl q
 refine (?_:WS (Zl1 (fns tbl (n+2)) (lσ (.tup [.int one.boxes,.int one.most,.lst (one.rows.map Row.av)]) two.av (.tup [.str "by",.int 0,.tup []])) H) _ _)
 rw [kr_by]
 refine s_seq (s_if (t_not (t_val (Zfv (w_cons (w_cst (w_cons (w_cst (w_cons (w_cst (w_nil (am_e rfl rfl (Zf0 ?_)))))))))))))
 cases among 0 (one.boxes - 1) (.int 0) with
 | false=>exact if_tt (s_ret (w_cst f))
 | true =>
  refine if_ff (s_nil ?_)
  unfold Zly
  (repeat' (first|refine if_tt ?_|refine if_ff ?_|exact f|refine s_seq ?_|refine s_if ?_|refine s_ret ?_|refine s_nil ?_|refine w_bin ?_|refine w_cst ?_|refine w_loc (by first|rfl|assumption) ?_|refine Zfw ?_|refine w_cons ?_|refine w_nil ?_|refine w_sub ?_|refine t_cmp ?_|refine t_val ?_|refine t_not ?_|refine t_or ?_|refine ob_add ?_|refine ob_neI ?_|refine Zfz (fun _=>?_) (fun _=>?_)|refine Zf0 ?_|refine OB.of (by rfl) ?_|fail))
  rename_i h
  exfalso; simp at h; omega
noncomputable def OddL (one two:Prog) (ps:List Place) (v:AV):Prop:=NoPl one two v∨∃ q:Place,v=q.av∧q.Ok one two∧∃ p∈ps,p.row=q.row
theorem Zwi {n:Nat} {one two:Prog} (h1:one.Ok) (h2:two.Ok) {ps:List Place} (h:POk one two ps) {v:AV} (hv:OddL one two ps v):∃ H',H'.take H.length=H∧Z (fns tbl (n+5) Zj5 [one.av,two.av,.lst (ps.map Place.av++[v])] H) 3 H':=by
 have hlen:=h.len
 have hL:(ps.map Place.av++[v]).length=ps.length+1:=by simp
 suffices hs:∃ H',H'.take H.length=H∧Z (sFor (.one 4) (dLoc 2) (Zl9 (fns tbl (n+4))) (upd (args0 [one.av,two.av,.lst (ps.map Place.av++[v])] 0) 3 (.ref H.length)) (H++[.dict []])) 3 H' by
  refine e1a2 hs fun H' ht z=>?_
  refine ⟨H',ht,Zr8 (z_run rfl ?_)⟩
  unfold Zmb
  refine z_seq (s_if ?_)
  (repeat' (first|refine Zv1 hL (by exact Nat.lt_of_le_of_lt (by assumption) (by decide)) ?_|refine s_nil ?_|refine w_cst ?_|refine w_loc (by first|rfl|assumption) ?_|refine Zfw ?_|refine w_cons ?_|refine w_nil ?_|refine t_cmp ?_|refine if_dec (fun _=>?_) (fun _=>?_)|refine OB.of (by rfl) ?_|fail))
  ·rename_i h
   exfalso; omega
  refine z_seq (s_asg (w_newD ?_))
  unfold Zma
  exact z_seq1 z
 refine z_for (w_loc rfl ⟨_,rfl,?_⟩)
 refine Zh4 (I:=fun r σ H'=>σ 0=some one.av∧σ 1=some two.av∧σ 3=some (.ref H.length)∧∃ dn rest,ps=dn++rest∧r=rest.map Place.av++[v]∧H'=H++[.dict (dn.map fun p=>(p.row,AV.bool true))]) ?_ ?_ _ _ _ ⟨rfl,rfl,rfl,[],ps,rfl,rfl,rfl⟩
 ·intro w r σ H' hh
  refine Zan hh fun s0 s1 s3 dn rest e er eZ7=>?_; subst eZ7
  refine ⟨_,rfl,?_⟩
  unfold Zl9
  cases rest with
  | nil =>
   injection er with e1 e2
   subst e1
   refine .inl ⟨H++[.dict (dn.map fun p=>(p.row,AV.bool true))],Zf9 _ _,?_⟩
   refine z_seq1 (z_if ?_)
   rcases hv with hv|⟨p,rfl,hp,hin⟩
   ·refine t_or (t_not (t_val (Zfv (w_cons (w_loc (v:=one.av) s0 (w_cons (w_loc (v:=two.av) s1 (w_cons (w_loc (v:=w) rfl (w_nil (hv n _ _ (Zf0 (if_tt (if_tt (Zhx (w_cst rfl))))))))))))))))
   ·refine t_or (t_not (t_val (Zfv (w_cons (w_loc (v:=one.av) s0 (w_cons (w_loc (v:=two.av) s1 (w_cons (w_loc (v:=p.av) rfl (w_nil (Zud h1 h2 hp (Zf0 (if_ff ?_)))))))))))))
    refine t_val (w_hasI (w_sub (w_loc (v:=p.av) rfl (w_cst (OB.of (v:=.int p.row) rfl (w_loc (v:=.ref H.length) s3 (Zh2 (k:=p.row) ?_)))))))
    have look:(lookD (dn.map fun p=>(p.row,AV.bool true)) p.row).isSome=true:=by
     unfold lookD
     rw [Option.isSome_map,List.find?_isSome]
     refine e1a2 hin fun p' hm er'=>?_
     rw [e,List.append_nil] at hm
     exact ⟨_,List.mem_map_of_mem hm,decide_eq_true er'⟩
    rw [look]
    exact Zf0 (if_tt (Zhx (w_cst rfl)))
  | cons p rest =>
   injection er with e1 e2
   subst e1
   have hp:p∈ps:=by rw [e]; simp
   have hdl:dn.length≤16:=by have:=congrArg List.length e; simp at this; omega
   have hnew:((dn.map fun p=>(p.row,AV.bool true)).any fun x=>decide (x.1=p.row))=false:=by
    rw [List.any_eq_false]
    intro x hx hk
    refine e1a2 (List.mem_map.mp hx) fun p' hp' eZ2=>?_; subst eZ2
    have hn:=h.nd
    rw [e,List.map_append,List.nodup_append] at hn
    exact hn.2.2 p'.row (List.mem_map_of_mem hp') p.row (by simp) (of_decide_eq_true hk)
   have look:(lookD (dn.map fun p=>(p.row,AV.bool true)) p.row).isSome=false:=by
    unfold lookD
    rw [Option.isSome_map]
    rw [List.any_eq_false] at hnew
    have:List.find? (fun q=>decide (q.1=p.row)) (dn.map fun p=>(p.row,AV.bool true))=none:=List.find?_eq_none.mpr hnew
    rw [this]; rfl
   have hput:putD (dn.map fun p=>(p.row,AV.bool true)) p.row (.bool true)=(dn++[p]).map fun p=>(p.row,AV.bool true):=by
    unfold putD
    rw [hnew]
    simp
   refine .inr ?_
   (repeat' (first|refine Zud h1 h2 (h.ok p hp) ?_|refine s_seq ?_|refine s_if ?_|refine w_cst ?_|refine w_loc (by first|rfl|assumption) ?_|refine Zfv ?_|refine w_cons ?_|refine w_nil ?_|refine w_sub ?_|refine w_hasI ?_|refine t_val ?_|refine t_not ?_|refine t_or ?_|refine if_ff ?_|refine Zf0 ?_|refine OB.of (by rfl) ?_|fail))
   refine Zh2 (k:=p.row) ?_
   rw [look]
   (repeat' (first|refine Zh3 (k:=p.row) (by simp; exact Nat.le_trans (by assumption) (by decide)) ?_|refine s_nil ?_|refine w_cst ?_|refine w_loc (by first|rfl|assumption) ?_|refine w_sub ?_|refine s_putI ?_|refine if_ff ?_|refine Zf0 ?_|refine OB.of (by rfl) ?_|fail))
   exact ⟨s0,s1,s3,dn++[p],rest,by rw [e]; simp,e2,by rw [hput]⟩
 ·intro σ H' hh
  refine Zan hh fun _ _ _ dn rest _ er _=>?_
  have:=congrArg List.length er
  simp at this
theorem Zwj {n:Nat} {one two:Prog} (h1:one.Ok) (h2:two.Ok) {ps:List Place} (h:POk one two ps) {v:AV} (hv:OddL one two ps v):∃ H',H'.take H.length=H∧Z (fns tbl (n+6) Zkc [one.av,two.av,.lst (ps.map Place.av++[v])] H) 3 H':=by
 refine e1a2 (Zwi (n:=n) h1 h2 h hv (H:=H)) fun H' ht z=>?_
 refine ⟨H',ht,Zr9 (z_run rfl ?_)⟩
 unfold Znb
 refine z_seq (s_expr (Zfv (w_cons (w_loc (v:=one.av) rfl (w_nil (Zt9 h1 ?_))))))
 unfold Zna
 refine z_seq (s_expr (Zfv (w_cons (w_loc (v:=two.av) rfl (w_nil (Zt9 h2 ?_))))))
 unfold Zm9
 exact z_seq1 (z_expr (Zhy (w_cons (w_loc rfl (w_cons (w_loc rfl (w_cons (w_loc rfl (w_nil z)))))))))
theorem Zwk {v:AV} {l:List AV} (h:pln 12 (.lst (v::l))=true) {Q:Bool→Prop} (q:Q true):OB (cmpop H .ne (.lst (v::l)) (.lst [])) Q:=by
 refine e0a2' (Zhb (n:=11) h) fun _ hp=>?_
 refine e1a3 (Zhc (H:=H) (fun v hv=>Zhd 11 v hv) hp) fun ds e h2 h3=>?_
 refine e1a3 (Zhd (H:=H) 12 _ h) fun d hd c1 c2=>?_
 have ed:data H 12 (.lst (v::l))=some (.list ds):=by
  show ((v::l).mapM (data H 11)).map PyData.list=_
  rw [e]; rfl
 obtain rfl:=inj (ed.symm.trans hd)
 cases ds with
 | nil =>
  exfalso
  rw [List.mapM_cons] at e
  cases hv:data H 11 v with
  | none=>rw [hv] at e; injection e
  | some a =>
   rw [hv] at e
   cases hm:l.mapM (data H 11) with
   | none=>rw [hm] at e; injection e
   | some r=>rw [hm] at e; injection (inj e)
 | cons a r =>
  have hs:SeqAt.shaped (.list (a::r))=true:=by
   unfold SeqAt.shaped
   rw [c1]
   simp; exact Nat.le_trans (by assumption) (by decide)
  have e0:SeqAt.shaped (.list [])=true:=by decide +kernel
  refine ⟨true,?_,q⟩
  have key:eqD H (.lst (v::l)) (.lst [])=some false:=by
   unfold eqD
   rw [ed]
   show (if (SeqAt.shaped (.list (a::r))&&SeqAt.shaped (.list []))=true then some (PyData.eqv (.list (a::r)) (.list [])) else none)=_
   rw [hs,e0]
   rfl
  unfold cmpop
  simp only [key]
  rfl
theorem op_1 {n:Nat} {c:Int} {L:List AV} {σ:Loc} (s3:σ 3=some (.int c)) (s5:σ 5=some (.lst L)) (h0:1≤L.length) (hl:L.length≤100) (hR:∀ v∈L,R v H):WS (Zp9 (fns tbl n) σ H) N R:=by
 unfold Zp9
 have m:=fm c (b:=(L.length:Int)) (by omega)
 exact s_ret (w_sub (w_loc s5 (w_bin (w_loc s3 (Zfw (w_cons (w_loc s5 (w_nil (Zhp (by exact Nat.le_trans (by assumption) (by decide)) (ob_mod (by omega) (Zwb m.1 m.2 (by exact Nat.le_trans (by assumption) (by decide)) hR)))))))))))
theorem Zwl {one two:Prog} (h1:one.Ok) (h2:two.Ok) {ps:List Place} {p:Place} (hp:p∈ps) (ho:p.Ok one two):OddL one two ps (.tup ([.int p.row]++[.int 0,.tup (List.replicate two.boxes.toNat isz)])):=by
 have b0:=h2.b0
 have t1:=h2.r1
 refine .inr ⟨⟨p.row,0,List.replicate two.boxes.toNat (.is (some 0))⟩,?_,⟨ho.r0,ho.r1,Int.le_refl _,?_,?_,?_⟩,p,hp,rfl⟩
 ·show AV.tup [.int p.row,.int 0,_]=AV.tup [.int p.row,.int 0,_]
  rw [List.map_replicate]; rfl
 ·show (0:Int) < (two.rows.length:Int); omega
 ·rw [List.length_replicate]; omega
 ·intro r hr
  rw [List.eq_of_mem_replicate hr]
  intro i e
  obtain rfl:=inj e
  exact ⟨Int.le_refl _,Int.le_trans (by decide) h2.m1⟩
theorem op_2 {n:Nat} {one two:Prog} (h1:one.Ok) (h2:two.Ok) {ps:List Place} (hp:POk one two ps) {c:Int} {L:List AV} {σ:Loc} (s2:σ 2=some (.lst (ps.map Place.av))) (s3:σ 3=some (.int c)) (s4:σ 4=some (.tup (List.replicate two.boxes.toNat isz))) (s5:σ 5=some (.lst L)) (h0:1≤L.length) (hl:L.length≤12) (hL:∀ v∈L,OddL one two ps v) (hR:∀ v,OddL one two ps v→R v H):WS (Zqa (fns tbl n) σ H) N R:=by
 have b3:=h2.b3
 have rl:(List.replicate two.boxes.toNat isz).length≤3:=by rw [List.length_replicate]; omega
 unfold Zqa
 cases ps with
 | nil=>exact s_seq (s_if (t_cmp (w_loc s2 (w_lst (w_nil ⟨false,by kernel_rfl,if_ff (s_nil (op_1 s3 s5 h0 (by exact Nat.le_trans (by assumption) (by decide)) fun v hv=>hR v (hL v hv)))⟩)))))
 | cons p ps =>
  have pl:=Zg7 (k:=12) _ (by decide) (Zwc hp.len hp.ok h1 h2)
  refine s_seq (s_if (t_cmp (w_loc s2 (w_lst (w_nil (Zwk pl (if_tt ?_)))))))
  have ho:=hp.ok p List.mem_cons_self
  refine s_asg (w_bin (w_loc s5 (w_lst (w_cons (w_sub (w_loc s2 (w_cst (OB.of (v:=p.av) rfl (w_cons (w_bin ?_))))))))))
  refine w_slc (w_sub (w_loc s2 (w_cst (OB.of (v:=p.av) rfl (p_none (p_some (w_cst ⟨1,rfl,Zhi rfl (show 3≤1000000 by decide) ?_⟩)))))))
  refine w_tup (w_cons (w_cst (w_cons (w_loc s4 (w_nil ?_)))))
  refine ob_cat (a:=[.int p.row]) (b:=[.int 0,.tup (List.replicate two.boxes.toNat isz)]) (Nat.le_of_ble_eq_true rfl) (w_nil (Zhz (Nat.le_trans (Nat.add_le_add_right hl 2) (by decide)) ?_))
  refine op_1 (σ:=upd σ 5 _) s3 rfl (by simp) (by simp; exact Nat.le_trans (by assumption) (by decide)) fun v hv=>hR v ?_
  simp only [List.mem_append,List.mem_cons,List.not_mem_nil,or_false] at hv
  rcases hv with hv|rfl|rfl
  ·exact hL v hv
  ·exact .inr ⟨p,rfl,ho,p,List.mem_cons_self,rfl⟩
  ·exact Zwl h1 h2 List.mem_cons_self ho
theorem op_3 {n:Nat} {one two:Prog} (h1:one.Ok) (h2:two.Ok) {ps:List Place} (hp:POk one two ps) {c:Int} {A B:List AV} {σ:Loc} (s1:σ 1=some two.av) (s2:σ 2=some (.lst (ps.map Place.av))) (s3:σ 3=some (.int c)) (s4:σ 4=some (.tup (List.replicate two.boxes.toNat isz))) (s5:σ 5=some (.lst (A++B))) (hA:A.length=10) (hB:B.length=2) (oA:∀ v∈A,OddL one two ps v) (oB:0 < two.boxes→∀ v∈B,OddL one two ps v) (hR:∀ v,OddL one two ps v→R v H):WS (Zqb (fns tbl n) σ H) N R:=by
 have b0:=h2.b0
 unfold Zqb
 refine s_seq (s_if (t_cmp (w_sub (w_loc s1 (w_cst (OB.of (v:=.int two.boxes) rfl (w_cst (ob_eqI ?_))))))))
 by_cases e:two.boxes=0
 ·rw [decide_eq_true e]
  refine if_tt (s_asg (w_slc (w_loc s5 (p_none (p_some (w_cst ⟨10,rfl,Zhj rfl (by simp; omega) ?_⟩))))))
  have ec:cut (A++B) none (some 10)=A:=by
   show ((A++B).take 10).drop 0=_
   rw [← hA,List.take_left,List.drop_zero]
  rw [ec]
  exact op_2 (σ:=upd σ 5 _) h1 h2 hp s2 s3 s4 rfl (by omega) (by omega) oA hR
 ·rw [decide_eq_false e]
  refine if_ff (s_nil (op_2 h1 h2 hp s2 s3 s4 s5 (by simp; omega) (by simp; omega) ?_ hR))
  intro v hv
  rcases List.mem_append.mp hv with hv|hv
  ·exact oA v hv
  ·exact oB (by omega) v hv
theorem Zwm (l:List AV):cut l (some 1) none=l.drop 1:=by
 show (l.take l.length).drop 1=_
 rw [List.take_of_length_le (Nat.le_refl _)]
theorem Zwn {v:AV} {k:Nat}:(List.replicate k [v]).flatten=List.replicate k v:=by
 induction k with
 | zero=>rfl
 | succ k ih=>rw [List.replicate_succ,List.flatten_cons,ih]; rfl
section
variable {σ:Loc} {H:AH} {Φ:Fns} {a b d:DE} {ds:List DE} {v:AV} {vs l k:List AV}
theorem w_ok (e:d σ H=.ok v H) (q:Q v H):W (d σ H) Q:=⟨v,H,e,q⟩
theorem ea_nil:dEach [] σ H=.ok [] H:=rfl
theorem Zwo (e:d σ H=.ok v H) (r:dEach ds σ H=.ok vs H):dEach (d::ds) σ H=.ok (v::vs) H:=by
 show ((d σ H).bind fun v H₁=>(dEach ds σ H₁).bind fun vs H₂=>.ok (v::vs) H₂)=_
 rw [e]
 show ((dEach ds σ H).bind fun vs H₂=>.ok (v::vs) H₂)=_
 rw [r]; rfl
theorem vloc {i:Nat} (s:σ i=some v):dLoc i σ H=.ok v H:=by
 unfold dLoc
 rw [s]
theorem vsub {i:Int} {u:AV} (h:a σ H=.ok v H) (e:subop H v (.int i)=some u):dSub a (dCst (.int i)) σ H=.ok u H:=by
 show ((a σ H).bind fun x H₁=>toR H₁ (subop H₁ x (.int i)))=_
 rw [h]
 show toR H (subop H v (.int i))=_
 rw [e]; rfl
theorem vlst (h:dEach ds σ H=.ok vs H):dLst ds σ H=.ok (.lst vs) H:=by
 show ((dEach ds σ H).bind _)=_
 rw [h]; rfl
theorem vtup (h:dEach ds σ H=.ok vs H):dTup ds σ H=.ok (.tup vs) H:=by
 show ((dEach ds σ H).bind _)=_
 rw [h]; rfl
theorem v1 {f:AV→Option AV} (h:a σ H=.ok v H) {n:BI} (e:appBI H n [v]=f v) {u:AV} (g:f v=some u):dCall Φ (dCst (.bi n)) [a] σ H=.ok u H:=by
 show ((dEach [a] σ H).bind fun vs H₂=>toR H₂ (appBI H₂ n vs))=_
 rw [Zwo h ea_nil]
 show toR H (appBI H n [v])=_
 rw [e,g]; rfl
theorem vlen {X:Type} {f:X→AV} {r:List X} (h:a σ H=.ok (.lst (r.map f)) H) (hl:r.length≤1000000):dCall Φ (dCst (.bi .len)) [a] σ H=.ok (.int r.length) H :=
 v1 (f:=lenOp H) h rfl (by
  show (if (r.map f).length≤1048576 then some (AV.int (r.map f).length) else none)=_
  rw [List.length_map,if_pos (Nat.le_trans hl (by decide))])
theorem vlist (h:a σ H=.ok (.tup l) H) (hl:l.length≤1000000):dCall Φ (dCst (.bi .list)) [a] σ H=.ok (.lst l) H :=
 v1 (f:=listOp H) h rfl (if_pos (Nat.le_trans hl (by decide)))
theorem vtupL (h:a σ H=.ok (.lst l) H) (hl:l.length≤1000000):dCall Φ (dCst (.bi .tuple)) [a] σ H=.ok (.tup l) H :=
 v1 (f:=tupOp H) h rfl (if_pos (Nat.le_trans hl (by decide)))
theorem v2 {op:BOp} {x y u:AV} (ha:a σ H=.ok x H) (hb:b σ H=.ok y H) (e:binop H op x y=some u):dBin op a b σ H=.ok u H:=by
 show ((a σ H).bind fun x H₁=>(b σ H₁).bind fun y H₂=>toR H₂ (binop H₂ op x y))=_
 rw [ha]
 show ((b σ H).bind fun y H₂=>toR H₂ (binop H₂ op x y))=_
 rw [hb]
 show toR H (binop H op x y)=_
 rw [e]; rfl
theorem vcat (ha:a σ H=.ok (.tup l) H) (hb:b σ H=.ok (.tup k) H) (hl:l.length+k.length≤1000000):dBin .add a b σ H=.ok (.tup (l++k)) H:=v2 ha hb (if_pos (Nat.le_trans hl (by decide)))
theorem vcatL (ha:a σ H=.ok (.lst l) H) (hb:b σ H=.ok (.lst k) H) (hl:l.length+k.length≤1000000):dBin .add a b σ H=.ok (.lst (l++k)) H:=v2 ha hb (if_pos (Nat.le_trans hl (by decide)))
theorem vcutL (ha:a σ H=.ok (.lst l) H) (hl:l.length≤1000000):dSl a (some (dCst (.int 1))) none σ H=.ok (.lst (cut l (some 1) none)) H:=by
 obtain ⟨u,H',e,q⟩:=w_slc (Q:=fun v H'=>v=.lst (cut l (some 1) none)∧H'=H) (w_ok ha (p_some (w_cst ⟨1,rfl,p_none (Zhj rfl hl ⟨rfl,rfl⟩)⟩)))
 rw [e,q.1,q.2]
theorem vcut (ha:a σ H=.ok (.tup l) H) (hl:l.length≤1000000):dSl a (some (dCst (.int 1))) none σ H=.ok (.tup (cut l (some 1) none)) H:=by
 obtain ⟨u,H',e,q⟩:=w_slc (Q:=fun v H'=>v=.tup (cut l (some 1) none)∧H'=H) (w_ok ha (p_some (w_cst ⟨1,rfl,p_none (Zhi rfl hl ⟨rfl,rfl⟩)⟩)))
 rw [e,q.1,q.2]
end
theorem Zwp {n:Nat} {one two:Prog} (h1:one.Ok) (h2:two.Ok) {ps:List Place} (hp:POk one two ps) {c:Int} (q:∀ v,OddL one two ps v→Q v H):W (fns tbl (n+1) Zku [one.av,two.av,.lst (ps.map Place.av),.int c] H) Q:=by
 refine Zr5 (run_u rfl ?_)
 unfold Zqf
 have b0:=h2.b0
 have b3:=h2.b3
 have r16:=h1.r16
 have t16:=h2.r16
 have zl:(List.replicate two.boxes.toNat isz).length=two.boxes.toNat:=by simp
 refine s_seq (s_asg (Zfw (w_cons (w_bin (w_lst (w_cons (w_tup (w_cons (w_cst (w_cons (w_cst (w_nil (w_nil (w_sub (w_loc (v:=two.av) rfl (w_cst (OB.of (v:=.int two.boxes) rfl (ob_rep ⟨by simp; exact Int.le_trans (by assumption) (by decide),by omega,by exact Int.le_trans (by assumption) (by decide)⟩ (w_nil ?_)))))))))))))))))))
 rw [Zwn]
 refine Zgt (l:=List.replicate two.boxes.toNat isz) (by omega) ?_
 have e1:cut (List.replicate two.boxes.toNat isz) (some 1) none=List.replicate (two.boxes.toNat - 1) isz:=by rw [Zwm,List.drop_replicate]
 have el:(cut (List.replicate two.boxes.toNat isz) (some 1) none).length≤3:=by rw [e1,List.length_replicate]; omega
 have zl3:(List.replicate two.boxes.toNat isz).length≤3:=by rw [zl]; omega
 unfold Zqe
 refine s_seq (s_asg (w_ok (vlst (Zwo rfl (Zwo rfl (Zwo rfl (Zwo (vtup (Zwo (vlen (f:=Row.av) rfl (Nat.le_trans r16 (by decide))) (Zwo rfl (Zwo rfl ea_nil)))) (Zwo (vtup (Zwo rfl (Zwo (vlen (f:=Row.av) rfl (Nat.le_trans t16 (by decide))) (Zwo rfl ea_nil)))) (Zwo rfl ea_nil))))))) ?_))
 unfold Zqd
 refine s_seq (s_asg (w_ok (vcatL rfl (vlst (Zwo (vtup (Zwo rfl (Zwo rfl (Zwo (vlist rfl (Nat.le_trans zl3 (by decide))) ea_nil)))) (Zwo (vtup (Zwo rfl (Zwo rfl (Zwo (vcat rfl rfl (Nat.le_trans (Nat.add_le_add_right zl3 1) (by decide))) ea_nil)))) (Zwo rfl (Zwo rfl ea_nil))))) (Nat.le_of_ble_eq_true rfl)) ?_))
 unfold Zqc
 refine s_seq (s_asg (w_ok (vcatL rfl (vlst (Zwo (vtup (Zwo rfl (Zwo rfl (Zwo (vcat (vcut rfl (Nat.le_trans zl3 (by decide))) rfl (Nat.le_trans (Nat.add_le_add_right el 1) (by decide))) ea_nil)))) (Zwo (vtup (Zwo rfl (Zwo rfl (Zwo (vcat (vcut rfl (Nat.le_trans zl3 (by decide))) rfl (Nat.le_trans (Nat.add_le_add_right el 1) (by decide))) ea_nil)))) ea_nil))) (Nat.le_of_ble_eq_true rfl)) ?_))
 refine op_3 h1 h2 hp rfl rfl rfl rfl rfl rfl rfl ?_ ?_ q
 ·refine fun v hv=>(List.mem_append.mp hv).elim ?_ ?_
  ·exact alc (P:=OddL one two ps) (.inl (nl_of fun _ _=>Zwe)) (alc (.inl (nl_of fun _ _=>lk_two)) (alc (.inl (nl_of fun _ _=>lk_lst)) (alc (.inl (nl_x h1 h2 rfl rfl (.inl (am_out (.inr (Int.sub_lt_self _ (by decide))))))) (alc (.inl (nl_x h1 h2 rfl rfl (.inr (am_out (.inr (Int.sub_lt_self _ (by decide))))))) (alc (.inl (nl_x h1 h2 rfl rfl (.inl (am_out (.inl (by decide)))))) al0))))) v
  ·exact alc (P:=OddL one two ps) (.inl (nl_of fun _ _=>lk_tl)) (alc (.inl (nl_len h1 h2 (Nat.le_trans (by rw [List.length_append]; exact Nat.add_le_add_right zl3 1) (by decide)) (by rw [List.length_append,zl]; show ((two.boxes.toNat+1:Nat):Int)≠_; omega))) (alc (.inl (nl_x h1 h2 rfl rfl (.inl rfl))) (alc (.inl (nl_of fun _ _=>Zwf)) al0))) v
 ·intro hb
  rw [e1]
  exact alc (P:=OddL one two ps) (.inl (nl_r h1 h2 (by omega) fun n H Q q=>Zwg (by omega) q)) (alc (.inl (nl_r h1 h2 (by omega) fun n H Q q=>Zwh h1 q)) al0)
noncomputable def RL (v:AV) (H₁:AH):Prop:=H₁.take 0=[]∧OB (freeze 0 H₁ 12 v) fun v'=>v'=.bool true
noncomputable def NL (_:Loc) (H₁:AH):Prop:=H₁.take 0=[]∧AV.none=.bool true
theorem RL.tt:RL (.bool true) H:=⟨rfl,_,rfl,rfl⟩
noncomputable def bsV (P:Prog):AV:=.lst ((bsL P.most P.boxes.toNat).map nums)
theorem bs_few {P:Prog} (h:P.Ok):(bsL P.most P.boxes.toNat).length≤125:=by
 have h3:P.boxes.toNat≤3:=by have:=h.b3; omega
 exact Nat.le_trans (bs_len h.m4 _) (Nat.le_trans (Nat.pow_le_pow_right (by decide) h3) (by decide))
theorem Zwq {P:Prog} (h:P.Ok):∀ xs∈bsL P.most P.boxes.toNat,xs.length≤3:=fun xs hx=>by
 have:=(bs_ok _ xs hx).1
 have:=h.b3
 omega
theorem bs_pln {P:Prog} (h:P.Ok):pln 12 (bsV P)=true:=by
 refine Zha (by rw [List.length_map]; exact Nat.le_trans (bs_few h) (by decide)) ?_
 intro v hv
 refine e1a2 (List.mem_map.mp hv) fun xs hx eZ2=>?_; subst eZ2
 refine Zg9 (by rw [List.length_map]; exact Nat.le_trans (Zwq h xs hx) (by decide)) ?_
 intro v hv
 refine e1a2 (List.mem_map.mp hv) fun i _ eZ2=>?_; subst eZ2
 rfl
theorem Zwr {r:Nat} {l:List AV} (h:H[r]?=some (.list l)):data H 12 (.ref r)=data H 12 (.lst l):=Zhh h
theorem Zws {r:Nat} {l:List AV} (h:H[r]?=some (.list l)) {Q:AV→Prop} (q:Q (.bool true)):OB (appBI H .isinstance [.ref r,.bi .list]) Q:=by
 refine ⟨_,?_,q⟩
 show (isiOp H (.ref r) .list).map AV.bool=_
 unfold isiOp
 rw [kd_ref h]; rfl
theorem Zwt {r:Nat} {l:List AV} (h:H[r]?=some (.list l)) (hl:l.length≤1000) {Q:AV→Prop} (q:Q (.lst l)):OB (appBI H .list [.ref r]) Q:=by
 refine ⟨_,?_,q⟩
 show listOp H (.ref r)=_
 unfold listOp
 have:listOf? H (.ref r)=some l:=by
  show (match H[r]? with|some (.list l)=>some l|_=>none)=_
  rw [h]
 simp only [this]
 rw [if_pos (by exact Nat.le_trans (by assumption) (by decide))]
theorem ob_clr {r:Nat} {l:List AV} (h:H[r]?=some (.list l)) (hl:l.length≤1000) {Q:AH→Prop} (q:Q (H.set r (.list []))):OB (setAt H (.ref r) (clrM [])) Q:=by
 refine ⟨_,?_,q⟩
 unfold setAt
 simp only [h]
 show (if l.length≤1000000 then some ([]:List AV) else none).map _=_
 rw [if_pos (by exact Nat.le_trans (by assumption) (by decide))]; rfl
theorem isL_at {r:Nat} {l:List AV} (h:H[r]?=some (.list l)):isL H (.ref r)=true:=by
 unfold isL
 simp only [h]
noncomputable def kept8 (one two:Prog) (ps:List Place):AV:=.lst [.lst (one.rows.map Row.av),.lst (two.rows.map Row.av),.lst (ps.map Place.av)]
theorem Zwu {P:Prog} (h:P.Ok):pln 11 (.lst (P.rows.map Row.av))=true:=by
 have r16:=h.r16
 refine Zha (by simp; exact Nat.le_trans (by assumption) (by decide)) ?_
 intro v hv
 refine e1a2 (List.mem_map.mp hv) fun r _ eZ2=>?_; subst eZ2
 exact r.pln_of (by decide)
theorem Zwv {one two:Prog} (h1:one.Ok) (h2:two.Ok) {ps:List Place} (hp:POk one two ps):pln 12 (kept8 one two ps)=true:=by
 refine Zha (by simp) ?_
 intro v hv
 simp only [List.mem_cons,List.not_mem_nil,or_false] at hv
 rcases hv with rfl|rfl|rfl
 ·exact Zwu h1
 ·exact Zwu h2
 ·exact Zg7 _ (by decide) (Zwc hp.len hp.ok h1 h2)
noncomputable def Safe8 (one:Prog) (ps:List Place) (b:Bool):Prop:=b=true ↔ ∀ xs,NumsOk one xs→∀ k t,(runS one k (some (0,xs))).2=some t→(metGo one ps 2001 [] (some t)).bad=false
structure E8 (one two:Prog) (ps:List Place) (b:Bool) (σ:Loc) (H:AH):Prop where
 s1:σ 1=some one.av
 s2:σ 2=some two.av
 s3:σ 3=some (.lst (ps.map Place.av))
 s9:σ 9=some (.ref 0)
 s10:σ 10=some (.bool b)
 s11:σ 11=some (kept8 one two ps)
 hj:H[0]?=some (.dict (rtL ps))
section
variable {one two:Prog} (h1:one.Ok) (h2:two.Ok) {ps:List Place} (hp:POk one two ps) {b:Bool} (hb:Safe8 one ps b) {σ:Loc} {H:AH}
include h1 h2 hp hb
theorem st9 (e:E8 one two ps b σ H) {v:AV} (s12:σ 12=some v) (hv:LookR one ps v):WS (Zqs (fns tbl 11) σ H) NL RL:=by
 refine s_ret (w_and (Zfv (w_cons (w_loc e.s1 (w_cons (w_loc e.s9 (w_cons (w_loc s12 (w_cons (w_loc e.s10 (w_nil (Zvr (n:=6) h1 h2 hp.ok e.hj (rt_of ps) hv hb (Zf0 (if_tt ?_))))))))))))))
 refine w_cmp (w_loc e.s11 (w_lst (w_cons (w_sub (w_loc e.s1 (w_cst (OB.of rfl (w_cons (w_sub (w_loc e.s2 (w_cst (OB.of rfl (w_cons (w_loc e.s3 (w_nil ?_)))))))))))))))
 exact Zhf (a:=kept8 one two ps) (b:=kept8 one two ps) (Zwv h1 h2 hp) rfl RL.tt
theorem st10 (e:E8 one two ps b σ H):WS (Zqt (fns tbl 11) σ H) NL RL:=by
 refine s_seq (s_asg (Zfv (w_cons (w_loc e.s1 (w_cons (w_loc e.s2 (w_cons (w_loc e.s3 (w_nil (Zu8 (n:=5) h1 h2 hp fun v hv=>?_))))))))))
 exact st9 h1 h2 hp hb ⟨e.s1,e.s2,e.s3,e.s9,e.s10,e.s11,e.hj⟩ rfl hv
theorem at_app {X:AH} {i:Nat} {o:AO} (h:H[i]?=some o):(H++X)[i]?=some o:=by
 rw [List.getElem?_append_left (List.getElem?_eq_some_iff.mp h).1]; exact h
theorem st11 (e:E8 one two ps b σ H) (s14:σ 14=some (bsV one)):WS (Zqu (fns tbl 11) σ H) NL RL:=by
 refine s_seq (s_if (t_cmp (Zfv (w_cons (w_loc e.s1 (w_nil (Zu4 (n:=10) h1 fun r X _ hr=>w_loc s14 ?_)))))))
 refine Zhg (bs_pln h1) (Zwr hr) (if_ff (s_nil ?_))
 exact st10 h1 h2 hp hb ⟨e.s1,e.s2,e.s3,e.s9,e.s10,e.s11,at_app h1 h2 hp hb e.hj⟩
theorem st12 (e:E8 one two ps b σ H) {r:Nat} (h0:0 < r) (hr:H[r]?=some (.list ((bsL one.most one.boxes.toNat).map nums))) (s13:σ 13=some (.ref r)) (s14:σ 14=some (bsV one)):WS (Zqv (fns tbl 11) σ H) NL RL:=by
 refine s_seq (s_if (t_or (t_cmp (Zfv (w_cons (w_loc e.s2 (w_nil (Zu4 (n:=10) h2 fun r' X _ hr'=>Zfv (w_cons (w_loc e.s2 (w_nil (Zut (n:=10) h2 ?_))))))))))))
 refine Zhg (bs_pln h2) (Zwr hr') (if_ff (t_cmp (w_loc s13 (w_loc s14 ?_))))
 have hr:=at_app h1 h2 hp hb (X:=X) hr
 refine Zhg (bs_pln h1) (Zwr hr) (if_ff (s_nil ?_))
 refine s_seq (s_expr (w_meth (w_loc s13 (And.intro (isL_at hr) (w_nil (ob_clr hr (by rw [List.length_map]; exact Nat.le_trans (bs_few h1) (by decide)) ?_))))))
 refine st11 h1 h2 hp hb ⟨e.s1,e.s2,e.s3,e.s9,e.s10,e.s11,?_⟩ s14
 rw [List.getElem?_set_ne (Nat.ne_of_gt h0)]
 exact at_app h1 h2 hp hb e.hj
theorem st14 (e:E8 one two ps b σ H) {r:Nat} (h0:0 < r) (hr:H[r]?=some (.list ((bsL one.most one.boxes.toNat).map nums))) (s13:σ 13=some (.ref r)):WS (Zqx (fns tbl 11) σ H) NL RL:=by
 have few:=bs_few h1
 refine s_seq (s_if (t_or (t_not (t_val (Zfw (w_cons (w_loc s13 (w_cons (w_cst (w_nil (Zws hr (Zf0 (if_ff ?_)))))))))))))
 refine t_or (t_cmp (w_loc s13 (Zfv (w_cons (w_loc e.s1 (w_nil (Zut (n:=10) h1 (Zhg (bs_pln h1) (Zwr hr) (if_ff ?_)))))))))
 refine t_not (t_val (Zfv (w_cons (w_loc s13 (w_nil (Zvt (n:=8) hr (Nat.le_trans few (by decide)) (fun xs hx=>Nat.le_trans (Zwq h1 xs hx) (by decide)) (Zf0 (if_ff (s_nil ?_)))))))))
 refine s_seq (s_asg (Zfw (w_cons (w_loc s13 (w_nil (Zwt hr (by rw [List.length_map]; exact Nat.le_trans few (by decide)) ?_))))))
 exact st12 h1 h2 hp hb ⟨e.s1,e.s2,e.s3,e.s9,e.s10,e.s11,e.hj⟩ h0 hr s13 rfl
theorem st16 (e:E8 one two ps b σ [.dict (rtL ps)]) {v:AV} (s12:σ 12=some v) (hv:LookR one ps v):WS (Zqz (fns tbl 11) σ [.dict (rtL ps)]) NL RL:=by
 refine s_seq (s_if (t_not (t_val (Zfv (w_cons (w_loc e.s1 (w_cons (w_loc e.s9 (w_cons (w_loc s12 (w_cons (w_loc e.s10 (w_nil (Zvr (n:=6) h1 h2 hp.ok e.hj (rt_of ps) hv hb (Zf0 (if_ff (s_nil ?_)))))))))))))))))
 refine s_seq (s_asg (Zfv (w_cons (w_loc e.s1 (w_nil (Zu4 (n:=10) h1 fun r X hl hr=>?_))))))
 exact st14 h1 h2 hp hb ⟨e.s1,e.s2,e.s3,e.s9,e.s10,e.s11,rfl⟩ hl hr rfl
end
theorem st20 {one two:Prog} (h1:one.Ok) (h2:two.Ok) {ps:List Place} (hp:POk one two ps) {σ:Loc} (s1:σ 1=some one.av) (s2:σ 2=some two.av) (s3:σ 3=some (.lst (ps.map Place.av))):WS (Zq3 (fns tbl 11) σ []) NL RL:=by
 have r16:=h1.r16
 have t16:=h2.r16
 have p16:=hp.len
 refine s_seq (s_asg (Zfv (w_cons (w_loc s3 (w_nil (Ztx (n:=10) (by exact Nat.le_trans (by assumption) (by decide)) hp.nd ?_))))))
 refine s_seq (s_asg (Zfv (w_cons (w_loc s1 (w_cons (w_loc rfl (w_nil (Zu3 (n:=7) h1 h2 hp.ok (jr:=0) rfl (rt_of ps) fun b hb=>?_))))))))
 refine s_seq (s_asg (w_lst (w_cons (Zfw (w_cons (w_sub (w_loc s1 (w_cst (OB.of rfl (w_nil (Zhr (by simp; exact Nat.le_trans (by assumption) (by decide)) ?_)))))))))))
 refine w_cons (Zfw (w_cons (w_sub (w_loc s2 (w_cst (OB.of rfl (w_nil (Zhr (by simp; exact Nat.le_trans (by assumption) (by decide)) ?_))))))))
 refine w_cons (Zfw (w_cons (w_loc s3 (w_nil (Zhr (by simp; exact Nat.le_trans (by assumption) (by decide)) (w_nil ?_))))))
 refine s_seq (s_asg (Zfv (w_cons (w_loc s1 (w_cons (w_loc s2 (w_cons (w_loc s3 (w_nil (Zu8 (n:=5) h1 h2 hp fun v hv=>?_))))))))))
 exact st16 h1 h2 hp hb ⟨s1,s2,s3,rfl,rfl,rfl,rfl⟩ rfl hv
theorem POk.sub {one two:Prog} {ps qs:List Place} (hp:POk one two ps) (hs:qs.Sublist ps):POk one two qs :=
 ⟨Nat.le_trans hs.length_le hp.len,hp.nd.sublist (hs.map _),fun p h=>hp.ok p (hs.subset h)⟩
theorem st2 {a b d:AV} {c:Nat} {way:Int} {H':AH} {σ:Loc} (s5:σ 5=some (.int way)) (s6:σ 6=some (.tup [a,b,d])) (hc:(c=1∧way≠4)∨(c=3∧way=4)) (h:Z (fns tbl 10 Zkc [a,b,d] []) c H'):WS (Zql (fns tbl 11) σ []) N RL:=by
 refine s_seq (s_asg (w_lst (w_cons (w_sub (w_lst (w_cons (w_cst (w_cons (w_cst (w_nil (Zfw (w_cons (w_cmp (w_loc s5 (w_cst (ob_eqI (w_nil (Zgo ?_))))))))))))))))))
 rcases hc with ⟨rfl,hw⟩|⟨rfl,rfl⟩
 ·rw [decide_eq_false hw]
  refine OB.of (v:=.str "program") rfl (w_cons (w_cst (w_nil ?_)))
  refine s_ret (w_cmp (Zfv (w_cons (w_sub (w_loc s6 (w_cst (OB.of (v:=a) rfl (w_cons (w_sub (w_loc s6 (w_cst (OB.of (v:=b) rfl (w_cons (w_sub (w_loc s6 (w_cst (OB.of (v:=d) rfl (w_nil (word_w (.inl rfl) rfl h (w_loc rfl ?_))))))))))))))))))))
  exact Zhf (a:=wdL 1) (b:=wdL 1) (by decide +kernel) rfl RL.tt
 ·refine OB.of (v:=.str "places") rfl (w_cons (w_cst (w_nil ?_)))
  refine s_ret (w_cmp (Zfv (w_cons (w_sub (w_loc s6 (w_cst (OB.of (v:=a) rfl (w_cons (w_sub (w_loc s6 (w_cst (OB.of (v:=b) rfl (w_cons (w_sub (w_loc s6 (w_cst (OB.of (v:=d) rfl (w_nil (word_w (.inr rfl) rfl h (w_loc rfl ?_))))))))))))))))))))
  exact Zhf (a:=wdL 3) (b:=wdL 3) (by decide +kernel) rfl RL.tt
theorem five {w:Int} (h:0≤w∧w < 5):w=0∨w=1∨w=2∨w=3∨w=4:=by omega
section
variable {ns:List Int} (hlen:ns.length≤63) {one two:Prog} (h1:one.Ok) (h2:two.Ok) {ps:List Place} (hp:POk one two ps) {σ:Loc} (s0:σ 0=some (.lst (ns.map .int))) (s1:σ 1=some one.av) (s2:σ 2=some two.av) (s3:σ 3=some (.lst (ps.map Place.av)))
include hlen h1 h2 hp s0 s1 s2 s3
theorem st6 {v:AV} (hv:NoPg v) (s4:σ 4=some v):WS (Zqp (fns tbl 11) σ []) N RL:=by
 have p16:=hp.len
 refine s_seq (s_asg (w_bin (w_bin (Zfv (w_cons (w_loc s0 (w_cons (w_cst (w_nil (cell_w (n:=10) hlen (by decide) (by decide) fun c=>w_cst (Zf1 (by decide) (w_cst (ob_mod (by decide) ?_)))))))))))))
 have hw:=five (fm (c.fdiv 64) (b:=5) (by decide))
 generalize (c.fdiv 64).fmod 5=way at hw
 refine s_seq (s_asg (w_lst (w_cons (w_tup (w_cons (w_loc s4 (w_cons (w_loc s2 (w_cons (w_loc s3 (w_nil ?_)))))))))))
 refine w_cons (w_tup (w_cons (w_loc s1 (w_cons (w_loc s4 (w_cons (w_loc s3 (w_nil ?_))))))))
 refine w_cons (w_tup (w_cons (w_loc s4 (w_cons (w_loc s2 (w_cons (w_cst (w_nil (w_nil ?_)))))))))
 refine s_seq (s_asg (Zfv (w_cons (w_loc s1 (w_cons (w_loc s2 (w_cons (w_loc s3 (w_cons (w_bin (Zfv (w_cons (w_loc s0 (w_cons (w_cst (w_nil (cell_w (n:=10) hlen (by decide) (by decide) fun c'=>w_cst (Zf1 (by decide) (w_nil ?_)))))))))))))))))))
 refine Zwp (n:=10) h1 h2 hp fun u hu=>?_
 refine s_seq (s_asg (w_sub (w_bin (w_loc rfl (w_lst (w_cons (w_tup (w_cons (w_loc s1 (w_cons (w_loc s4 (w_cons (w_lst (w_cons (w_cst (w_nil (w_nil ?_)))))))))))))))))
 refine w_cons (w_tup (w_cons (w_loc s1 (w_cons (w_loc s2 (w_cons (w_bin (w_loc s3 (w_lst (w_cons (w_loc rfl (w_nil (Zhz (by simp; exact Nat.le_trans (by assumption) (by decide)) (w_nil (w_nil (Zhz (by simp) (w_loc (v:=.int way) rfl ?_)))))))))))))))))
 rcases hw with rfl|rfl|rfl|rfl|rfl
 ·exact OB.of rfl (st2 (c:=1) (σ:=_) rfl rfl (.inl ⟨rfl,by decide⟩) (Zv5 (n:=5) hv))
 ·exact OB.of rfl (st2 (c:=1) (σ:=_) rfl rfl (.inl ⟨rfl,by decide⟩) (Zv6 (n:=5) h1 hv))
 ·exact OB.of rfl (st2 (c:=1) (σ:=_) rfl rfl (.inl ⟨rfl,by decide⟩) (Zv5 (n:=5) hv))
 ·exact OB.of rfl (st2 (c:=1) (σ:=_) rfl rfl (.inl ⟨rfl,by decide⟩) (Zv6 (n:=5) h1 hv))
 ·refine e1a2 (Zwj (n:=4) h1 h2 hp hu (H:=[])) fun H' _ z=>?_
  exact OB.of rfl (st2 (c:=3) (σ:=_) rfl rfl (.inr ⟨rfl,rfl⟩) z)
theorem st8 {A:List AV} (s4:σ 4=some (.lst A)) (hA:A=[.tup [.int 0,.int 1,.lst [.tup [.str "go",.int 1]]],.none,.tup [.int one.boxes,.int one.most,.lst []],.tup [.int 4,.int one.most,.lst (one.rows.map Row.av)],.tup [.int one.boxes,.int 5,.lst (one.rows.map Row.av)]]):WS (Zqr (fns tbl 11) σ []) N RL:=by
 have r16:=h1.r16
 have odd:=odd_pg h1
 rw [← hA] at odd
 have hl:A.length=5:=by rw [hA]; rfl
 have b0:dSub (dLoc 1) (dCst (.int 0)) σ []=.ok (.int one.boxes) []:=vsub (vloc s1) rfl
 have b1:dSub (dLoc 1) (dCst (.int 1)) σ []=.ok (.int one.most) []:=vsub (vloc s1) rfl
 have b2:dSub (dLoc 1) (dCst (.int 2)) σ []=.ok (.lst (one.rows.map Row.av)) []:=vsub (vloc s1) rfl
 have rl:(one.rows.map Row.av).length≤16:=by rw [List.length_map]; exact r16
 have cl:(cut (one.rows.map Row.av) (some 1) none).length≤16:=by
  rw [Zwm,List.length_drop]
  exact Nat.le_trans (Nat.sub_le _ _) rl
 unfold Zqr
 refine s_seq (s_asg (w_ok (vcatL (vloc s4) (vlst (Zwo (vtup (Zwo b0 (Zwo b1 (Zwo (vcatL b2 rfl (Nat.le_trans (Nat.add_le_add_right rl 1) (by decide))) ea_nil)))) (Zwo (vtup (Zwo b0 (Zwo b1 (Zwo (vtupL b2 (Nat.le_trans rl (by decide))) ea_nil)))) ea_nil))) (by rw [hl]; exact Nat.le_of_ble_eq_true rfl)) ?_))
 unfold Zqq
 refine s_seq (s_asg (w_sub (w_ok (vcatL rfl (vlst (Zwo (vtup (Zwo b0 (Zwo b1 (Zwo (vcatL (vcutL b2 (Nat.le_trans rl (by decide))) rfl (Nat.le_trans (Nat.add_le_add_right cl 1) (by decide))) ea_nil)))) ea_nil)) (by rw [List.length_append,hl]; exact Nat.le_of_ble_eq_true rfl)) ?_)))
 refine w_bin (w_bin (Zfv (w_cons (w_loc s0 (w_cons (w_cst (w_nil (cell_w (n:=10) hlen (by decide) (by decide) fun c=>w_cst (Zf1 (by decide) (w_cst (ob_mod (by decide) ?_)))))))))))
 have m8:=fm (c.fdiv 8) (b:=8) (by decide)
 refine Zwb m8.1 (by simp [hl]; omega) (by simp [hl]) fun v hv=>?_
 exact st6 (σ:=upd (upd σ 4 _) 4 v) hlen h1 h2 hp s0 s1 s2 s3 (odd v hv) rfl
theorem st21:WS (Zq4 (fns tbl 11) σ []) NL RL:=by
 refine s_seq (s_if (t_cmp (w_bin (Zfv (w_cons (w_loc s0 (w_cons (w_cst (w_nil (cell_w (n:=10) hlen (by decide) (by decide) fun c=>w_cst (ob_mod (by decide) (w_cst (ob_eqI ?_)))))))))))))
 by_cases e:c.fmod 8=1
 ·rw [decide_eq_true e]
  have b0:dSub (dLoc 1) (dCst (.int 0)) σ []=.ok (.int one.boxes) []:=vsub (vloc s1) rfl
  have b1:dSub (dLoc 1) (dCst (.int 1)) σ []=.ok (.int one.most) []:=vsub (vloc s1) rfl
  have b2:dSub (dLoc 1) (dCst (.int 2)) σ []=.ok (.lst (one.rows.map Row.av)) []:=vsub (vloc s1) rfl
  refine if_tt (s_seq (s_asg (w_ok (vlst (Zwo rfl (Zwo rfl (Zwo (vtup (Zwo b0 (Zwo b1 (Zwo rfl ea_nil)))) (Zwo (vtup (Zwo rfl (Zwo b1 (Zwo b2 ea_nil)))) (Zwo (vtup (Zwo b0 (Zwo rfl (Zwo b2 ea_nil)))) ea_nil)))))) ?_)))
  exact st8 (σ:=upd σ 4 _) hlen h1 h2 hp s0 s1 s2 s3 rfl rfl
 ·rw [decide_eq_false e]
  exact if_ff (s_nil (st20 h1 h2 hp s1 s2 s3))
theorem st22:WS (Zq5 (fns tbl 11) σ []) NL RL:=by
 have p16:=hp.len
 refine s_seq ?_
 (repeat' (first|refine cell_w hlen (by decide) (by decide) (fun _=>?_)|exact st21 hlen h1 h2 hp s0 s1 s2 s3|refine s_if ?_|refine s_asg ?_|refine s_nil ?_|refine w_bin ?_|refine w_cst ?_|refine w_loc (by first|rfl|assumption) ?_|refine Zfv ?_|refine w_cons ?_|refine w_nil ?_|refine w_slc ?_|refine p_none ?_|refine p_some ?_|refine t_cmp ?_|refine ob_mod (by decide) ?_|refine Zf1 (by decide) ?_|refine ob_eqI ?_|refine if_dec (fun _=>?_) (fun _=>?_)|refine int_ex ?_|fail))
 rename_i _ _ c
 have m2:=fm (c.fdiv 4) (b:=2) (by decide)
 refine Zhj (by simp [okB]; omega) (by simp; exact Nat.le_trans (by assumption) (by decide)) ?_
 rw [Zwd]
 exact st21 (σ:=upd σ 3 _) hlen h1 h2 (hp.sub (List.take_sublist _ _)) s0 s1 s2 rfl
end
theorem run08 (ns:List Int) (hlen:ns.length≤63):∃ H',fns tbl 12 i_law [.lst (ns.map .int)] []=.ok (.bool true) H':=by
 suffices h:W (fns tbl 12 i_law [.lst (ns.map .int)] []) fun v _=>v=.bool true by
  refine e2a2 h fun v H e eZ3=>?_; subst eZ3
  exact ⟨H,e⟩
 refine e_law (run_w rfl ?_)
 show WS (k_law (fns tbl 11) _ []) NL RL
 unfold k_law
 (repeat' (first|refine cell_w hlen (by decide) (by decide) (fun _=>?_)|refine Zsh (fun P hP=>?_)|refine Zsp (by assumption) (by assumption) (fun ps hp=>?_)|refine st22 hlen (by assumption) (by assumption) (by assumption) rfl rfl rfl rfl|refine s_seq ?_|refine s_asg ?_|refine w_loc (by first|rfl|assumption) ?_|refine Zfv ?_|refine w_cons ?_|refine w_nil ?_|fail))
end Mine
namespace Mine
open PySem PySem.W PySem.Calls PyProof.Rows
set_option Elab.async false
set_option maxRecDepth 100000
set_option maxHeartbeats 8000000
set_option linter.unusedVariables false
abbrev HO:=HZ→Obj
noncomputable def hz (p:Program) (P:Params):HZ:=⟨hdef p,hmdef p,dEn P,nthS (apL ["dict","__main__.__loader__#opaque","tuple","code","frame"] (apL ["ValueError","builtin_function_or_method","type.__prepare__","type","Exception"] (apL ["BaseException","object","ValueError.__new__","getset_descriptor","ExceptionGroup.__weakref__"] ["super","object.__init_subclass__","function"])))⟩
noncomputable def x0:Str:=⟨⟨[95,95,110,97,109,101,95,95]⟩⟩
noncomputable def x1:Str:=⟨⟨[108,97,119,95,117,102,48,51,48,48,49,50,95,48,56]⟩⟩
noncomputable def x2:Str:=⟨⟨[95,95,100,111,99,95,95]⟩⟩
noncomputable def x3:Str:=⟨⟨[95,95,112,97,99,107,97,103,101,95,95]⟩⟩
noncomputable def x4:Str:=⟨⟨[95,95,108,111,97,100,101,114,95,95]⟩⟩
noncomputable def x5:Str:=⟨⟨[95,95,115,112,101,99,95,95]⟩⟩
noncomputable def x6:Str:=⟨⟨[95,95,97,110,110,111,116,97,116,105,111,110,115,95,95]⟩⟩
noncomputable def x7:Str:=⟨⟨[95,95,98,117,105,108,116,105,110,115,95,95]⟩⟩
noncomputable def x8:Str:=⟨⟨[95,95,102,105,108,101,95,95]⟩⟩
noncomputable def x9:Str:=⟨⟨[47,99,108,97,105,109,47,99,117,116,46,112,121]⟩⟩
noncomputable def x10:Str:=⟨⟨[95,95,99,97,99,104,101,100,95,95]⟩⟩
noncomputable def x11:Str:=⟨⟨[83,119,97,112,69,114,114,111,114]⟩⟩
noncomputable def x12:Str:=⟨⟨[66,97,100,80,114,111,103,114,97,109]⟩⟩
noncomputable def x13:Str:=⟨⟨[66,97,100,83,116,97,116,101]⟩⟩
noncomputable def x14:Str:=⟨⟨[66,97,100,80,108,97,99,101,115]⟩⟩
noncomputable def x15:Str:=⟨⟨[66,97,100,67,111,117,110,116]⟩⟩
noncomputable def x16:Str:=⟨⟨[66,117,115,121]⟩⟩
noncomputable def x17:Str:=⟨⟨[79,118,101,114]⟩⟩
noncomputable def x18:Str:=⟨⟨[85,110,115,97,102,101]⟩⟩
noncomputable def x19:Str:=⟨⟨[77,79,83,84,95,66,79,88,69,83]⟩⟩
noncomputable def x20:Str:=⟨⟨[77,79,83,84,95,78,85,77,66,69,82]⟩⟩
noncomputable def x21:Str:=⟨⟨[77,79,83,84,95,82,79,87,83]⟩⟩
noncomputable def x22:Str:=⟨⟨[105,115,95,97,109,111,110,103]⟩⟩
noncomputable def x23:Str:=⟨⟨[105,115,95,114,111,119]⟩⟩
noncomputable def x24:Str:=⟨⟨[105,115,95,112,114,111,103,114,97,109]⟩⟩
noncomputable def x25:Str:=⟨⟨[110,101,101,100,95,112,114,111,103,114,97,109]⟩⟩
noncomputable def x26:Str:=⟨⟨[119,105,116,104,95,110,117,109,98,101,114]⟩⟩
noncomputable def x27:Str:=⟨⟨[100,111,110,101]⟩⟩
noncomputable def x28:Str:=⟨⟨[77,79,83,84,95,80,76,65,67,69,83]⟩⟩
noncomputable def x29:Str:=⟨⟨[105,115,95,110,117,109,98,101,114]⟩⟩
noncomputable def x30:Str:=⟨⟨[105,115,95,114,117,108,101]⟩⟩
noncomputable def x31:Str:=⟨⟨[105,115,95,112,108,97,99,101]⟩⟩
noncomputable def x32:Str:=⟨⟨[110,101,101,100,95,112,108,97,99,101,115]⟩⟩
noncomputable def x33:Str:=⟨⟨[110,117,109,98,101,114,95,98,121]⟩⟩
noncomputable def x34:Str:=⟨⟨[116,117,114,110,101,100]⟩⟩
noncomputable def x35:Str:=⟨⟨[112,108,97,99,101,95,97,116]⟩⟩
noncomputable def x36:Str:=⟨⟨[98,101,103,105,110,115]⟩⟩
noncomputable def x37:Str:=⟨⟨[109,101,101,116,115]⟩⟩
noncomputable def x38:Str:=⟨⟨[114,117,110,95,108,111,111,107,101,100]⟩⟩
noncomputable def x39:Str:=⟨⟨[108,111,111,107,101,100]⟩⟩
noncomputable def x40:Str:=⟨⟨[95,108,97,119,95,99,101,108,108,95,97,116]⟩⟩
noncomputable def x41:Str:=⟨⟨[95,108,97,119,95,110,101,120,116]⟩⟩
noncomputable def x42:Str:=⟨⟨[95,108,97,119,95,114,111,119]⟩⟩
noncomputable def x43:Str:=⟨⟨[95,108,97,119,95,112,114,111,103,114,97,109]⟩⟩
noncomputable def x44:Str:=⟨⟨[95,108,97,119,95,114,117,108,101]⟩⟩
noncomputable def x45:Str:=⟨⟨[95,108,97,119,95,112,108,97,99,101,115]⟩⟩
noncomputable def x46:Str:=⟨⟨[95,108,97,119,95,110,117,109,98,101,114,115]⟩⟩
noncomputable def x47:Str:=⟨⟨[95,108,97,119,95,112,117,116]⟩⟩
noncomputable def x48:Str:=⟨⟨[95,108,97,119,95,115,116,101,112]⟩⟩
noncomputable def x49:Str:=⟨⟨[95,108,97,119,95,116,117,114,110,101,100]⟩⟩
noncomputable def x50:Str:=⟨⟨[95,108,97,119,95,98,101,103,105,110,115]⟩⟩
noncomputable def x51:Str:=⟨⟨[95,108,97,119,95,114,117,108,101,115]⟩⟩
noncomputable def x52:Str:=⟨⟨[95,108,97,119,95,109,101,116]⟩⟩
noncomputable def x53:Str:=⟨⟨[95,108,97,119,95,103,111,110,101,95,98,97,99,107]⟩⟩
noncomputable def x54:Str:=⟨⟨[95,108,97,119,95,105,115,95,115,97,102,101]⟩⟩
noncomputable def x55:Str:=⟨⟨[95,108,97,119,95,115,116,97,116,101,115]⟩⟩
noncomputable def x56:Str:=⟨⟨[95,108,97,119,95,112,108,97,105,110]⟩⟩
noncomputable def x57:Str:=⟨⟨[95,108,97,119,95,114,105,103,104,116]⟩⟩
noncomputable def x58:Str:=⟨⟨[95,108,97,119,95,111,100,100,95,112,108,97,99,101]⟩⟩
noncomputable def x59:Str:=⟨⟨[95,108,97,119,95,119,111,114,100]⟩⟩
noncomputable def x60:Str:=⟨⟨[108,97,119]⟩⟩
noncomputable def x61:Str:=⟨⟨[60,109,111,100,117,108,101,62]⟩⟩
noncomputable def x62:Str:=⟨⟨[95,95,109,97,105,110,95,95]⟩⟩
noncomputable def x63:Str:=⟨⟨[95,95,109,111,100,117,108,101,95,95]⟩⟩
noncomputable def x64:Str:=⟨⟨[108,105,118,101,115,119,97,112,46,101,114,114,111,114,115]⟩⟩
noncomputable def x65:Str:=⟨⟨[95,95,113,117,97,108,110,97,109,101,95,95]⟩⟩
noncomputable def x66:Str:=⟨⟨[95,95,102,105,114,115,116,108,105,110,101,110,111,95,95]⟩⟩
noncomputable def x67:Str:=⟨⟨[95,95,115,116,97,116,105,99,95,97,116,116,114,105,98,117,116,101,115,95,95]⟩⟩
noncomputable def x68:Str:=⟨⟨[95,95,119,101,97,107,114,101,102,95,95]⟩⟩
noncomputable def x69:Str:=⟨⟨[95,95,105,110,105,116,95,95]⟩⟩
noncomputable def x70:Str:=⟨⟨[115,101,108,102]⟩⟩
noncomputable def x71:Str:=⟨⟨[115,104,111,119,110]⟩⟩
noncomputable def x72:Str:=⟨⟨[85,110,115,97,102,101,46,95,95,105,110,105,116,95,95]⟩⟩
noncomputable def x73:Str:=⟨⟨[116,104,105,110,103]⟩⟩
noncomputable def x74:Str:=⟨⟨[108,101,97,115,116]⟩⟩
noncomputable def x75:Str:=⟨⟨[109,111,115,116]⟩⟩
noncomputable def x76:Str:=⟨⟨[108,105,118,101,115,119,97,112,46,112,114,111,103,114,97,109,115]⟩⟩
noncomputable def x77:Str:=⟨⟨[114,111,119]⟩⟩
noncomputable def x78:Str:=⟨⟨[98,111,120,101,115]⟩⟩
noncomputable def x79:Str:=⟨⟨[109,97,110,121]⟩⟩
noncomputable def x80:Str:=⟨⟨[110,117,109,98,101,114,115]⟩⟩
noncomputable def x81:Str:=⟨⟨[98,111,120]⟩⟩
noncomputable def x82:Str:=⟨⟨[110,117,109,98,101,114]⟩⟩
noncomputable def x83:Str:=⟨⟨[112,114,111,103,114,97,109]⟩⟩
noncomputable def x84:Str:=⟨⟨[115,116,97,116,101]⟩⟩
noncomputable def x85:Str:=⟨⟨[112,108,97,99,101]⟩⟩
noncomputable def x86:Str:=⟨⟨[116,119,111]⟩⟩
noncomputable def x87:Str:=⟨⟨[108,105,118,101,115,119,97,112,46,112,108,97,99,101,115]⟩⟩
noncomputable def x88:Str:=⟨⟨[111,110,101]⟩⟩
noncomputable def x89:Str:=⟨⟨[112,108,97,99,101,115]⟩⟩
noncomputable def x90:Str:=⟨⟨[115,101,101,110]⟩⟩
noncomputable def x91:Str:=⟨⟨[114,117,108,101]⟩⟩
noncomputable def x92:Str:=⟨⟨[102,111,117,110,100]⟩⟩
noncomputable def x93:Str:=⟨⟨[108,111,110,103,101,114]⟩⟩
noncomputable def x94:Str:=⟨⟨[108,105,118,101,115,119,97,112,46,108,111,111,107,105,110,103]⟩⟩
noncomputable def x95:Str:=⟨⟨[98,101,103,105,110]⟩⟩
noncomputable def x96:Str:=⟨⟨[95,108,97,119,95,115,99,114,105,112,116]⟩⟩
noncomputable def x97:Str:=⟨⟨[95,108,97,119,95,107]⟩⟩
noncomputable def x98:Str:=⟨⟨[95,108,97,119,95,115,101,101,100]⟩⟩
noncomputable def x99:Str:=⟨⟨[95,108,97,119,95,98,111,120,101,115]⟩⟩
noncomputable def x100:Str:=⟨⟨[95,108,97,119,95,109,111,115,116]⟩⟩
noncomputable def x101:Str:=⟨⟨[95,108,97,119,95,109,97,110,121]⟩⟩
noncomputable def x102:Str:=⟨⟨[95,108,97,119,95,112,105,99,107]⟩⟩
noncomputable def x103:Str:=⟨⟨[95,108,97,119,95,98,111,120]⟩⟩
noncomputable def x104:Str:=⟨⟨[95,108,97,119,95,99,101,108,108]⟩⟩
noncomputable def x105:Str:=⟨⟨[95,108,97,119,95,114,111,119,115]⟩⟩
noncomputable def x106:Str:=⟨⟨[95,108,97,119,95,111,110,101]⟩⟩
noncomputable def x107:Str:=⟨⟨[95,108,97,119,95,116,119,111]⟩⟩
noncomputable def x108:Str:=⟨⟨[95,108,97,119,95,110,117,109,98,101,114,115,95,104,101,114,101]⟩⟩
noncomputable def x109:Str:=⟨⟨[95,108,97,119,95,112,114,111,103,114,97,109,95,104,101,114,101]⟩⟩
noncomputable def x110:Str:=⟨⟨[95,108,97,119,95,102,111,117,110,100]⟩⟩
noncomputable def x111:Str:=⟨⟨[95,108,97,119,95,110,117,109,98,101,114]⟩⟩
noncomputable def x112:Str:=⟨⟨[95,108,97,119,95,114,111,119,95,104,101,114,101]⟩⟩
noncomputable def x113:Str:=⟨⟨[95,108,97,119,95,115,116,97,116,101]⟩⟩
noncomputable def x114:Str:=⟨⟨[95,108,97,119,95,97,116]⟩⟩
noncomputable def x115:Str:=⟨⟨[95,108,97,119,95,109,111,114,101]⟩⟩
noncomputable def x116:Str:=⟨⟨[95,108,97,119,95,114,117,108,101,115,95,104,101,114,101]⟩⟩
noncomputable def x117:Str:=⟨⟨[95,108,97,119,95,114,117,108,101,95,104,101,114,101]⟩⟩
noncomputable def x118:Str:=⟨⟨[95,108,97,119,95,98,101,103,105,110]⟩⟩
noncomputable def x119:Str:=⟨⟨[95,108,97,119,95,112,108,97,99,101,115,95,104,101,114,101]⟩⟩
noncomputable def x120:Str:=⟨⟨[95,108,97,119,95,112,108,97,99,101]⟩⟩
noncomputable def x121:Str:=⟨⟨[95,108,97,119,95,99,97,109,101]⟩⟩
noncomputable def x122:Str:=⟨⟨[95,108,97,119,95,112,97,116,104]⟩⟩
noncomputable def x123:Str:=⟨⟨[95,108,97,119,95,119,111,114,100,95,104,101,114,101]⟩⟩
noncomputable def x124:Str:=⟨⟨[95,108,97,119,95,107,110,111,119,110]⟩⟩
noncomputable def x125:Str:=⟨⟨[95,108,97,119,95,104,101,114,101]⟩⟩
noncomputable def x126:Str:=⟨⟨[95,108,97,119,95,105,115,95,115,97,102,101,95,104,101,114,101]⟩⟩
noncomputable def x127:Str:=⟨⟨[95,108,97,119,95,116,117,114,110]⟩⟩
noncomputable def x128:Str:=⟨⟨[95,108,97,119,95,115,111,109,101]⟩⟩
noncomputable def x129:Str:=⟨⟨[101]⟩⟩
noncomputable def x130:Str:=⟨⟨[95,108,97,119,95,119,111,114,100,115]⟩⟩
noncomputable def x131:Str:=⟨⟨[95,108,97,119,95,111,116,104,101,114,115]⟩⟩
noncomputable def x132:Str:=⟨⟨[95,108,97,119,95,111,100,100]⟩⟩
noncomputable def x133:Str:=⟨⟨[95,108,97,119,95,119,97,121]⟩⟩
noncomputable def x134:Str:=⟨⟨[95,108,97,119,95,97,115,107,101,100]⟩⟩
noncomputable def x135:Str:=⟨⟨[95,108,97,119,95,115,116,114,97,110,103,101]⟩⟩
noncomputable def x136:Str:=⟨⟨[95,108,97,119,95,100,117,101]⟩⟩
noncomputable def x137:Str:=⟨⟨[95,108,97,119,95,107,101,112,116]⟩⟩
noncomputable def x138:Str:=⟨⟨[95,108,97,119,95,116,111,108,100]⟩⟩
noncomputable def x139:Str:=⟨⟨[95,108,97,119,95,104,101,108,100]⟩⟩
noncomputable def h_3:HO:=fun z=>⟨.type (z.s 0),none,(.dict #[z.e x0 165 (.str x1 497),z.e x2 166 .none,z.e x3 167 .none,z.e x4 168 (.builtin (z.s 1)),z.e x5 169 .none,z.e x6 170 (.ref 6),z.e x7 171 (.ref 4),z.e x8 173 (.str x9 172),z.e x10 174 .none,z.e x11 206 (.ref 24),z.e x12 222 (.ref 37),z.e x13 238 (.ref 49),z.e x14 254 (.ref 61),z.e x15 270 (.ref 73),z.e x16 286 (.ref 85),z.e x17 302 (.ref 97),z.e x18 327 (.ref 116),z.e x19 331 (.int 3 330),z.e x20 333 (.int 4 332),z.e x21 335 (.int 20 334),z.e x22 344 (.ref 125),z.e x23 354 (.ref 132),z.e x24 360 (.ref 137),z.e x25 367 (.ref 144),z.e x26 376 (.ref 151),z.e x27 388 (.ref 158),z.e x28 392 (.int 20 391),z.e x29 400 (.ref 165),z.e x30 406 (.ref 170),z.e x31 412 (.ref 175),z.e x32 423 (.ref 182),z.e x33 431 (.ref 189),z.e x34 437 (.ref 194),z.e x35 446 (.ref 201),z.e x36 460 (.ref 208),z.e x37 472 (.ref 215),z.e x38 485 (.ref 222),z.e x39 496 (.ref 229),z.e x40 506 (.ref 236),z.e x41 513 (.ref 243),z.e x42 525 (.ref 250),z.e x43 538 (.ref 257),z.e x44 549 (.ref 264),z.e x45 555 (.ref 269),z.e x46 565 (.ref 276),z.e x47 575 (.ref 283),z.e x48 587 (.ref 290),z.e x49 598 (.ref 297),z.e x50 610 (.ref 304),z.e x51 619 (.ref 311),z.e x52 629 (.ref 318),z.e x53 640 (.ref 325),z.e x54 653 (.ref 332),z.e x55 662 (.ref 339),z.e x56 668 (.ref 344),z.e x57 680 (.ref 351),z.e x58 692 (.ref 358),z.e x59 704 (.ref 365),z.e x60 725 (.ref 372)] 59),#[]⟩
noncomputable def h_11:HO:=fun z=>⟨.type (z.s 2),none,.seq #[] 0,#[]⟩
noncomputable def h_12:HO:=fun z=>⟨.none,none,.fields #[.int 2 0,.int 0 0,.ref 20,.int 4 0,.int 0 0,.ref 33,.int 6 0,.int 0 0,.ref 45,.int 8 0,.int 0 0,.ref 57,.int 10 0,.int 0 0,.ref 69,.int 12 0,.int 0 0,.ref 81,.int 14 0,.int 0 0,.ref 93,.int 16 0,.int 0 0,.ref 105,.int 25 0,.int 0 0,.ref 124,.int 27 0,.int 0 0,.ref 131,.int 43 0,.int 0 0,.ref 136,.int 54 0,.int 0 0,.ref 143,.int 58 0,.int 0 0,.ref 150,.int 60 0,.int 0 0,.ref 157,.int 83 0,.int 0 0,.ref 164,.int 85 0,.int 0 0,.ref 169,.int 95 0,.int 0 0,.ref 174,.int 101 0,.int 0 0,.ref 181,.int 110 0,.int 0 0,.ref 188,.int 114 0,.int 0 0,.ref 193,.int 119 0,.int 0 0,.ref 200,.int 125 0,.int 0 0,.ref 207,.int 134 0,.int 0 0,.ref 214,.int 149 0,.int 0 0,.ref 221,.int 161 0,.int 0 0,.ref 228,.int 171 0,.int 0 0,.ref 235,.int 175 0,.int 0 0,.ref 242,.int 177 0,.int 0 0,.ref 249,.int 193 0,.int 0 0,.ref 256,.int 205 0,.int 0 0,.ref 263,.int 212 0,.int 0 0,.ref 268,.int 221 0,.int 0 0,.ref 275,.int 227 0,.int 0 0,.ref 282,.int 231 0,.int 0 0,.ref 289,.int 249 0,.int 0 0,.ref 296,.int 259 0,.int 0 0,.ref 303,.int 268 0,.int 0 0,.ref 310,.int 273 0,.int 0 0,.ref 317,.int 283 0,.int 0 0,.ref 324,.int 288 0,.int 0 0,.ref 331,.int 303 0,.int 0 0,.ref 338,.int 308 0,.int 0 0,.ref 343,.int 312 0,.int 0 0,.ref 350,.int 326 0,.int 0 0,.ref 357,.int 336 0,.int 0 0,.ref 364,.int 344 0,.int 0 0,.ref 371],#[]⟩
noncomputable def h_13:HO:=fun z=>⟨.type (z.s 3),none,.fields #[.str x61 182,.str x61 183,.str x9 184,.int 1 0,.int 0 0,.int 0 0,.int 0 0,.int 0 0,.ref 11,.bool false,.int 181 0,.ref 12,.none,.none,.none,.none,.int 185 0,.int 1 0,.str x9 186],#[]⟩
noncomputable def h_14:HO:=fun z=>⟨.type (z.s 4),none,.plain,#[some (.ref 13),some (.ref 3),some (.ref 3),none,some (.str x62 164),none,some (.ref 0)]⟩
noncomputable def h_15:HO:=fun z=>⟨.type (z.s 2),none,.seq #[.type (z.s 5)] 0,#[]⟩
noncomputable def h_16:HO:=fun z=>⟨.type (z.s 6),none,.fields #[.builtin (z.s 7),.type (z.s 8)],#[]⟩
noncomputable def h_17:HO:=fun z=>⟨.type (z.s 0),none,.dict #[z.e x63 196 (.str x64 187),z.e x65 198 (.str x11 197),z.e x66 200 (.int 2 199),z.e x67 201 (.ref 22)] 4,#[]⟩
noncomputable def h_18:HO:=fun z=>⟨.type (z.s 2),none,.seq #[] 0,#[]⟩
noncomputable def h_19:HO:=fun z=>⟨.none,none,.fields #[],#[]⟩
noncomputable def h_20:HO:=fun z=>⟨.type (z.s 3),none,.fields #[.str x11 191,.str x11 192,.str x9 193,.int 2 0,.int 0 0,.int 0 0,.int 0 0,.int 0 0,.ref 18,.bool false,.int 181 0,.ref 19,.none,.none,.none,.none,.int 194 0,.int 2 0,.str x9 195],#[]⟩
noncomputable def h_21:HO:=fun z=>⟨.type (z.s 4),none,.plain,#[some (.ref 20),some (.ref 3),some (.ref 17),none,some (.str x64 187),none,some (.ref 0)]⟩
noncomputable def h_22:HO:=fun z=>⟨.type (z.s 2),none,.seq #[] 0,#[]⟩
noncomputable def h_23:HO:=fun z=>⟨.type (z.s 0),none,.dict #[z.e x63 196 (.str x64 187),z.e x66 200 (.int 2 199),z.e x67 201 (.ref 22),z.e x68 203 (.ref 25),z.e x2 204 .none] 3,#[]⟩
noncomputable def h_24:HO:=fun z=>⟨.type (z.s 8),none,.cls ⟨x11,[.type (z.s 5)],[.ref 24,.type (z.s 5),.type (z.s 9),.type (z.s 10),.type (z.s 11)],23,x11,true,[],[.ref 37,.ref 49,.ref 61,.ref 73,.ref 85,.ref 97,.ref 116],false,none,false⟩,#[some (.ref 15),none,some (.str x11 189),some (.str x11 197),(some (.builtin (z.s 12))),some (.bool true)]⟩
noncomputable def h_25:HO:=fun z=>⟨.type (z.s 13),none,.fields #[.str x68 202,.ref 24,.builtin (z.s 14),.none],#[]⟩
noncomputable def h_26:HO:=fun z=>⟨.type (z.s 15),none,.fields #[.ref 24,.ref 24,.ref 24],#[]⟩
noncomputable def h_27:HO:=fun z=>⟨.type (z.s 6),none,.fields #[.builtin (z.s 16),.ref 24],#[]⟩
noncomputable def h_28:HO:=fun z=>⟨.type (z.s 2),none,.seq #[.ref 24] 0,#[]⟩
noncomputable def h_29:HO:=fun z=>⟨.type (z.s 6),none,.fields #[.builtin (z.s 7),.type (z.s 8)],#[]⟩
noncomputable def h_30:HO:=fun z=>⟨.type (z.s 0),none,.dict #[z.e x63 214 (.str x64 187),z.e x65 216 (.str x12 215),z.e x66 218 (.int 4 217),z.e x67 219 (.ref 35)] 4,#[]⟩
noncomputable def h_31:HO:=fun z=>⟨.type (z.s 2),none,.seq #[] 0,#[]⟩
noncomputable def h_32:HO:=fun z=>⟨.none,none,.fields #[],#[]⟩
noncomputable def h_33:HO:=fun z=>⟨.type (z.s 3),none,.fields #[.str x12 209,.str x12 210,.str x9 211,.int 4 0,.int 0 0,.int 0 0,.int 0 0,.int 0 0,.ref 31,.bool false,.int 181 0,.ref 32,.none,.none,.none,.none,.int 212 0,.int 4 0,.str x9 213],#[]⟩
noncomputable def h_34:HO:=fun z=>⟨.type (z.s 4),none,.plain,#[some (.ref 33),some (.ref 3),some (.ref 30),none,some (.str x64 187),none,some (.ref 0)]⟩
noncomputable def h_35:HO:=fun z=>⟨.type (z.s 2),none,.seq #[] 0,#[]⟩
noncomputable def h_36:HO:=fun z=>⟨.type (z.s 0),none,.dict #[z.e x63 214 (.str x64 187),z.e x66 218 (.int 4 217),z.e x67 219 (.ref 35),z.e x2 220 .none] 2,#[]⟩
noncomputable def h_37:HO:=fun z=>⟨.type (z.s 8),none,.cls ⟨x12,[.ref 24],[.ref 37,.ref 24,.type (z.s 5),.type (z.s 9),.type (z.s 10),.type (z.s 11)],36,x12,true,[],[],false,none,false⟩,#[some (.ref 28),none,some (.str x12 207),some (.str x12 215),(some (.builtin (z.s 12))),some (.bool true)]⟩
noncomputable def h_38:HO:=fun z=>⟨.type (z.s 15),none,.fields #[.ref 37,.ref 37,.ref 37],#[]⟩
noncomputable def h_39:HO:=fun z=>⟨.type (z.s 6),none,.fields #[.builtin (z.s 16),.ref 37],#[]⟩
noncomputable def h_40:HO:=fun z=>⟨.type (z.s 2),none,.seq #[.ref 24] 0,#[]⟩
noncomputable def h_41:HO:=fun z=>⟨.type (z.s 6),none,.fields #[.builtin (z.s 7),.type (z.s 8)],#[]⟩
noncomputable def h_42:HO:=fun z=>⟨.type (z.s 0),none,.dict #[z.e x63 230 (.str x64 187),z.e x65 232 (.str x13 231),z.e x66 234 (.int 6 233),z.e x67 235 (.ref 47)] 4,#[]⟩
noncomputable def h_43:HO:=fun z=>⟨.type (z.s 2),none,.seq #[] 0,#[]⟩
noncomputable def h_44:HO:=fun z=>⟨.none,none,.fields #[],#[]⟩
noncomputable def h_45:HO:=fun z=>⟨.type (z.s 3),none,.fields #[.str x13 225,.str x13 226,.str x9 227,.int 6 0,.int 0 0,.int 0 0,.int 0 0,.int 0 0,.ref 43,.bool false,.int 181 0,.ref 44,.none,.none,.none,.none,.int 228 0,.int 6 0,.str x9 229],#[]⟩
noncomputable def h_46:HO:=fun z=>⟨.type (z.s 4),none,.plain,#[some (.ref 45),some (.ref 3),some (.ref 42),none,some (.str x64 187),none,some (.ref 0)]⟩
noncomputable def h_47:HO:=fun z=>⟨.type (z.s 2),none,.seq #[] 0,#[]⟩
noncomputable def h_48:HO:=fun z=>⟨.type (z.s 0),none,.dict #[z.e x63 230 (.str x64 187),z.e x66 234 (.int 6 233),z.e x67 235 (.ref 47),z.e x2 236 .none] 2,#[]⟩
noncomputable def h_49:HO:=fun z=>⟨.type (z.s 8),none,.cls ⟨x13,[.ref 24],[.ref 49,.ref 24,.type (z.s 5),.type (z.s 9),.type (z.s 10),.type (z.s 11)],48,x13,true,[],[],false,none,false⟩,#[some (.ref 40),none,some (.str x13 223),some (.str x13 231),(some (.builtin (z.s 12))),some (.bool true)]⟩
noncomputable def h_50:HO:=fun z=>⟨.type (z.s 15),none,.fields #[.ref 49,.ref 49,.ref 49],#[]⟩
noncomputable def h_51:HO:=fun z=>⟨.type (z.s 6),none,.fields #[.builtin (z.s 16),.ref 49],#[]⟩
noncomputable def h_52:HO:=fun z=>⟨.type (z.s 2),none,.seq #[.ref 24] 0,#[]⟩
noncomputable def h_53:HO:=fun z=>⟨.type (z.s 6),none,.fields #[.builtin (z.s 7),.type (z.s 8)],#[]⟩
noncomputable def h_54:HO:=fun z=>⟨.type (z.s 0),none,.dict #[z.e x63 246 (.str x64 187),z.e x65 248 (.str x14 247),z.e x66 250 (.int 8 249),z.e x67 251 (.ref 59)] 4,#[]⟩
noncomputable def h_55:HO:=fun z=>⟨.type (z.s 2),none,.seq #[] 0,#[]⟩
noncomputable def h_56:HO:=fun z=>⟨.none,none,.fields #[],#[]⟩
noncomputable def h_57:HO:=fun z=>⟨.type (z.s 3),none,.fields #[.str x14 241,.str x14 242,.str x9 243,.int 8 0,.int 0 0,.int 0 0,.int 0 0,.int 0 0,.ref 55,.bool false,.int 181 0,.ref 56,.none,.none,.none,.none,.int 244 0,.int 8 0,.str x9 245],#[]⟩
noncomputable def h_58:HO:=fun z=>⟨.type (z.s 4),none,.plain,#[some (.ref 57),some (.ref 3),some (.ref 54),none,some (.str x64 187),none,some (.ref 0)]⟩
noncomputable def h_59:HO:=fun z=>⟨.type (z.s 2),none,.seq #[] 0,#[]⟩
noncomputable def h_60:HO:=fun z=>⟨.type (z.s 0),none,.dict #[z.e x63 246 (.str x64 187),z.e x66 250 (.int 8 249),z.e x67 251 (.ref 59),z.e x2 252 .none] 2,#[]⟩
noncomputable def h_61:HO:=fun z=>⟨.type (z.s 8),none,.cls ⟨x14,[.ref 24],[.ref 61,.ref 24,.type (z.s 5),.type (z.s 9),.type (z.s 10),.type (z.s 11)],60,x14,true,[],[],false,none,false⟩,#[some (.ref 52),none,some (.str x14 239),some (.str x14 247),(some (.builtin (z.s 12))),some (.bool true)]⟩
noncomputable def h_62:HO:=fun z=>⟨.type (z.s 15),none,.fields #[.ref 61,.ref 61,.ref 61],#[]⟩
noncomputable def h_63:HO:=fun z=>⟨.type (z.s 6),none,.fields #[.builtin (z.s 16),.ref 61],#[]⟩
noncomputable def h_64:HO:=fun z=>⟨.type (z.s 2),none,.seq #[.ref 24] 0,#[]⟩
noncomputable def h_65:HO:=fun z=>⟨.type (z.s 6),none,.fields #[.builtin (z.s 7),.type (z.s 8)],#[]⟩
noncomputable def h_66:HO:=fun z=>⟨.type (z.s 0),none,.dict #[z.e x63 262 (.str x64 187),z.e x65 264 (.str x15 263),z.e x66 266 (.int 10 265),z.e x67 267 (.ref 71)] 4,#[]⟩
noncomputable def h_67:HO:=fun z=>⟨.type (z.s 2),none,.seq #[] 0,#[]⟩
noncomputable def h_68:HO:=fun z=>⟨.none,none,.fields #[],#[]⟩
noncomputable def h_69:HO:=fun z=>⟨.type (z.s 3),none,.fields #[.str x15 257,.str x15 258,.str x9 259,.int 10 0,.int 0 0,.int 0 0,.int 0 0,.int 0 0,.ref 67,.bool false,.int 181 0,.ref 68,.none,.none,.none,.none,.int 260 0,.int 10 0,.str x9 261],#[]⟩
noncomputable def h_70:HO:=fun z=>⟨.type (z.s 4),none,.plain,#[some (.ref 69),some (.ref 3),some (.ref 66),none,some (.str x64 187),none,some (.ref 0)]⟩
noncomputable def h_71:HO:=fun z=>⟨.type (z.s 2),none,.seq #[] 0,#[]⟩
noncomputable def h_72:HO:=fun z=>⟨.type (z.s 0),none,.dict #[z.e x63 262 (.str x64 187),z.e x66 266 (.int 10 265),z.e x67 267 (.ref 71),z.e x2 268 .none] 2,#[]⟩
noncomputable def h_73:HO:=fun z=>⟨.type (z.s 8),none,.cls ⟨x15,[.ref 24],[.ref 73,.ref 24,.type (z.s 5),.type (z.s 9),.type (z.s 10),.type (z.s 11)],72,x15,true,[],[],false,none,false⟩,#[some (.ref 64),none,some (.str x15 255),some (.str x15 263),(some (.builtin (z.s 12))),some (.bool true)]⟩
noncomputable def h_74:HO:=fun z=>⟨.type (z.s 15),none,.fields #[.ref 73,.ref 73,.ref 73],#[]⟩
noncomputable def h_75:HO:=fun z=>⟨.type (z.s 6),none,.fields #[.builtin (z.s 16),.ref 73],#[]⟩
noncomputable def h_76:HO:=fun z=>⟨.type (z.s 2),none,.seq #[.ref 24] 0,#[]⟩
noncomputable def h_77:HO:=fun z=>⟨.type (z.s 6),none,.fields #[.builtin (z.s 7),.type (z.s 8)],#[]⟩
noncomputable def h_78:HO:=fun z=>⟨.type (z.s 0),none,.dict #[z.e x63 278 (.str x64 187),z.e x65 280 (.str x16 279),z.e x66 282 (.int 12 281),z.e x67 283 (.ref 83)] 4,#[]⟩
noncomputable def h_79:HO:=fun z=>⟨.type (z.s 2),none,.seq #[] 0,#[]⟩
noncomputable def h_80:HO:=fun z=>⟨.none,none,.fields #[],#[]⟩
noncomputable def h_81:HO:=fun z=>⟨.type (z.s 3),none,.fields #[.str x16 273,.str x16 274,.str x9 275,.int 12 0,.int 0 0,.int 0 0,.int 0 0,.int 0 0,.ref 79,.bool false,.int 181 0,.ref 80,.none,.none,.none,.none,.int 276 0,.int 12 0,.str x9 277],#[]⟩
noncomputable def h_82:HO:=fun z=>⟨.type (z.s 4),none,.plain,#[some (.ref 81),some (.ref 3),some (.ref 78),none,some (.str x64 187),none,some (.ref 0)]⟩
noncomputable def h_83:HO:=fun z=>⟨.type (z.s 2),none,.seq #[] 0,#[]⟩
noncomputable def h_84:HO:=fun z=>⟨.type (z.s 0),none,.dict #[z.e x63 278 (.str x64 187),z.e x66 282 (.int 12 281),z.e x67 283 (.ref 83),z.e x2 284 .none] 2,#[]⟩
noncomputable def h_85:HO:=fun z=>⟨.type (z.s 8),none,.cls ⟨x16,[.ref 24],[.ref 85,.ref 24,.type (z.s 5),.type (z.s 9),.type (z.s 10),.type (z.s 11)],84,x16,true,[],[],false,none,false⟩,#[some (.ref 76),none,some (.str x16 271),some (.str x16 279),(some (.builtin (z.s 12))),some (.bool true)]⟩
noncomputable def h_86:HO:=fun z=>⟨.type (z.s 15),none,.fields #[.ref 85,.ref 85,.ref 85],#[]⟩
noncomputable def h_87:HO:=fun z=>⟨.type (z.s 6),none,.fields #[.builtin (z.s 16),.ref 85],#[]⟩
noncomputable def h_88:HO:=fun z=>⟨.type (z.s 2),none,.seq #[.ref 24] 0,#[]⟩
noncomputable def h_89:HO:=fun z=>⟨.type (z.s 6),none,.fields #[.builtin (z.s 7),.type (z.s 8)],#[]⟩
noncomputable def h_90:HO:=fun z=>⟨.type (z.s 0),none,.dict #[z.e x63 294 (.str x64 187),z.e x65 296 (.str x17 295),z.e x66 298 (.int 14 297),z.e x67 299 (.ref 95)] 4,#[]⟩
noncomputable def h_91:HO:=fun z=>⟨.type (z.s 2),none,.seq #[] 0,#[]⟩
noncomputable def h_92:HO:=fun z=>⟨.none,none,.fields #[],#[]⟩
noncomputable def h_93:HO:=fun z=>⟨.type (z.s 3),none,.fields #[.str x17 289,.str x17 290,.str x9 291,.int 14 0,.int 0 0,.int 0 0,.int 0 0,.int 0 0,.ref 91,.bool false,.int 181 0,.ref 92,.none,.none,.none,.none,.int 292 0,.int 14 0,.str x9 293],#[]⟩
noncomputable def h_94:HO:=fun z=>⟨.type (z.s 4),none,.plain,#[some (.ref 93),some (.ref 3),some (.ref 90),none,some (.str x64 187),none,some (.ref 0)]⟩
noncomputable def h_95:HO:=fun z=>⟨.type (z.s 2),none,.seq #[] 0,#[]⟩
noncomputable def h_96:HO:=fun z=>⟨.type (z.s 0),none,.dict #[z.e x63 294 (.str x64 187),z.e x66 298 (.int 14 297),z.e x67 299 (.ref 95),z.e x2 300 .none] 2,#[]⟩
noncomputable def h_97:HO:=fun z=>⟨.type (z.s 8),none,.cls ⟨x17,[.ref 24],[.ref 97,.ref 24,.type (z.s 5),.type (z.s 9),.type (z.s 10),.type (z.s 11)],96,x17,true,[],[],false,none,false⟩,#[some (.ref 88),none,some (.str x17 287),some (.str x17 295),(some (.builtin (z.s 12))),some (.bool true)]⟩
noncomputable def h_98:HO:=fun z=>⟨.type (z.s 15),none,.fields #[.ref 97,.ref 97,.ref 97],#[]⟩
noncomputable def h_99:HO:=fun z=>⟨.type (z.s 6),none,.fields #[.builtin (z.s 16),.ref 97],#[]⟩
noncomputable def h_100:HO:=fun z=>⟨.type (z.s 2),none,.seq #[.ref 24] 0,#[]⟩
noncomputable def h_101:HO:=fun z=>⟨.type (z.s 6),none,.fields #[.builtin (z.s 7),.type (z.s 8)],#[]⟩
noncomputable def h_102:HO:=fun z=>⟨.type (z.s 0),none,.dict #[z.e x63 310 (.str x64 187),z.e x65 312 (.str x18 311),z.e x66 314 (.int 16 313),z.e x69 322 (.ref 113),z.e x67 324 (.ref 114)] 5,#[]⟩
noncomputable def h_103:HO:=fun z=>⟨.type (z.s 2),none,.seq #[] 0,#[]⟩
noncomputable def h_104:HO:=fun z=>⟨.none,none,.fields #[.int 18 0,.int 4 0,.ref 112],#[]⟩
noncomputable def h_105:HO:=fun z=>⟨.type (z.s 3),none,.fields #[.str x18 305,.str x18 306,.str x9 307,.int 16 0,.int 0 0,.int 0 0,.int 0 0,.int 0 0,.ref 103,.bool false,.int 181 0,.ref 104,.none,.none,.none,.none,.int 308 0,.int 16 0,.str x9 309],#[]⟩
noncomputable def h_106:HO:=fun z=>⟨.type (z.s 4),none,.plain,#[some (.ref 105),some (.ref 3),some (.ref 102),none,some (.str x64 187),none,some (.ref 0)]⟩
noncomputable def h_107:HO:=fun z=>⟨.type (z.s 2),none,.seq #[] 0,#[]⟩
noncomputable def h_108:HO:=fun z=>⟨.none,none,.fields #[],#[]⟩
noncomputable def h_109:HO:=fun z=>⟨.type (z.s 2),none,.seq #[.str x70 318,.str x71 319] 0,#[]⟩
noncomputable def h_110:HO:=fun z=>⟨.type (z.s 2),none,.seq #[] 0,#[]⟩
noncomputable def h_111:HO:=fun z=>⟨.none,none,(.func (fnD (z.m 8 0) x69 x72 0 [] .none .none .none .none none .none .none 0)),#[]⟩
noncomputable def h_112:HO:=fun z=>⟨.type (z.s 3),none,.fields #[.str x69 315,.str x72 316,.str x9 317,.int 18 0,.int 2 0,.int 0 0,.int 0 0,.int 3 0,.ref 107,.bool true,.int 181 0,.ref 108,.none,.ref 109,.ref 110,.ref 111,.int 320 0,.int 18 0,.str x9 321],#[]⟩
noncomputable def h_113:HO:=fun z=>⟨.type (z.s 17),none,(.func (fnD (z.m 8 0) x69 x72 3 [] .none .none .none (.str x64 187) none (.ref 112) .none 0)),#[]⟩
noncomputable def h_114:HO:=fun z=>⟨.type (z.s 2),none,.seq #[.str x71 323] 0,#[]⟩
noncomputable def h_115:HO:=fun z=>⟨.type (z.s 0),none,.dict #[z.e x63 310 (.str x64 187),z.e x66 314 (.int 16 313),z.e x69 322 (.ref 113),z.e x67 324 (.ref 114),z.e x2 325 .none] 2,#[]⟩
noncomputable def h_116:HO:=fun z=>⟨.type (z.s 8),none,.cls ⟨x18,[.ref 24],[.ref 116,.ref 24,.type (z.s 5),.type (z.s 9),.type (z.s 10),.type (z.s 11)],115,x18,true,[],[],false,none,false⟩,#[some (.ref 100),none,some (.str x18 303),some (.str x18 311),(some (.builtin (z.s 12))),some (.bool true)]⟩
noncomputable def h_117:HO:=fun z=>⟨.type (z.s 15),none,.fields #[.ref 116,.ref 116,.ref 116],#[]⟩
noncomputable def h_118:HO:=fun z=>⟨.type (z.s 6),none,.fields #[.builtin (z.s 16),.ref 116],#[]⟩
noncomputable def h_119:HO:=fun z=>⟨.type (z.s 2),none,.seq #[] 0,#[]⟩
noncomputable def h_120:HO:=fun z=>⟨.none,none,.fields #[],#[]⟩
noncomputable def h_121:HO:=fun z=>⟨.type (z.s 2),none,.seq #[.str x73 339,.str x74 340,.str x75 341] 0,#[]⟩
noncomputable def h_122:HO:=fun z=>⟨.type (z.s 2),none,.seq #[] 0,#[]⟩
noncomputable def h_123:HO:=fun z=>⟨.none,none,(.func (fnD (z.f 13) x22 x22 0 [] .none .none .none .none none .none .none 0)),#[]⟩
noncomputable def h_124:HO:=fun z=>⟨.type (z.s 3),none,.fields #[.str x22 336,.str x22 337,.str x9 338,.int 25 0,.int 3 0,.int 0 0,.int 0 0,.int 3 0,.ref 119,.bool true,.int 181 0,.ref 120,.none,.ref 121,.ref 122,.ref 123,.int 342 0,.int 25 0,.str x9 343],#[]⟩
noncomputable def h_125:HO:=fun z=>⟨.type (z.s 17),none,(.func (fnD (z.f 13) x22 x22 3 [] .none .none .none (.str x76 328) none (.ref 124) .none 0)),#[]⟩
noncomputable def h_126:HO:=fun z=>⟨.type (z.s 2),none,.seq #[] 0,#[]⟩
noncomputable def h_127:HO:=fun z=>⟨.none,none,.fields #[],#[]⟩
noncomputable def h_128:HO:=fun z=>⟨.type (z.s 2),none,.seq #[.str x77 348,.str x78 349,.str x75 350,.str x79 351] 0,#[]⟩
noncomputable def h_129:HO:=fun z=>⟨.type (z.s 2),none,.seq #[] 0,#[]⟩
noncomputable def h_130:HO:=fun z=>⟨.none,none,(.func (fnD (z.f 14) x23 x23 0 [] .none .none .none .none none .none .none 0)),#[]⟩
noncomputable def h_131:HO:=fun z=>⟨.type (z.s 3),none,.fields #[.str x23 345,.str x23 346,.str x9 347,.int 27 0,.int 4 0,.int 0 0,.int 0 0,.int 3 0,.ref 126,.bool true,.int 181 0,.ref 127,.none,.ref 128,.ref 129,.ref 130,.int 352 0,.int 27 0,.str x9 353],#[]⟩
noncomputable def h_132:HO:=fun z=>⟨.type (z.s 17),none,(.func (fnD (z.f 14) x23 x23 3 [] .none .none .none (.str x76 328) none (.ref 131) .none 0)),#[]⟩
noncomputable def h_133:HO:=fun z=>⟨.type (z.s 2),none,.seq #[] 0,#[]⟩
noncomputable def h_134:HO:=fun z=>⟨.none,none,.fields #[],#[]⟩
noncomputable def h_135:HO:=fun z=>⟨.none,none,(.func (fnD (z.f 15) x24 x24 0 [] .none .none .none .none none .none .none 0)),#[]⟩
noncomputable def h_136:HO:=fun z=>⟨.type (z.s 3),none,.fields #[.str x24 355,.str x24 356,.str x9 357,.int 43 0,.int 1 0,.int 0 0,.int 0 0,.int 3 0,.ref 133,.bool true,.int 181 0,.ref 134,.none,.none,.none,.ref 135,.int 358 0,.int 43 0,.str x9 359],#[]⟩
noncomputable def h_137:HO:=fun z=>⟨.type (z.s 17),none,(.func (fnD (z.f 15) x24 x24 3 [] .none .none .none (.str x76 328) none (.ref 136) .none 0)),#[]⟩
noncomputable def h_138:HO:=fun z=>⟨.type (z.s 2),none,.seq #[] 0,#[]⟩
noncomputable def h_139:HO:=fun z=>⟨.none,none,.fields #[],#[]⟩
noncomputable def h_140:HO:=fun z=>⟨.type (z.s 2),none,.seq #[.str x73 364] 0,#[]⟩
noncomputable def h_141:HO:=fun z=>⟨.type (z.s 2),none,.seq #[] 0,#[]⟩
noncomputable def h_142:HO:=fun z=>⟨.none,none,(.func (fnD (z.f 16) x25 x25 0 [] .none .none .none .none none .none .none 0)),#[]⟩
noncomputable def h_143:HO:=fun z=>⟨.type (z.s 3),none,.fields #[.str x25 361,.str x25 362,.str x9 363,.int 54 0,.int 1 0,.int 0 0,.int 0 0,.int 3 0,.ref 138,.bool true,.int 181 0,.ref 139,.none,.ref 140,.ref 141,.ref 142,.int 365 0,.int 54 0,.str x9 366],#[]⟩
noncomputable def h_144:HO:=fun z=>⟨.type (z.s 17),none,(.func (fnD (z.f 16) x25 x25 3 [] .none .none .none (.str x76 328) none (.ref 143) .none 0)),#[]⟩
noncomputable def h_145:HO:=fun z=>⟨.type (z.s 2),none,.seq #[] 0,#[]⟩
noncomputable def h_146:HO:=fun z=>⟨.none,none,.fields #[],#[]⟩
noncomputable def h_147:HO:=fun z=>⟨.type (z.s 2),none,.seq #[.str x80 371,.str x81 372,.str x82 373] 0,#[]⟩
noncomputable def h_148:HO:=fun z=>⟨.type (z.s 2),none,.seq #[] 0,#[]⟩
noncomputable def h_149:HO:=fun z=>⟨.none,none,(.func (fnD (z.f 17) x26 x26 0 [] .none .none .none .none none .none .none 0)),#[]⟩
noncomputable def h_150:HO:=fun z=>⟨.type (z.s 3),none,.fields #[.str x26 368,.str x26 369,.str x9 370,.int 58 0,.int 3 0,.int 0 0,.int 0 0,.int 3 0,.ref 145,.bool true,.int 181 0,.ref 146,.none,.ref 147,.ref 148,.ref 149,.int 374 0,.int 58 0,.str x9 375],#[]⟩
noncomputable def h_151:HO:=fun z=>⟨.type (z.s 17),none,(.func (fnD (z.f 17) x26 x26 3 [] .none .none .none (.str x76 328) none (.ref 150) .none 0)),#[]⟩
noncomputable def h_152:HO:=fun z=>⟨.type (z.s 2),none,.seq #[] 0,#[]⟩
noncomputable def h_153:HO:=fun z=>⟨.none,none,.fields #[],#[]⟩
noncomputable def h_154:HO:=fun z=>⟨.type (z.s 2),none,.seq #[.str x83 380,.str x84 381,.str x85 382,.str x80 383,.str x77 384,.str x82 385] 0,#[]⟩
noncomputable def h_155:HO:=fun z=>⟨.type (z.s 2),none,.seq #[] 0,#[]⟩
noncomputable def h_156:HO:=fun z=>⟨.none,none,(.func (fnD (z.f 18) x27 x27 0 [] .none .none .none .none none .none .none 0)),#[]⟩
noncomputable def h_157:HO:=fun z=>⟨.type (z.s 3),none,.fields #[.str x27 377,.str x27 378,.str x9 379,.int 60 0,.int 2 0,.int 0 0,.int 0 0,.int 3 0,.ref 152,.bool true,.int 181 0,.ref 153,.none,.ref 154,.ref 155,.ref 156,.int 386 0,.int 60 0,.str x9 387],#[]⟩
noncomputable def h_158:HO:=fun z=>⟨.type (z.s 17),none,(.func (fnD (z.f 18) x27 x27 3 [] .none .none .none (.str x76 328) none (.ref 157) .none 0)),#[]⟩
noncomputable def h_159:HO:=fun z=>⟨.type (z.s 2),none,.seq #[] 0,#[]⟩
noncomputable def h_160:HO:=fun z=>⟨.none,none,.fields #[],#[]⟩
noncomputable def h_161:HO:=fun z=>⟨.type (z.s 2),none,.seq #[.str x86 396,.str x73 397] 0,#[]⟩
noncomputable def h_162:HO:=fun z=>⟨.type (z.s 2),none,.seq #[] 0,#[]⟩
noncomputable def h_163:HO:=fun z=>⟨.none,none,(.func (fnD (z.f 21) x29 x29 0 [] .none .none .none .none none .none .none 0)),#[]⟩
noncomputable def h_164:HO:=fun z=>⟨.type (z.s 3),none,.fields #[.str x29 393,.str x29 394,.str x9 395,.int 83 0,.int 2 0,.int 0 0,.int 0 0,.int 3 0,.ref 159,.bool true,.int 181 0,.ref 160,.none,.ref 161,.ref 162,.ref 163,.int 398 0,.int 83 0,.str x9 399],#[]⟩
noncomputable def h_165:HO:=fun z=>⟨.type (z.s 17),none,(.func (fnD (z.f 21) x29 x29 3 [] .none .none .none (.str x87 389) none (.ref 164) .none 0)),#[]⟩
noncomputable def h_166:HO:=fun z=>⟨.type (z.s 2),none,.seq #[] 0,#[]⟩
noncomputable def h_167:HO:=fun z=>⟨.none,none,.fields #[],#[]⟩
noncomputable def h_168:HO:=fun z=>⟨.none,none,(.func (fnD (z.f 22) x30 x30 0 [] .none .none .none .none none .none .none 0)),#[]⟩
noncomputable def h_169:HO:=fun z=>⟨.type (z.s 3),none,.fields #[.str x30 401,.str x30 402,.str x9 403,.int 85 0,.int 3 0,.int 0 0,.int 0 0,.int 3 0,.ref 166,.bool true,.int 181 0,.ref 167,.none,.none,.none,.ref 168,.int 404 0,.int 85 0,.str x9 405],#[]⟩
noncomputable def h_170:HO:=fun z=>⟨.type (z.s 17),none,(.func (fnD (z.f 22) x30 x30 3 [] .none .none .none (.str x87 389) none (.ref 169) .none 0)),#[]⟩
noncomputable def h_171:HO:=fun z=>⟨.type (z.s 2),none,.seq #[] 0,#[]⟩
noncomputable def h_172:HO:=fun z=>⟨.none,none,.fields #[],#[]⟩
noncomputable def h_173:HO:=fun z=>⟨.none,none,(.func (fnD (z.f 23) x31 x31 0 [] .none .none .none .none none .none .none 0)),#[]⟩
noncomputable def h_174:HO:=fun z=>⟨.type (z.s 3),none,.fields #[.str x31 407,.str x31 408,.str x9 409,.int 95 0,.int 3 0,.int 0 0,.int 0 0,.int 3 0,.ref 171,.bool true,.int 181 0,.ref 172,.none,.none,.none,.ref 173,.int 410 0,.int 95 0,.str x9 411],#[]⟩
noncomputable def h_175:HO:=fun z=>⟨.type (z.s 17),none,(.func (fnD (z.f 23) x31 x31 3 [] .none .none .none (.str x87 389) none (.ref 174) .none 0)),#[]⟩
noncomputable def h_176:HO:=fun z=>⟨.type (z.s 2),none,.seq #[] 0,#[]⟩
noncomputable def h_177:HO:=fun z=>⟨.none,none,.fields #[],#[]⟩
noncomputable def h_178:HO:=fun z=>⟨.type (z.s 2),none,.seq #[.str x88 416,.str x86 417,.str x89 418,.str x90 419,.str x85 420] 0,#[]⟩
noncomputable def h_179:HO:=fun z=>⟨.type (z.s 2),none,.seq #[] 0,#[]⟩
noncomputable def h_180:HO:=fun z=>⟨.none,none,(.func (fnD (z.f 24) x32 x32 0 [] .none .none .none .none none .none .none 0)),#[]⟩
noncomputable def h_181:HO:=fun z=>⟨.type (z.s 3),none,.fields #[.str x32 413,.str x32 414,.str x9 415,.int 101 0,.int 3 0,.int 0 0,.int 0 0,.int 3 0,.ref 176,.bool true,.int 181 0,.ref 177,.none,.ref 178,.ref 179,.ref 180,.int 421 0,.int 101 0,.str x9 422],#[]⟩
noncomputable def h_182:HO:=fun z=>⟨.type (z.s 17),none,(.func (fnD (z.f 24) x32 x32 3 [] .none .none .none (.str x87 389) none (.ref 181) .none 0)),#[]⟩
noncomputable def h_183:HO:=fun z=>⟨.type (z.s 2),none,.seq #[] 0,#[]⟩
noncomputable def h_184:HO:=fun z=>⟨.none,none,.fields #[],#[]⟩
noncomputable def h_185:HO:=fun z=>⟨.type (z.s 2),none,.seq #[.str x91 427,.str x80 428] 0,#[]⟩
noncomputable def h_186:HO:=fun z=>⟨.type (z.s 2),none,.seq #[] 0,#[]⟩
noncomputable def h_187:HO:=fun z=>⟨.none,none,(.func (fnD (z.f 25) x33 x33 0 [] .none .none .none .none none .none .none 0)),#[]⟩
noncomputable def h_188:HO:=fun z=>⟨.type (z.s 3),none,.fields #[.str x33 424,.str x33 425,.str x9 426,.int 110 0,.int 2 0,.int 0 0,.int 0 0,.int 3 0,.ref 183,.bool true,.int 181 0,.ref 184,.none,.ref 185,.ref 186,.ref 187,.int 429 0,.int 110 0,.str x9 430],#[]⟩
noncomputable def h_189:HO:=fun z=>⟨.type (z.s 17),none,(.func (fnD (z.f 25) x33 x33 3 [] .none .none .none (.str x87 389) none (.ref 188) .none 0)),#[]⟩
noncomputable def h_190:HO:=fun z=>⟨.type (z.s 2),none,.seq #[] 0,#[]⟩
noncomputable def h_191:HO:=fun z=>⟨.none,none,.fields #[],#[]⟩
noncomputable def h_192:HO:=fun z=>⟨.none,none,(.func (fnD (z.f 26) x34 x34 0 [] .none .none .none .none none .none .none 0)),#[]⟩
noncomputable def h_193:HO:=fun z=>⟨.type (z.s 3),none,.fields #[.str x34 432,.str x34 433,.str x9 434,.int 114 0,.int 2 0,.int 0 0,.int 0 0,.int 3 0,.ref 190,.bool true,.int 181 0,.ref 191,.none,.none,.none,.ref 192,.int 435 0,.int 114 0,.str x9 436],#[]⟩
noncomputable def h_194:HO:=fun z=>⟨.type (z.s 17),none,(.func (fnD (z.f 26) x34 x34 3 [] .none .none .none (.str x87 389) none (.ref 193) .none 0)),#[]⟩
noncomputable def h_195:HO:=fun z=>⟨.type (z.s 2),none,.seq #[] 0,#[]⟩
noncomputable def h_196:HO:=fun z=>⟨.none,none,.fields #[],#[]⟩
noncomputable def h_197:HO:=fun z=>⟨.type (z.s 2),none,.seq #[.str x89 441,.str x77 442,.str x85 443] 0,#[]⟩
noncomputable def h_198:HO:=fun z=>⟨.type (z.s 2),none,.seq #[] 0,#[]⟩
noncomputable def h_199:HO:=fun z=>⟨.none,none,(.func (fnD (z.f 27) x35 x35 0 [] .none .none .none .none none .none .none 0)),#[]⟩
noncomputable def h_200:HO:=fun z=>⟨.type (z.s 3),none,.fields #[.str x35 438,.str x35 439,.str x9 440,.int 119 0,.int 2 0,.int 0 0,.int 0 0,.int 3 0,.ref 195,.bool true,.int 181 0,.ref 196,.none,.ref 197,.ref 198,.ref 199,.int 444 0,.int 119 0,.str x9 445],#[]⟩
noncomputable def h_201:HO:=fun z=>⟨.type (z.s 17),none,(.func (fnD (z.f 27) x35 x35 3 [] .none .none .none (.str x87 389) none (.ref 200) .none 0)),#[]⟩
noncomputable def h_202:HO:=fun z=>⟨.type (z.s 2),none,.seq #[] 0,#[]⟩
noncomputable def h_203:HO:=fun z=>⟨.none,none,.fields #[],#[]⟩
noncomputable def h_204:HO:=fun z=>⟨.type (z.s 2),none,.seq #[.str x83 452,.str x92 453,.str x81 454,.str x93 455,.str x80 456,.str x82 457] 0,#[]⟩
noncomputable def h_205:HO:=fun z=>⟨.type (z.s 2),none,.seq #[] 0,#[]⟩
noncomputable def h_206:HO:=fun z=>⟨.none,none,(.func (fnD (z.f 29) x36 x36 0 [] .none .none .none .none none .none .none 0)),#[]⟩
noncomputable def h_207:HO:=fun z=>⟨.type (z.s 3),none,.fields #[.str x36 449,.str x36 450,.str x9 451,.int 125 0,.int 1 0,.int 0 0,.int 0 0,.int 3 0,.ref 202,.bool true,.int 181 0,.ref 203,.none,.ref 204,.ref 205,.ref 206,.int 458 0,.int 125 0,.str x9 459],#[]⟩
noncomputable def h_208:HO:=fun z=>⟨.type (z.s 17),none,(.func (fnD (z.f 29) x36 x36 3 [] .none .none .none (.str x94 447) none (.ref 207) .none 0)),#[]⟩
noncomputable def h_209:HO:=fun z=>⟨.type (z.s 2),none,.seq #[] 0,#[]⟩
noncomputable def h_210:HO:=fun z=>⟨.none,none,.fields #[],#[]⟩
noncomputable def h_211:HO:=fun z=>⟨.type (z.s 2),none,.seq #[.str x88 464,.str x89 465,.str x84 466,.str x90 467,.str x79 468,.str x85 469] 0,#[]⟩
noncomputable def h_212:HO:=fun z=>⟨.type (z.s 2),none,.seq #[] 0,#[]⟩
noncomputable def h_213:HO:=fun z=>⟨.none,none,(.func (fnD (z.f 30) x37 x37 0 [] .none .none .none .none none .none .none 0)),#[]⟩
noncomputable def h_214:HO:=fun z=>⟨.type (z.s 3),none,.fields #[.str x37 461,.str x37 462,.str x9 463,.int 134 0,.int 3 0,.int 0 0,.int 0 0,.int 3 0,.ref 209,.bool true,.int 181 0,.ref 210,.none,.ref 211,.ref 212,.ref 213,.int 470 0,.int 134 0,.str x9 471],#[]⟩
noncomputable def h_215:HO:=fun z=>⟨.type (z.s 17),none,(.func (fnD (z.f 30) x37 x37 3 [] .none .none .none (.str x94 447) none (.ref 214) .none 0)),#[]⟩
noncomputable def h_216:HO:=fun z=>⟨.type (z.s 2),none,.seq #[] 0,#[]⟩
noncomputable def h_217:HO:=fun z=>⟨.none,none,.fields #[],#[]⟩
noncomputable def h_218:HO:=fun z=>⟨.type (z.s 2),none,.seq #[.str x88 476,.str x89 477,.str x95 478,.str x84 479,.str x90 480,.str x79 481,.str x92 482] 0,#[]⟩
noncomputable def h_219:HO:=fun z=>⟨.type (z.s 2),none,.seq #[] 0,#[]⟩
noncomputable def h_220:HO:=fun z=>⟨.none,none,(.func (fnD (z.f 31) x38 x38 0 [] .none .none .none .none none .none .none 0)),#[]⟩
noncomputable def h_221:HO:=fun z=>⟨.type (z.s 3),none,.fields #[.str x38 473,.str x38 474,.str x9 475,.int 149 0,.int 3 0,.int 0 0,.int 0 0,.int 3 0,.ref 216,.bool true,.int 181 0,.ref 217,.none,.ref 218,.ref 219,.ref 220,.int 483 0,.int 149 0,.str x9 484],#[]⟩
noncomputable def h_222:HO:=fun z=>⟨.type (z.s 17),none,(.func (fnD (z.f 31) x38 x38 3 [] .none .none .none (.str x94 447) none (.ref 221) .none 0)),#[]⟩
noncomputable def h_223:HO:=fun z=>⟨.type (z.s 2),none,.seq #[] 0,#[]⟩
noncomputable def h_224:HO:=fun z=>⟨.none,none,.fields #[],#[]⟩
noncomputable def h_225:HO:=fun z=>⟨.type (z.s 2),none,.seq #[.str x88 489,.str x86 490,.str x89 491,.str x95 492,.str x92 493] 0,#[]⟩
noncomputable def h_226:HO:=fun z=>⟨.type (z.s 2),none,.seq #[] 0,#[]⟩
noncomputable def h_227:HO:=fun z=>⟨.none,none,(.func (fnD (z.f 32) x39 x39 0 [] .none .none .none .none none .none .none 0)),#[]⟩
noncomputable def h_228:HO:=fun z=>⟨.type (z.s 3),none,.fields #[.str x39 486,.str x39 487,.str x9 488,.int 161 0,.int 3 0,.int 0 0,.int 0 0,.int 3 0,.ref 223,.bool true,.int 181 0,.ref 224,.none,.ref 225,.ref 226,.ref 227,.int 494 0,.int 161 0,.str x9 495],#[]⟩
noncomputable def h_229:HO:=fun z=>⟨.type (z.s 17),none,(.func (fnD (z.f 32) x39 x39 3 [] .none .none .none (.str x94 447) none (.ref 228) .none 0)),#[]⟩
noncomputable def h_230:HO:=fun z=>⟨.type (z.s 2),none,.seq #[] 0,#[]⟩
noncomputable def h_231:HO:=fun z=>⟨.none,none,.fields #[],#[]⟩
noncomputable def h_232:HO:=fun z=>⟨.type (z.s 2),none,.seq #[.str x96 502,.str x97 503] 0,#[]⟩
noncomputable def h_233:HO:=fun z=>⟨.type (z.s 2),none,.seq #[] 0,#[]⟩
noncomputable def h_234:HO:=fun z=>⟨.none,none,(.func (fnD (z.f 34) x40 x40 0 [] .none .none .none .none none .none .none 0)),#[]⟩
noncomputable def h_235:HO:=fun z=>⟨.type (z.s 3),none,.fields #[.str x40 499,.str x40 500,.str x9 501,.int 171 0,.int 2 0,.int 0 0,.int 0 0,.int 3 0,.ref 230,.bool true,.int 181 0,.ref 231,.none,.ref 232,.ref 233,.ref 234,.int 504 0,.int 171 0,.str x9 505],#[]⟩
noncomputable def h_236:HO:=fun z=>⟨.type (z.s 17),none,(.func (fnD (z.f 34) x40 x40 3 [] .none .none .none (.str x1 497) none (.ref 235) .none 0)),#[]⟩
noncomputable def h_237:HO:=fun z=>⟨.type (z.s 2),none,.seq #[] 0,#[]⟩
noncomputable def h_238:HO:=fun z=>⟨.none,none,.fields #[],#[]⟩
noncomputable def h_239:HO:=fun z=>⟨.type (z.s 2),none,.seq #[.str x98 510] 0,#[]⟩
noncomputable def h_240:HO:=fun z=>⟨.type (z.s 2),none,.seq #[] 0,#[]⟩
noncomputable def h_241:HO:=fun z=>⟨.none,none,(.func (fnD (z.f 35) x41 x41 0 [] .none .none .none .none none .none .none 0)),#[]⟩
noncomputable def h_242:HO:=fun z=>⟨.type (z.s 3),none,.fields #[.str x41 507,.str x41 508,.str x9 509,.int 175 0,.int 1 0,.int 0 0,.int 0 0,.int 3 0,.ref 237,.bool true,.int 181 0,.ref 238,.none,.ref 239,.ref 240,.ref 241,.int 511 0,.int 175 0,.str x9 512],#[]⟩
noncomputable def h_243:HO:=fun z=>⟨.type (z.s 17),none,(.func (fnD (z.f 35) x41 x41 3 [] .none .none .none (.str x1 497) none (.ref 242) .none 0)),#[]⟩
noncomputable def h_244:HO:=fun z=>⟨.type (z.s 2),none,.seq #[] 0,#[]⟩
noncomputable def h_245:HO:=fun z=>⟨.none,none,.fields #[],#[]⟩
noncomputable def h_246:HO:=fun z=>⟨.type (z.s 2),none,.seq #[.str x98 517,.str x99 518,.str x100 519,.str x101 520,.str x102 521,.str x103 522] 0,#[]⟩
noncomputable def h_247:HO:=fun z=>⟨.type (z.s 2),none,.seq #[] 0,#[]⟩
noncomputable def h_248:HO:=fun z=>⟨.none,none,(.func (fnD (z.f 36) x42 x42 0 [] .none .none .none .none none .none .none 0)),#[]⟩
noncomputable def h_249:HO:=fun z=>⟨.type (z.s 3),none,.fields #[.str x42 514,.str x42 515,.str x9 516,.int 177 0,.int 4 0,.int 0 0,.int 0 0,.int 3 0,.ref 244,.bool true,.int 181 0,.ref 245,.none,.ref 246,.ref 247,.ref 248,.int 523 0,.int 177 0,.str x9 524],#[]⟩
noncomputable def h_250:HO:=fun z=>⟨.type (z.s 17),none,(.func (fnD (z.f 36) x42 x42 3 [] .none .none .none (.str x1 497) none (.ref 249) .none 0)),#[]⟩
noncomputable def h_251:HO:=fun z=>⟨.type (z.s 2),none,.seq #[] 0,#[]⟩
noncomputable def h_252:HO:=fun z=>⟨.none,none,.fields #[],#[]⟩
noncomputable def h_253:HO:=fun z=>⟨.type (z.s 2),none,.seq #[.str x104 529,.str x98 530,.str x99 531,.str x100 532,.str x101 533,.str x105 534,.str x97 535] 0,#[]⟩
noncomputable def h_254:HO:=fun z=>⟨.type (z.s 2),none,.seq #[] 0,#[]⟩
noncomputable def h_255:HO:=fun z=>⟨.none,none,(.func (fnD (z.f 37) x43 x43 0 [] .none .none .none .none none .none .none 0)),#[]⟩
noncomputable def h_256:HO:=fun z=>⟨.type (z.s 3),none,.fields #[.str x43 526,.str x43 527,.str x9 528,.int 193 0,.int 1 0,.int 0 0,.int 0 0,.int 3 0,.ref 251,.bool true,.int 181 0,.ref 252,.none,.ref 253,.ref 254,.ref 255,.int 536 0,.int 193 0,.str x9 537],#[]⟩
noncomputable def h_257:HO:=fun z=>⟨.type (z.s 17),none,(.func (fnD (z.f 37) x43 x43 3 [] .none .none .none (.str x1 497) none (.ref 256) .none 0)),#[]⟩
noncomputable def h_258:HO:=fun z=>⟨.type (z.s 2),none,.seq #[] 0,#[]⟩
noncomputable def h_259:HO:=fun z=>⟨.none,none,.fields #[],#[]⟩
noncomputable def h_260:HO:=fun z=>⟨.type (z.s 2),none,.seq #[.str x98 542,.str x106 543,.str x107 544,.str x108 545,.str x97 546] 0,#[]⟩
noncomputable def h_261:HO:=fun z=>⟨.type (z.s 2),none,.seq #[] 0,#[]⟩
noncomputable def h_262:HO:=fun z=>⟨.none,none,(.func (fnD (z.f 38) x44 x44 0 [] .none .none .none .none none .none .none 0)),#[]⟩
noncomputable def h_263:HO:=fun z=>⟨.type (z.s 3),none,.fields #[.str x44 539,.str x44 540,.str x9 541,.int 205 0,.int 3 0,.int 0 0,.int 0 0,.int 3 0,.ref 258,.bool true,.int 181 0,.ref 259,.none,.ref 260,.ref 261,.ref 262,.int 547 0,.int 205 0,.str x9 548],#[]⟩
noncomputable def h_264:HO:=fun z=>⟨.type (z.s 17),none,(.func (fnD (z.f 38) x44 x44 3 [] .none .none .none (.str x1 497) none (.ref 263) .none 0)),#[]⟩
noncomputable def h_265:HO:=fun z=>⟨.type (z.s 2),none,.seq #[] 0,#[]⟩
noncomputable def h_266:HO:=fun z=>⟨.none,none,.fields #[],#[]⟩
noncomputable def h_267:HO:=fun z=>⟨.none,none,(.func (fnD (z.f 39) x45 x45 0 [] .none .none .none .none none .none .none 0)),#[]⟩
noncomputable def h_268:HO:=fun z=>⟨.type (z.s 3),none,.fields #[.str x45 550,.str x45 551,.str x9 552,.int 212 0,.int 3 0,.int 0 0,.int 0 0,.int 3 0,.ref 265,.bool true,.int 181 0,.ref 266,.none,.none,.none,.ref 267,.int 553 0,.int 212 0,.str x9 554],#[]⟩
noncomputable def h_269:HO:=fun z=>⟨.type (z.s 17),none,(.func (fnD (z.f 39) x45 x45 3 [] .none .none .none (.str x1 497) none (.ref 268) .none 0)),#[]⟩
noncomputable def h_270:HO:=fun z=>⟨.type (z.s 2),none,.seq #[] 0,#[]⟩
noncomputable def h_271:HO:=fun z=>⟨.none,none,.fields #[],#[]⟩
noncomputable def h_272:HO:=fun z=>⟨.type (z.s 2),none,.seq #[.str x98 559,.str x109 560,.str x110 561,.str x103 562] 0,#[]⟩
noncomputable def h_273:HO:=fun z=>⟨.type (z.s 2),none,.seq #[] 0,#[]⟩
noncomputable def h_274:HO:=fun z=>⟨.none,none,(.func (fnD (z.f 40) x46 x46 0 [] .none .none .none .none none .none .none 0)),#[]⟩
noncomputable def h_275:HO:=fun z=>⟨.type (z.s 3),none,.fields #[.str x46 556,.str x46 557,.str x9 558,.int 221 0,.int 2 0,.int 0 0,.int 0 0,.int 3 0,.ref 270,.bool true,.int 181 0,.ref 271,.none,.ref 272,.ref 273,.ref 274,.int 563 0,.int 221 0,.str x9 564],#[]⟩
noncomputable def h_276:HO:=fun z=>⟨.type (z.s 17),none,(.func (fnD (z.f 40) x46 x46 3 [] .none .none .none (.str x1 497) none (.ref 275) .none 0)),#[]⟩
noncomputable def h_277:HO:=fun z=>⟨.type (z.s 2),none,.seq #[] 0,#[]⟩
noncomputable def h_278:HO:=fun z=>⟨.none,none,.fields #[],#[]⟩
noncomputable def h_279:HO:=fun z=>⟨.type (z.s 2),none,.seq #[.str x108 569,.str x103 570,.str x111 571,.str x112 572] 0,#[]⟩
noncomputable def h_280:HO:=fun z=>⟨.type (z.s 2),none,.seq #[] 0,#[]⟩
noncomputable def h_281:HO:=fun z=>⟨.none,none,(.func (fnD (z.f 41) x47 x47 0 [] .none .none .none .none none .none .none 0)),#[]⟩
noncomputable def h_282:HO:=fun z=>⟨.type (z.s 3),none,.fields #[.str x47 566,.str x47 567,.str x9 568,.int 227 0,.int 3 0,.int 0 0,.int 0 0,.int 3 0,.ref 277,.bool true,.int 181 0,.ref 278,.none,.ref 279,.ref 280,.ref 281,.int 573 0,.int 227 0,.str x9 574],#[]⟩
noncomputable def h_283:HO:=fun z=>⟨.type (z.s 17),none,(.func (fnD (z.f 41) x47 x47 3 [] .none .none .none (.str x1 497) none (.ref 282) .none 0)),#[]⟩
noncomputable def h_284:HO:=fun z=>⟨.type (z.s 2),none,.seq #[] 0,#[]⟩
noncomputable def h_285:HO:=fun z=>⟨.none,none,.fields #[],#[]⟩
noncomputable def h_286:HO:=fun z=>⟨.type (z.s 2),none,.seq #[.str x109 579,.str x113 580,.str x114 581,.str x108 582,.str x112 583,.str x115 584] 0,#[]⟩
noncomputable def h_287:HO:=fun z=>⟨.type (z.s 2),none,.seq #[] 0,#[]⟩
noncomputable def h_288:HO:=fun z=>⟨.none,none,(.func (fnD (z.f 42) x48 x48 0 [] .none .none .none .none none .none .none 0)),#[]⟩
noncomputable def h_289:HO:=fun z=>⟨.type (z.s 3),none,.fields #[.str x48 576,.str x48 577,.str x9 578,.int 231 0,.int 2 0,.int 0 0,.int 0 0,.int 3 0,.ref 284,.bool true,.int 181 0,.ref 285,.none,.ref 286,.ref 287,.ref 288,.int 585 0,.int 231 0,.str x9 586],#[]⟩
noncomputable def h_290:HO:=fun z=>⟨.type (z.s 17),none,(.func (fnD (z.f 42) x48 x48 3 [] .none .none .none (.str x1 497) none (.ref 289) .none 0)),#[]⟩
noncomputable def h_291:HO:=fun z=>⟨.type (z.s 2),none,.seq #[] 0,#[]⟩
noncomputable def h_292:HO:=fun z=>⟨.none,none,.fields #[],#[]⟩
noncomputable def h_293:HO:=fun z=>⟨.type (z.s 2),none,.seq #[.str x116 591,.str x108 592,.str x110 593,.str x117 594,.str x111 595] 0,#[]⟩
noncomputable def h_294:HO:=fun z=>⟨.type (z.s 2),none,.seq #[] 0,#[]⟩
noncomputable def h_295:HO:=fun z=>⟨.none,none,(.func (fnD (z.f 43) x49 x49 0 [] .none .none .none .none none .none .none 0)),#[]⟩
noncomputable def h_296:HO:=fun z=>⟨.type (z.s 3),none,.fields #[.str x49 588,.str x49 589,.str x9 590,.int 249 0,.int 2 0,.int 0 0,.int 0 0,.int 3 0,.ref 291,.bool true,.int 181 0,.ref 292,.none,.ref 293,.ref 294,.ref 295,.int 596 0,.int 249 0,.str x9 597],#[]⟩
noncomputable def h_297:HO:=fun z=>⟨.type (z.s 17),none,(.func (fnD (z.f 43) x49 x49 3 [] .none .none .none (.str x1 497) none (.ref 296) .none 0)),#[]⟩
noncomputable def h_298:HO:=fun z=>⟨.type (z.s 2),none,.seq #[] 0,#[]⟩
noncomputable def h_299:HO:=fun z=>⟨.none,none,.fields #[],#[]⟩
noncomputable def h_300:HO:=fun z=>⟨.type (z.s 2),none,.seq #[.str x109 602,.str x110 603,.str x103 604,.str x115 605,.str x118 606,.str x111 607] 0,#[]⟩
noncomputable def h_301:HO:=fun z=>⟨.type (z.s 2),none,.seq #[] 0,#[]⟩
noncomputable def h_302:HO:=fun z=>⟨.none,none,(.func (fnD (z.f 44) x50 x50 0 [] .none .none .none .none none .none .none 0)),#[]⟩
noncomputable def h_303:HO:=fun z=>⟨.type (z.s 3),none,.fields #[.str x50 599,.str x50 600,.str x9 601,.int 259 0,.int 1 0,.int 0 0,.int 0 0,.int 3 0,.ref 298,.bool true,.int 181 0,.ref 299,.none,.ref 300,.ref 301,.ref 302,.int 608 0,.int 259 0,.str x9 609],#[]⟩
noncomputable def h_304:HO:=fun z=>⟨.type (z.s 17),none,(.func (fnD (z.f 44) x50 x50 3 [] .none .none .none (.str x1 497) none (.ref 303) .none 0)),#[]⟩
noncomputable def h_305:HO:=fun z=>⟨.type (z.s 2),none,.seq #[] 0,#[]⟩
noncomputable def h_306:HO:=fun z=>⟨.none,none,.fields #[],#[]⟩
noncomputable def h_307:HO:=fun z=>⟨.type (z.s 2),none,.seq #[.str x119 614,.str x116 615,.str x120 616] 0,#[]⟩
noncomputable def h_308:HO:=fun z=>⟨.type (z.s 2),none,.seq #[] 0,#[]⟩
noncomputable def h_309:HO:=fun z=>⟨.none,none,(.func (fnD (z.f 45) x51 x51 0 [] .none .none .none .none none .none .none 0)),#[]⟩
noncomputable def h_310:HO:=fun z=>⟨.type (z.s 3),none,.fields #[.str x51 611,.str x51 612,.str x9 613,.int 268 0,.int 1 0,.int 0 0,.int 0 0,.int 3 0,.ref 305,.bool true,.int 181 0,.ref 306,.none,.ref 307,.ref 308,.ref 309,.int 617 0,.int 268 0,.str x9 618],#[]⟩
noncomputable def h_311:HO:=fun z=>⟨.type (z.s 17),none,(.func (fnD (z.f 45) x51 x51 3 [] .none .none .none (.str x1 497) none (.ref 310) .none 0)),#[]⟩
noncomputable def h_312:HO:=fun z=>⟨.type (z.s 2),none,.seq #[] 0,#[]⟩
noncomputable def h_313:HO:=fun z=>⟨.none,none,.fields #[],#[]⟩
noncomputable def h_314:HO:=fun z=>⟨.type (z.s 2),none,.seq #[.str x106 623,.str x116 624,.str x113 625,.str x121 626] 0,#[]⟩
noncomputable def h_315:HO:=fun z=>⟨.type (z.s 2),none,.seq #[] 0,#[]⟩
noncomputable def h_316:HO:=fun z=>⟨.none,none,(.func (fnD (z.f 46) x52 x52 0 [] .none .none .none .none none .none .none 0)),#[]⟩
noncomputable def h_317:HO:=fun z=>⟨.type (z.s 3),none,.fields #[.str x52 620,.str x52 621,.str x9 622,.int 273 0,.int 3 0,.int 0 0,.int 0 0,.int 3 0,.ref 312,.bool true,.int 181 0,.ref 313,.none,.ref 314,.ref 315,.ref 316,.int 627 0,.int 273 0,.str x9 628],#[]⟩
noncomputable def h_318:HO:=fun z=>⟨.type (z.s 17),none,(.func (fnD (z.f 46) x52 x52 3 [] .none .none .none (.str x1 497) none (.ref 317) .none 0)),#[]⟩
noncomputable def h_319:HO:=fun z=>⟨.type (z.s 2),none,.seq #[] 0,#[]⟩
noncomputable def h_320:HO:=fun z=>⟨.none,none,.fields #[],#[]⟩
noncomputable def h_321:HO:=fun z=>⟨.type (z.s 2),none,.seq #[.str x116 633,.str x122 634,.str x123 635,.str x124 636,.str x113 637] 0,#[]⟩
noncomputable def h_322:HO:=fun z=>⟨.type (z.s 2),none,.seq #[] 0,#[]⟩
noncomputable def h_323:HO:=fun z=>⟨.none,none,(.func (fnD (z.f 47) x53 x53 0 [] .none .none .none .none none .none .none 0)),#[]⟩
noncomputable def h_324:HO:=fun z=>⟨.type (z.s 3),none,.fields #[.str x53 630,.str x53 631,.str x9 632,.int 283 0,.int 4 0,.int 0 0,.int 0 0,.int 3 0,.ref 319,.bool true,.int 181 0,.ref 320,.none,.ref 321,.ref 322,.ref 323,.int 638 0,.int 283 0,.str x9 639],#[]⟩
noncomputable def h_325:HO:=fun z=>⟨.type (z.s 17),none,(.func (fnD (z.f 47) x53 x53 3 [] .none .none .none (.str x1 497) none (.ref 324) .none 0)),#[]⟩
noncomputable def h_326:HO:=fun z=>⟨.type (z.s 2),none,.seq #[] 0,#[]⟩
noncomputable def h_327:HO:=fun z=>⟨.none,none,.fields #[],#[]⟩
noncomputable def h_328:HO:=fun z=>⟨.type (z.s 2),none,.seq #[.str x106 644,.str x116 645,.str x124 646,.str x118 647,.str x113 648,.str x125 649,.str x123 650] 0,#[]⟩
noncomputable def h_329:HO:=fun z=>⟨.type (z.s 2),none,.seq #[] 0,#[]⟩
noncomputable def h_330:HO:=fun z=>⟨.none,none,(.func (fnD (z.f 48) x54 x54 0 [] .none .none .none .none none .none .none 0)),#[]⟩
noncomputable def h_331:HO:=fun z=>⟨.type (z.s 3),none,.fields #[.str x54 641,.str x54 642,.str x9 643,.int 288 0,.int 2 0,.int 0 0,.int 0 0,.int 3 0,.ref 326,.bool true,.int 181 0,.ref 327,.none,.ref 328,.ref 329,.ref 330,.int 651 0,.int 288 0,.str x9 652],#[]⟩
noncomputable def h_332:HO:=fun z=>⟨.type (z.s 17),none,(.func (fnD (z.f 48) x54 x54 3 [] .none .none .none (.str x1 497) none (.ref 331) .none 0)),#[]⟩
noncomputable def h_333:HO:=fun z=>⟨.type (z.s 2),none,.seq #[] 0,#[]⟩
noncomputable def h_334:HO:=fun z=>⟨.none,none,.fields #[],#[]⟩
noncomputable def h_335:HO:=fun z=>⟨.type (z.s 2),none,.seq #[.str x109 657,.str x101 658,.str x103 659] 0,#[]⟩
noncomputable def h_336:HO:=fun z=>⟨.type (z.s 2),none,.seq #[] 0,#[]⟩
noncomputable def h_337:HO:=fun z=>⟨.none,none,(.func (fnD (z.f 49) x55 x55 0 [] .none .none .none .none none .none .none 0)),#[]⟩
noncomputable def h_338:HO:=fun z=>⟨.type (z.s 3),none,.fields #[.str x55 654,.str x55 655,.str x9 656,.int 303 0,.int 1 0,.int 0 0,.int 0 0,.int 3 0,.ref 333,.bool true,.int 181 0,.ref 334,.none,.ref 335,.ref 336,.ref 337,.int 660 0,.int 303 0,.str x9 661],#[]⟩
noncomputable def h_339:HO:=fun z=>⟨.type (z.s 17),none,(.func (fnD (z.f 49) x55 x55 3 [] .none .none .none (.str x1 497) none (.ref 338) .none 0)),#[]⟩
noncomputable def h_340:HO:=fun z=>⟨.type (z.s 2),none,.seq #[] 0,#[]⟩
noncomputable def h_341:HO:=fun z=>⟨.none,none,.fields #[],#[]⟩
noncomputable def h_342:HO:=fun z=>⟨.none,none,(.func (fnD (z.f 50) x56 x56 0 [] .none .none .none .none none .none .none 0)),#[]⟩
noncomputable def h_343:HO:=fun z=>⟨.type (z.s 3),none,.fields #[.str x56 663,.str x56 664,.str x9 665,.int 308 0,.int 1 0,.int 0 0,.int 0 0,.int 3 0,.ref 340,.bool true,.int 181 0,.ref 341,.none,.none,.none,.ref 342,.int 666 0,.int 308 0,.str x9 667],#[]⟩
noncomputable def h_344:HO:=fun z=>⟨.type (z.s 17),none,(.func (fnD (z.f 50) x56 x56 3 [] .none .none .none (.str x1 497) none (.ref 343) .none 0)),#[]⟩
noncomputable def h_345:HO:=fun z=>⟨.type (z.s 2),none,.seq #[] 0,#[]⟩
noncomputable def h_346:HO:=fun z=>⟨.none,none,.fields #[],#[]⟩
noncomputable def h_347:HO:=fun z=>⟨.type (z.s 2),none,.seq #[.str x106 672,.str x116 673,.str x110 674,.str x126 675,.str x113 676,.str x127 677] 0,#[]⟩
noncomputable def h_348:HO:=fun z=>⟨.type (z.s 2),none,.seq #[] 0,#[]⟩
noncomputable def h_349:HO:=fun z=>⟨.none,none,(.func (fnD (z.f 51) x57 x57 0 [] .none .none .none .none none .none .none 0)),#[]⟩
noncomputable def h_350:HO:=fun z=>⟨.type (z.s 3),none,.fields #[.str x57 669,.str x57 670,.str x9 671,.int 312 0,.int 4 0,.int 0 0,.int 0 0,.int 3 0,.ref 345,.bool true,.int 181 0,.ref 346,.none,.ref 347,.ref 348,.ref 349,.int 678 0,.int 312 0,.str x9 679],#[]⟩
noncomputable def h_351:HO:=fun z=>⟨.type (z.s 17),none,(.func (fnD (z.f 51) x57 x57 3 [] .none .none .none (.str x1 497) none (.ref 350) .none 0)),#[]⟩
noncomputable def h_352:HO:=fun z=>⟨.type (z.s 2),none,.seq #[] 0,#[]⟩
noncomputable def h_353:HO:=fun z=>⟨.none,none,.fields #[],#[]⟩
noncomputable def h_354:HO:=fun z=>⟨.type (z.s 2),none,.seq #[.str x106 684,.str x107 685,.str x119 686,.str x104 687,.str x116 688,.str x128 689] 0,#[]⟩
noncomputable def h_355:HO:=fun z=>⟨.type (z.s 2),none,.seq #[] 0,#[]⟩
noncomputable def h_356:HO:=fun z=>⟨.none,none,(.func (fnD (z.f 52) x58 x58 0 [] .none .none .none .none none .none .none 0)),#[]⟩
noncomputable def h_357:HO:=fun z=>⟨.type (z.s 3),none,.fields #[.str x58 681,.str x58 682,.str x9 683,.int 326 0,.int 4 0,.int 0 0,.int 0 0,.int 3 0,.ref 352,.bool true,.int 181 0,.ref 353,.none,.ref 354,.ref 355,.ref 356,.int 690 0,.int 326 0,.str x9 691],#[]⟩
noncomputable def h_358:HO:=fun z=>⟨.type (z.s 17),none,(.func (fnD (z.f 52) x58 x58 3 [] .none .none .none (.str x1 497) none (.ref 357) .none 0)),#[]⟩
noncomputable def h_359:HO:=fun z=>⟨.type (z.s 2),none,.seq #[] 0,#[]⟩
noncomputable def h_360:HO:=fun z=>⟨.none,none,.fields #[],#[]⟩
noncomputable def h_361:HO:=fun z=>⟨.type (z.s 2),none,.seq #[.str x106 696,.str x107 697,.str x119 698,.str x129 699,.str x130 700,.str x131 701] 0,#[]⟩
noncomputable def h_362:HO:=fun z=>⟨.type (z.s 2),none,.seq #[] 0,#[]⟩
noncomputable def h_363:HO:=fun z=>⟨.none,none,(.func (fnD (z.f 53) x59 x59 0 [] .none .none .none .none none .none .none 0)),#[]⟩
noncomputable def h_364:HO:=fun z=>⟨.type (z.s 3),none,.fields #[.str x59 693,.str x59 694,.str x9 695,.int 336 0,.int 3 0,.int 0 0,.int 0 0,.int 3 0,.ref 359,.bool true,.int 181 0,.ref 360,.none,.ref 361,.ref 362,.ref 363,.int 702 0,.int 336 0,.str x9 703],#[]⟩
noncomputable def h_365:HO:=fun z=>⟨.type (z.s 17),none,(.func (fnD (z.f 53) x59 x59 3 [] .none .none .none (.str x1 497) none (.ref 364) .none 0)),#[]⟩
noncomputable def h_366:HO:=fun z=>⟨.type (z.s 2),none,.seq #[] 0,#[]⟩
noncomputable def h_367:HO:=fun z=>⟨.none,none,.fields #[],#[]⟩
noncomputable def h_368:HO:=fun z=>⟨.type (z.s 2),none,.seq #[.str x96 708,.str x106 709,.str x107 710,.str x119 711,.str x132 712,.str x133 713,.str x134 714,.str x135 715,.str x136 716,.str x116 717,.str x126 718,.str x137 719,.str x110 720,.str x138 721,.str x139 722] 0,#[]⟩
noncomputable def h_369:HO:=fun z=>⟨.type (z.s 2),none,.seq #[] 0,#[]⟩
noncomputable def h_370:HO:=fun z=>⟨.none,none,(.func (fnD (z.f 54) x60 x60 0 [] .none .none .none .none none .none .none 0)),#[]⟩
noncomputable def h_371:HO:=fun z=>⟨.type (z.s 3),none,.fields #[.str x60 705,.str x60 706,.str x9 707,.int 344 0,.int 1 0,.int 0 0,.int 0 0,.int 3 0,.ref 366,.bool true,.int 181 0,.ref 367,.none,.ref 368,.ref 369,.ref 370,.int 723 0,.int 344 0,.str x9 724],#[]⟩
noncomputable def h_372:HO:=fun z=>⟨.type (z.s 17),none,(.func (fnD (z.f 54) x60 x60 3 [] .none .none .none (.str x1 497) none (.ref 371) .none 0)),#[]⟩
noncomputable def h_2:HO:=fun z=>⟨.none,none,.dict #[] 0,#[]⟩
noncomputable def bootT (P:Params):BT:=ofL 6 (boot_heap P).objs.toList
noncomputable def fl_0 (z:HZ):List (Nat×Obj):=[(372,h_372 z),(371,h_371 z),(370,h_370 z),(369,h_369 z),(368,h_368 z),(367,h_367 z)]
noncomputable def fl_1 (z:HZ):List (Nat×Obj):=[(366,h_366 z),(365,h_365 z),(364,h_364 z),(363,h_363 z),(362,h_362 z),(361,h_361 z)]
noncomputable def fl_2 (z:HZ):List (Nat×Obj):=[(360,h_360 z),(359,h_359 z),(358,h_358 z),(357,h_357 z),(356,h_356 z),(355,h_355 z)]
noncomputable def fl_3 (z:HZ):List (Nat×Obj):=[(354,h_354 z),(353,h_353 z),(352,h_352 z),(351,h_351 z),(350,h_350 z),(349,h_349 z)]
noncomputable def fl_4 (z:HZ):List (Nat×Obj):=[(348,h_348 z),(347,h_347 z),(346,h_346 z),(345,h_345 z),(344,h_344 z),(343,h_343 z)]
noncomputable def fl_5 (z:HZ):List (Nat×Obj):=[(342,h_342 z),(341,h_341 z),(340,h_340 z),(339,h_339 z),(338,h_338 z),(337,h_337 z)]
noncomputable def fl_6 (z:HZ):List (Nat×Obj):=[(336,h_336 z),(335,h_335 z),(334,h_334 z),(333,h_333 z),(332,h_332 z),(331,h_331 z)]
noncomputable def fl_7 (z:HZ):List (Nat×Obj):=[(330,h_330 z),(329,h_329 z),(328,h_328 z),(327,h_327 z),(326,h_326 z),(325,h_325 z)]
noncomputable def fl_8 (z:HZ):List (Nat×Obj):=[(324,h_324 z),(323,h_323 z),(322,h_322 z),(321,h_321 z),(320,h_320 z),(319,h_319 z)]
noncomputable def fl_9 (z:HZ):List (Nat×Obj):=[(318,h_318 z),(317,h_317 z),(316,h_316 z),(315,h_315 z),(314,h_314 z),(313,h_313 z)]
noncomputable def fl_10 (z:HZ):List (Nat×Obj):=[(312,h_312 z),(311,h_311 z),(310,h_310 z),(309,h_309 z),(308,h_308 z),(307,h_307 z)]
noncomputable def fl_11 (z:HZ):List (Nat×Obj):=[(306,h_306 z),(305,h_305 z),(304,h_304 z),(303,h_303 z),(302,h_302 z),(301,h_301 z)]
noncomputable def fl_12 (z:HZ):List (Nat×Obj):=[(300,h_300 z),(299,h_299 z),(298,h_298 z),(297,h_297 z),(296,h_296 z),(295,h_295 z)]
noncomputable def fl_13 (z:HZ):List (Nat×Obj):=[(294,h_294 z),(293,h_293 z),(292,h_292 z),(291,h_291 z),(290,h_290 z),(289,h_289 z)]
noncomputable def fl_14 (z:HZ):List (Nat×Obj):=[(288,h_288 z),(287,h_287 z),(286,h_286 z),(285,h_285 z),(284,h_284 z),(283,h_283 z)]
noncomputable def fl_15 (z:HZ):List (Nat×Obj):=[(282,h_282 z),(281,h_281 z),(280,h_280 z),(279,h_279 z),(278,h_278 z),(277,h_277 z)]
noncomputable def fl_16 (z:HZ):List (Nat×Obj):=[(276,h_276 z),(275,h_275 z),(274,h_274 z),(273,h_273 z),(272,h_272 z),(271,h_271 z)]
noncomputable def fl_17 (z:HZ):List (Nat×Obj):=[(270,h_270 z),(269,h_269 z),(268,h_268 z),(267,h_267 z),(266,h_266 z),(265,h_265 z)]
noncomputable def fl_18 (z:HZ):List (Nat×Obj):=[(264,h_264 z),(263,h_263 z),(262,h_262 z),(261,h_261 z),(260,h_260 z),(259,h_259 z)]
noncomputable def fl_19 (z:HZ):List (Nat×Obj):=[(258,h_258 z),(257,h_257 z),(256,h_256 z),(255,h_255 z),(254,h_254 z),(253,h_253 z)]
noncomputable def fl_20 (z:HZ):List (Nat×Obj):=[(252,h_252 z),(251,h_251 z),(250,h_250 z),(249,h_249 z),(248,h_248 z),(247,h_247 z)]
noncomputable def fl_21 (z:HZ):List (Nat×Obj):=[(246,h_246 z),(245,h_245 z),(244,h_244 z),(243,h_243 z),(242,h_242 z),(241,h_241 z)]
noncomputable def fl_22 (z:HZ):List (Nat×Obj):=[(240,h_240 z),(239,h_239 z),(238,h_238 z),(237,h_237 z),(236,h_236 z),(235,h_235 z)]
noncomputable def fl_23 (z:HZ):List (Nat×Obj):=[(234,h_234 z),(233,h_233 z),(232,h_232 z),(231,h_231 z),(230,h_230 z),(229,h_229 z)]
noncomputable def fl_24 (z:HZ):List (Nat×Obj):=[(228,h_228 z),(227,h_227 z),(226,h_226 z),(225,h_225 z),(224,h_224 z),(223,h_223 z)]
noncomputable def fl_25 (z:HZ):List (Nat×Obj):=[(222,h_222 z),(221,h_221 z),(220,h_220 z),(219,h_219 z),(218,h_218 z),(217,h_217 z)]
noncomputable def fl_26 (z:HZ):List (Nat×Obj):=[(216,h_216 z),(215,h_215 z),(214,h_214 z),(213,h_213 z),(212,h_212 z),(211,h_211 z)]
noncomputable def fl_27 (z:HZ):List (Nat×Obj):=[(210,h_210 z),(209,h_209 z),(208,h_208 z),(207,h_207 z),(206,h_206 z),(205,h_205 z)]
noncomputable def fl_28 (z:HZ):List (Nat×Obj):=[(204,h_204 z),(203,h_203 z),(202,h_202 z),(201,h_201 z),(200,h_200 z),(199,h_199 z)]
noncomputable def fl_29 (z:HZ):List (Nat×Obj):=[(198,h_198 z),(197,h_197 z),(196,h_196 z),(195,h_195 z),(194,h_194 z),(193,h_193 z)]
noncomputable def fl_30 (z:HZ):List (Nat×Obj):=[(192,h_192 z),(191,h_191 z),(190,h_190 z),(189,h_189 z),(188,h_188 z),(187,h_187 z)]
noncomputable def fl_31 (z:HZ):List (Nat×Obj):=[(186,h_186 z),(185,h_185 z),(184,h_184 z),(183,h_183 z),(182,h_182 z),(181,h_181 z)]
noncomputable def fl_32 (z:HZ):List (Nat×Obj):=[(180,h_180 z),(179,h_179 z),(178,h_178 z),(177,h_177 z),(176,h_176 z),(175,h_175 z)]
noncomputable def fl_33 (z:HZ):List (Nat×Obj):=[(174,h_174 z),(173,h_173 z),(172,h_172 z),(171,h_171 z),(170,h_170 z),(169,h_169 z)]
noncomputable def fl_34 (z:HZ):List (Nat×Obj):=[(168,h_168 z),(167,h_167 z),(166,h_166 z),(165,h_165 z),(164,h_164 z),(163,h_163 z)]
noncomputable def fl_35 (z:HZ):List (Nat×Obj):=[(162,h_162 z),(161,h_161 z),(160,h_160 z),(159,h_159 z),(158,h_158 z),(157,h_157 z)]
noncomputable def fl_36 (z:HZ):List (Nat×Obj):=[(156,h_156 z),(155,h_155 z),(154,h_154 z),(153,h_153 z),(152,h_152 z),(151,h_151 z)]
noncomputable def fl_37 (z:HZ):List (Nat×Obj):=[(150,h_150 z),(149,h_149 z),(148,h_148 z),(147,h_147 z),(146,h_146 z),(145,h_145 z)]
noncomputable def fl_38 (z:HZ):List (Nat×Obj):=[(144,h_144 z),(143,h_143 z),(142,h_142 z),(141,h_141 z),(140,h_140 z),(139,h_139 z)]
noncomputable def fl_39 (z:HZ):List (Nat×Obj):=[(138,h_138 z),(137,h_137 z),(136,h_136 z),(135,h_135 z),(134,h_134 z),(133,h_133 z)]
noncomputable def fl_40 (z:HZ):List (Nat×Obj):=[(132,h_132 z),(131,h_131 z),(130,h_130 z),(129,h_129 z),(128,h_128 z),(127,h_127 z)]
noncomputable def fl_41 (z:HZ):List (Nat×Obj):=[(126,h_126 z),(125,h_125 z),(124,h_124 z),(123,h_123 z),(122,h_122 z),(121,h_121 z)]
noncomputable def fl_42 (z:HZ):List (Nat×Obj):=[(120,h_120 z),(119,h_119 z),(118,h_118 z),(117,h_117 z),(116,h_116 z),(115,h_115 z)]
noncomputable def fl_43 (z:HZ):List (Nat×Obj):=[(114,h_114 z),(113,h_113 z),(112,h_112 z),(111,h_111 z),(110,h_110 z),(109,h_109 z)]
noncomputable def fl_44 (z:HZ):List (Nat×Obj):=[(108,h_108 z),(107,h_107 z),(106,h_106 z),(105,h_105 z),(104,h_104 z),(103,h_103 z)]
noncomputable def fl_45 (z:HZ):List (Nat×Obj):=[(102,h_102 z),(101,h_101 z),(100,h_100 z),(99,h_99 z),(98,h_98 z),(97,h_97 z)]
noncomputable def fl_46 (z:HZ):List (Nat×Obj):=[(96,h_96 z),(95,h_95 z),(94,h_94 z),(93,h_93 z),(92,h_92 z),(91,h_91 z)]
noncomputable def fl_47 (z:HZ):List (Nat×Obj):=[(90,h_90 z),(89,h_89 z),(88,h_88 z),(87,h_87 z),(86,h_86 z),(85,h_85 z)]
noncomputable def fl_48 (z:HZ):List (Nat×Obj):=[(84,h_84 z),(83,h_83 z),(82,h_82 z),(81,h_81 z),(80,h_80 z),(79,h_79 z)]
noncomputable def fl_49 (z:HZ):List (Nat×Obj):=[(78,h_78 z),(77,h_77 z),(76,h_76 z),(75,h_75 z),(74,h_74 z),(73,h_73 z)]
noncomputable def fl_50 (z:HZ):List (Nat×Obj):=[(72,h_72 z),(71,h_71 z),(70,h_70 z),(69,h_69 z),(68,h_68 z),(67,h_67 z)]
noncomputable def fl_51 (z:HZ):List (Nat×Obj):=[(66,h_66 z),(65,h_65 z),(64,h_64 z),(63,h_63 z),(62,h_62 z),(61,h_61 z)]
noncomputable def fl_52 (z:HZ):List (Nat×Obj):=[(60,h_60 z),(59,h_59 z),(58,h_58 z),(57,h_57 z),(56,h_56 z),(55,h_55 z)]
noncomputable def fl_53 (z:HZ):List (Nat×Obj):=[(54,h_54 z),(53,h_53 z),(52,h_52 z),(51,h_51 z),(50,h_50 z),(49,h_49 z)]
noncomputable def fl_54 (z:HZ):List (Nat×Obj):=[(48,h_48 z),(47,h_47 z),(46,h_46 z),(45,h_45 z),(44,h_44 z),(43,h_43 z)]
noncomputable def fl_55 (z:HZ):List (Nat×Obj):=[(42,h_42 z),(41,h_41 z),(40,h_40 z),(39,h_39 z),(38,h_38 z),(37,h_37 z)]
noncomputable def fl_56 (z:HZ):List (Nat×Obj):=[(36,h_36 z),(35,h_35 z),(34,h_34 z),(33,h_33 z),(32,h_32 z),(31,h_31 z)]
noncomputable def fl_57 (z:HZ):List (Nat×Obj):=[(30,h_30 z),(29,h_29 z),(28,h_28 z),(27,h_27 z),(26,h_26 z),(25,h_25 z)]
noncomputable def fl_58 (z:HZ):List (Nat×Obj):=[(24,h_24 z),(23,h_23 z),(22,h_22 z),(21,h_21 z),(20,h_20 z),(19,h_19 z)]
noncomputable def fl_59 (z:HZ):List (Nat×Obj):=[(18,h_18 z),(17,h_17 z),(16,h_16 z),(15,h_15 z),(14,h_14 z),(13,h_13 z)]
noncomputable def fl_60 (z:HZ):List (Nat×Obj):=[(12,h_12 z),(11,h_11 z),(3,h_3 z)]
noncomputable def fl_61 (z:HZ):List (Nat×Obj):=apL (fl_0 z) (apL (fl_1 z) (apL (fl_2 z) (apL (fl_3 z) (apL (fl_4 z) (fl_5 z)))))
noncomputable def fl_62 (z:HZ):List (Nat×Obj):=apL (fl_6 z) (apL (fl_7 z) (apL (fl_8 z) (apL (fl_9 z) (apL (fl_10 z) (fl_11 z)))))
noncomputable def fl_63 (z:HZ):List (Nat×Obj):=apL (fl_12 z) (apL (fl_13 z) (apL (fl_14 z) (apL (fl_15 z) (apL (fl_16 z) (fl_17 z)))))
noncomputable def fl_64 (z:HZ):List (Nat×Obj):=apL (fl_18 z) (apL (fl_19 z) (apL (fl_20 z) (apL (fl_21 z) (apL (fl_22 z) (fl_23 z)))))
noncomputable def fl_65 (z:HZ):List (Nat×Obj):=apL (fl_24 z) (apL (fl_25 z) (apL (fl_26 z) (apL (fl_27 z) (apL (fl_28 z) (fl_29 z)))))
noncomputable def fl_66 (z:HZ):List (Nat×Obj):=apL (fl_30 z) (apL (fl_31 z) (apL (fl_32 z) (apL (fl_33 z) (apL (fl_34 z) (fl_35 z)))))
noncomputable def fl_67 (z:HZ):List (Nat×Obj):=apL (fl_36 z) (apL (fl_37 z) (apL (fl_38 z) (apL (fl_39 z) (apL (fl_40 z) (fl_41 z)))))
noncomputable def fl_68 (z:HZ):List (Nat×Obj):=apL (fl_42 z) (apL (fl_43 z) (apL (fl_44 z) (apL (fl_45 z) (apL (fl_46 z) (fl_47 z)))))
noncomputable def fl_69 (z:HZ):List (Nat×Obj):=apL (fl_48 z) (apL (fl_49 z) (apL (fl_50 z) (apL (fl_51 z) (apL (fl_52 z) (fl_53 z)))))
noncomputable def fl_70 (z:HZ):List (Nat×Obj):=apL (fl_54 z) (apL (fl_55 z) (apL (fl_56 z) (apL (fl_57 z) (apL (fl_58 z) (fl_59 z)))))
noncomputable def fl_71 (z:HZ):List (Nat×Obj):=fl_60 z
noncomputable def fl_72 (z:HZ):List (Nat×Obj):=apL (fl_61 z) (apL (fl_62 z) (apL (fl_63 z) (apL (fl_64 z) (apL (fl_65 z) (fl_66 z)))))
noncomputable def fl_73 (z:HZ):List (Nat×Obj):=apL (fl_67 z) (apL (fl_68 z) (apL (fl_69 z) (apL (fl_70 z) (fl_71 z))))
noncomputable def finT (p:Program) (P:Params):BT:=putAll (bootT P) (apL (fl_72 (hz p P)) (fl_73 (hz p P)))
theorem Zww:boot_heap=fun P=>absHeap (bootT P) 11 {}:=by kernel_rfl
noncomputable def runL (w:World) (os:OsState):Option SharedT:=(segRunT treeTable pw_uf030012_08 w 11 (some (.ref 6)) 0 6118 ⟨bootT w.params,11,{},Array.mk [],boot_drawn,boot_toks,os⟩ (topStub pw_uf030012_08)).map fun r=>r.2.1
noncomputable def runR (w:World) (os:OsState):Option SharedT:=some ⟨finT pw_uf030012_08 w.params,373,{},Array.mk [],{},726,os⟩
theorem pr_run:(fun (_ _:World→OsState→Option SharedT)=>true) runL runR=true:=by k_qdec
theorem run_tw (w:World) (os:OsState):PySem.W.Fast.tw15381529512651596867 w os=PySem.W.Fast.tw6244362003190856736 w os:=by kernel_rfl
noncomputable def hk_0 (z:HZ):PySem.W.Frag:=[(2,h_2 z),(3,h_3 z),(15,h_15 z),(22,h_22 z),(23,h_23 z),(24,h_24 z)]
noncomputable def hk_1 (z:HZ):PySem.W.Frag:=[(25,h_25 z),(28,h_28 z),(35,h_35 z),(36,h_36 z),(37,h_37 z),(40,h_40 z)]
noncomputable def hk_2 (z:HZ):PySem.W.Frag:=[(47,h_47 z),(48,h_48 z),(49,h_49 z),(52,h_52 z),(59,h_59 z),(60,h_60 z)]
noncomputable def hk_3 (z:HZ):PySem.W.Frag:=[(61,h_61 z),(64,h_64 z),(71,h_71 z),(72,h_72 z),(73,h_73 z),(76,h_76 z)]
noncomputable def hk_4 (z:HZ):PySem.W.Frag:=[(83,h_83 z),(84,h_84 z),(85,h_85 z),(88,h_88 z),(95,h_95 z),(96,h_96 z)]
noncomputable def hk_5 (z:HZ):PySem.W.Frag:=[(97,h_97 z),(100,h_100 z),(107,h_107 z),(109,h_109 z),(110,h_110 z),(112,h_112 z)]
noncomputable def hk_6 (z:HZ):PySem.W.Frag:=[(113,h_113 z),(114,h_114 z),(115,h_115 z),(116,h_116 z),(119,h_119 z),(121,h_121 z)]
noncomputable def hk_7 (z:HZ):PySem.W.Frag:=[(122,h_122 z),(124,h_124 z),(125,h_125 z),(126,h_126 z),(128,h_128 z),(129,h_129 z)]
noncomputable def hk_8 (z:HZ):PySem.W.Frag:=[(131,h_131 z),(132,h_132 z),(133,h_133 z),(136,h_136 z),(137,h_137 z),(138,h_138 z)]
noncomputable def hk_9 (z:HZ):PySem.W.Frag:=[(140,h_140 z),(141,h_141 z),(143,h_143 z),(144,h_144 z),(145,h_145 z),(147,h_147 z)]
noncomputable def hk_10 (z:HZ):PySem.W.Frag:=[(148,h_148 z),(150,h_150 z),(151,h_151 z),(152,h_152 z),(154,h_154 z),(155,h_155 z)]
noncomputable def hk_11 (z:HZ):PySem.W.Frag:=[(157,h_157 z),(158,h_158 z),(159,h_159 z),(161,h_161 z),(162,h_162 z),(164,h_164 z)]
noncomputable def hk_12 (z:HZ):PySem.W.Frag:=[(165,h_165 z),(166,h_166 z),(169,h_169 z),(170,h_170 z),(171,h_171 z),(174,h_174 z)]
noncomputable def hk_13 (z:HZ):PySem.W.Frag:=[(175,h_175 z),(176,h_176 z),(178,h_178 z),(179,h_179 z),(181,h_181 z),(182,h_182 z)]
noncomputable def hk_14 (z:HZ):PySem.W.Frag:=[(183,h_183 z),(185,h_185 z),(186,h_186 z),(188,h_188 z),(189,h_189 z),(190,h_190 z)]
noncomputable def hk_15 (z:HZ):PySem.W.Frag:=[(193,h_193 z),(194,h_194 z),(195,h_195 z),(197,h_197 z),(198,h_198 z),(200,h_200 z)]
noncomputable def hk_16 (z:HZ):PySem.W.Frag:=[(201,h_201 z),(202,h_202 z),(204,h_204 z),(205,h_205 z),(207,h_207 z),(208,h_208 z)]
noncomputable def hk_17 (z:HZ):PySem.W.Frag:=[(209,h_209 z),(211,h_211 z),(212,h_212 z),(214,h_214 z),(215,h_215 z),(216,h_216 z)]
noncomputable def hk_18 (z:HZ):PySem.W.Frag:=[(218,h_218 z),(219,h_219 z),(221,h_221 z),(222,h_222 z),(223,h_223 z),(225,h_225 z)]
noncomputable def hk_19 (z:HZ):PySem.W.Frag:=[(226,h_226 z),(228,h_228 z),(229,h_229 z),(230,h_230 z),(232,h_232 z),(233,h_233 z)]
noncomputable def hk_20 (z:HZ):PySem.W.Frag:=[(235,h_235 z),(236,h_236 z),(237,h_237 z),(239,h_239 z),(240,h_240 z),(242,h_242 z)]
noncomputable def hk_21 (z:HZ):PySem.W.Frag:=[(243,h_243 z),(244,h_244 z),(246,h_246 z),(247,h_247 z),(249,h_249 z),(250,h_250 z)]
noncomputable def hk_22 (z:HZ):PySem.W.Frag:=[(251,h_251 z),(253,h_253 z),(254,h_254 z),(256,h_256 z),(257,h_257 z),(258,h_258 z)]
noncomputable def hk_23 (z:HZ):PySem.W.Frag:=[(260,h_260 z),(261,h_261 z),(263,h_263 z),(264,h_264 z),(265,h_265 z),(268,h_268 z)]
noncomputable def hk_24 (z:HZ):PySem.W.Frag:=[(269,h_269 z),(277,h_277 z),(279,h_279 z),(280,h_280 z),(282,h_282 z),(283,h_283 z)]
noncomputable def hk_25 (z:HZ):PySem.W.Frag:=[(284,h_284 z),(286,h_286 z),(287,h_287 z),(289,h_289 z),(290,h_290 z),(291,h_291 z)]
noncomputable def hk_26 (z:HZ):PySem.W.Frag:=[(293,h_293 z),(294,h_294 z),(296,h_296 z),(297,h_297 z),(298,h_298 z),(300,h_300 z)]
noncomputable def hk_27 (z:HZ):PySem.W.Frag:=[(301,h_301 z),(303,h_303 z),(304,h_304 z),(305,h_305 z),(307,h_307 z),(308,h_308 z)]
noncomputable def hk_28 (z:HZ):PySem.W.Frag:=[(310,h_310 z),(311,h_311 z),(312,h_312 z),(314,h_314 z),(315,h_315 z),(317,h_317 z)]
noncomputable def hk_29 (z:HZ):PySem.W.Frag:=[(318,h_318 z),(319,h_319 z),(321,h_321 z),(322,h_322 z),(324,h_324 z),(325,h_325 z)]
noncomputable def hk_30 (z:HZ):PySem.W.Frag:=[(326,h_326 z),(328,h_328 z),(329,h_329 z),(331,h_331 z),(332,h_332 z),(333,h_333 z)]
noncomputable def hk_31 (z:HZ):PySem.W.Frag:=[(335,h_335 z),(336,h_336 z),(338,h_338 z),(339,h_339 z),(340,h_340 z),(343,h_343 z)]
noncomputable def hk_32 (z:HZ):PySem.W.Frag:=[(344,h_344 z),(345,h_345 z),(347,h_347 z),(348,h_348 z),(350,h_350 z),(351,h_351 z)]
noncomputable def hk_33 (z:HZ):PySem.W.Frag:=[(352,h_352 z),(354,h_354 z),(355,h_355 z),(357,h_357 z),(358,h_358 z),(359,h_359 z)]
noncomputable def hk_34 (z:HZ):PySem.W.Frag:=[(361,h_361 z),(362,h_362 z),(364,h_364 z),(365,h_365 z),(366,h_366 z),(368,h_368 z)]
noncomputable def hk_35 (z:HZ):PySem.W.Frag:=[(369,h_369 z),(371,h_371 z),(372,h_372 z)]
noncomputable def hk_36 (z:HZ):PySem.W.Frag:=apL (hk_0 z) (apL (hk_1 z) (apL (hk_2 z) (apL (hk_3 z) (apL (hk_4 z) (hk_5 z)))))
noncomputable def hk_37 (z:HZ):PySem.W.Frag:=apL (hk_6 z) (apL (hk_7 z) (apL (hk_8 z) (apL (hk_9 z) (apL (hk_10 z) (hk_11 z)))))
noncomputable def hk_38 (z:HZ):PySem.W.Frag:=apL (hk_12 z) (apL (hk_13 z) (apL (hk_14 z) (apL (hk_15 z) (apL (hk_16 z) (hk_17 z)))))
noncomputable def hk_39 (z:HZ):PySem.W.Frag:=apL (hk_18 z) (apL (hk_19 z) (apL (hk_20 z) (apL (hk_21 z) (apL (hk_22 z) (hk_23 z)))))
noncomputable def hk_40 (z:HZ):PySem.W.Frag:=apL (hk_24 z) (apL (hk_25 z) (apL (hk_26 z) (apL (hk_27 z) (apL (hk_28 z) (hk_29 z)))))
noncomputable def hk_41 (z:HZ):PySem.W.Frag:=apL (hk_30 z) (apL (hk_31 z) (apL (hk_32 z) (apL (hk_33 z) (apL (hk_34 z) (hk_35 z)))))
theorem run_ok (w:World) (os:OsState):runL w os=runR w os:=by
 rw [PySem.W.Fast.te15381529512651596867,PySem.W.Fast.te6244362003190856736]; exact run_tw w os
noncomputable def qv:Program:=view pw_uf030012_08 [54]
noncomputable def lv:List Str:=apL [x11,x12,x13,x14,x15] (apL [x16,x17,x18,x19,x20] (apL [x21,x22,x23,x24,x25] (apL [x26,x27,x28,x29,x30] (apL [x31,x32,x33,x34,x35] (apL [x36,x37,x38,x39,x40] (apL [x41,x42,x43,x44,x45] (apL [x46,x47,x48,x49,x50] (apL [x51,x52,x53,x54,x55] [x56,x57,x58,x59]))))))))
noncomputable def hK (P:Params):PySem.W.Frag:=apL (hk_36 (hz pw_uf030012_08 P)) (apL (hk_37 (hz pw_uf030012_08 P)) (apL (hk_38 (hz pw_uf030012_08 P)) (apL (hk_39 (hz pw_uf030012_08 P)) (apL (hk_40 (hz pw_uf030012_08 P)) (hk_41 (hz pw_uf030012_08 P))))))
noncomputable def kas:List Addr:=[2,3,15,22,23,24,25,28,35,36,37,40,47,48,49,52,59,60,61,64,71,72,73,76,83,84,85,88,95,96,97,100,107,109,110,112,113,114,115,116,119,121,122,124,125,126,128,129,131,132,133,136,137,138,140,141,143,144,145,147,148,150,151,152,154,155,157,158,159,161,162,164,165,166,169,170,171,174,175,176,178,179,181,182,183,185,186,188,189,190,193,194,195,197,198,200,201,202,204,205,207,208,209,211,212,214,215,216,218,219,221,222,223,225,226,228,229,230,232,233,235,236,237,239,240,242,243,244,246,247,249,250,251,253,254,256,257,258,260,261,263,264,265,268,269,277,279,280,282,283,284,286,287,289,290,291,293,294,296,297,298,300,301,303,304,305,307,308,310,311,312,314,315,317,318,319,321,322,324,325,326,328,329,331,332,333,335,336,338,339,340,343,344,345,347,348,350,351,352,354,355,357,358,359,361,362,364,365,366,368,369,371,372]
theorem kas_ok (P:Params):kas=(hK P).map (·.1):=by kernel_rfl
noncomputable def lookL (w:World) (os:OsState):=((staticsOk (importedModules (Program.main pw_uf030012_08).body) (boot_heap w.params) (absHeap (finT pw_uf030012_08 w.params) 373 {})&&namesBound pw_uf030012_08 (absHeap (finT pw_uf030012_08 w.params) 373 {})&&gensDone ⟨absHeap (finT pw_uf030012_08 w.params) 373 {},Array.mk [],{},726,os⟩&&laidKept (boot_heap w.params) (absHeap (finT pw_uf030012_08 w.params) 373 {})),
 openSeen qv lv (importedModules (Program.main pw_uf030012_08).body) (fun _=>true) true ⟨absHeap (finT pw_uf030012_08 w.params) 373 {},Array.mk [],{},726,os⟩,kas.map (absHeap (finT pw_uf030012_08 w.params) 373 {}).get?)
noncomputable def lookR (w:World) (os:OsState):=(true,openGood qv lv,(hK w.params).map fun p=>some p.2)
theorem Zwx:(fun a b=>(fun _=>true) (a=b)) lookL lookR=true:=by k_qdec
theorem Zwy (w:World) (os:OsState):PySem.W.Fast.tw2042841653586846793 w os=PySem.W.Fast.tw5156648718449592040 w os:=by kernel_rfl
theorem Zwz (w:World) (os:OsState):lookL w os=lookR w os:=by
 rw [PySem.W.Fast.te2042841653586846793,PySem.W.Fast.te5156648718449592040]; exact Zwy w os
theorem hleft:LeftO pw_uf030012_08 qv lv (fun _=>true) (fun s=>kas.map s.heap.get?) (fun w=>(hK w.params).map fun p=>some p.2) 6118 true :=
 Zad (m₀:=11) (ann:=(some (.ref 6))) (by kernel_rfl) (by kernel_rfl) (fun s=>by kernel_rfl) (fun w=>by kernel_rfl) Zww run_ok Zwz
theorem law_is:(defOf qv (Str.ofString "law")).isSome=true:=by kernel_rfl
theorem hd08 (walk:WalkO qv lv (fun _ _=>True) (InK hK) PySem.Challenge.rw_uf030012_08.row.toRowW ((defOf qv (Str.ofString "law")).get law_is).1 ((defOf qv (Str.ofString "law")).get law_is).2 fun f vs=>PySem.call f vs):PySem.Challenge.rw_uf030012_08.Holds:=by
 w_on
 o_law
 refine holds_open (q:=qv) (loose:=lv) (Xt:=fun _=>true) (XP:=fun _ _=>True) (YP:=InK hK) (N:=6118) hleft (InK.of kas_ok) InK.keeps (fun _ _=>trivial) (fun _ _ _ _ _=>trivial)
  (Zae law_is) (by kernel_rfl) (by kernel_rfl) (fun s _=>recFacts_nil rfl) rfl ‹_› (by decide +kernel) ⟨rfl,rfl,rfl,rfl,rfl,by decide +kernel⟩ ?hw walk
 case hw=>w_witness2
end Mine
open PySem PySem.W PyProof.Rows
set_option maxRecDepth 100000 in
set_option maxHeartbeats 8000000 in
theorem PySem.Challenge.cw_uf030012_08_holds : PySem.Challenge.rw_uf030012_08.Holds := by
 refine Mine.hd08 ?_
 intro w s₀ s₁ mg mb G Y fa o pm cd doc dV kV ho hd hcd hD hmg hg args vals as hpre hlay hrd hwl hlo
 have KX:(Mine.hK w.params).In s₁.heap:=Y
 clear hd hcd hD
 refine Ground.open G ?_
 intro T B D TE TW
 wrow_args hpre hlay hrd hwl hlo
 refine enter_call ?_
 rename IntsAre _ _=>hI
 rename Heap.IsList _ _ _=>hL
 rename ¬ (_ < _)=>hlen
 refine Mine.tie KX T (by decide +kernel) hmg hL hI ?h0 ?h1 ?a1 ?a2 ?a3 ?a4 ?tr0 ?b0 ?b1 ?b2 ?b3 ?b4 ?b5 ?b6 ?b7 ?b8 ?b9 ?b10 ?b11 (Mine.run08 _ (by omega)) fun s' hk hos hgs=>Mine.good_true (fun cls=>rfl) (by kernel_rfl) hk hos (hgs.trans hg)
 case h0=>kernel_rfl
 case h1=>kernel_rfl
 case a1=>exact Mine.ar1 fun a=>by kernel_rfl
 case a2=>exact Mine.arS (n:=1) fun a=>Mine.ar1 fun b=>by kernel_rfl
 case a3=>exact Mine.arS (n:=2) fun a=>Mine.arS (n:=1) fun b=>Mine.ar1 fun c=>by kernel_rfl
 case a4=>exact Mine.arS (n:=3) fun a=>Mine.arS (n:=2) fun b=>Mine.arS (n:=1) fun c=>Mine.ar1 fun d=>by kernel_rfl
 case tr0=>kernel_rfl
 case b0=>kernel_rfl
 case b1=>kernel_rfl
 case b2=>kernel_rfl
 case b3=>kernel_rfl
 case b4=>kernel_rfl
 case b5=>kernel_rfl
 case b6=>kernel_rfl
 case b7=>kernel_rfl
 case b8=>kernel_rfl
 case b9=>kernel_rfl
 case b10=>kernel_rfl
 case b11=>kernel_rfl
