import PyProof.Rows.All
import PyProof.Walks
import PyProof.EqAt
import PyProof.P3Eq
import PyProof.EqLayable
import PyProof.Cells
import PyProof.PlainList
import PyProof.WalksMore
import OpenK.KLine
import Open.Line
import PyProof.IsiTupleOf
import PyProof.SliceList
import PyProof.SliceSyntax
import PyProof.Rows.TupMore
import Wide.All
import OpenK.AllK
import Wide.FinOn
import Lean
import PySem.Challenge.RW_uf030012_06
namespace Mine
open PySem

set_option genSizeOf false
/-- the built-in functions that are served -/
inductive BI where
  | len | range | isinstance | all | int | str | list | tuple | bool | dict | valueError
  deriving DecidableEq

inductive AV where
  | none
  | bool (b : Bool)
  | int (i : Int)
  | str (s : Str)
  | tup (l : List AV)
  | lst (l : List AV)
  | ref (i : Nat)
  | rng (b : Int)
  | fn (k : Nat)
  | cls (k : Nat)
  | bi (n : BI)
  | inst (c j : Nat)
  | exc (c : Nat) (x : AV)

inductive AO where
  | list (l : List AV)
  | dict (l : List (AV × AV))
  | attrs (l : List (Nat × AV))

abbrev AH := List AO
abbrev Loc := Nat → Option AV
noncomputable def upd (σ : Loc) (i : Nat) (v : AV) : Loc := fun j => if j = i then some v else σ j
@[simp] theorem upd_self (σ : Loc) (i : Nat) (v : AV) : upd σ i v i = some v := if_pos rfl
theorem upd_ne (σ : Loc) {i j : Nat} (v : AV) (h : j ≠ i) : upd σ i v j = σ j := if_neg h

inductive Rs (α : Type) where
  | ok (a : α) (H : AH)
  | err (x : AV) (H : AH)
  | bad

noncomputable def Rs.bind {α β : Type} : Rs α → (α → AH → Rs β) → Rs β
  | .ok a H, f => f a H
  | .err x H, _ => .err x H
  | .bad, _ => .bad
@[simp] theorem Rs.bind_ok {α β : Type} (a : α) (H : AH) (f : α → AH → Rs β) : (Rs.ok a H).bind f = f a H := rfl
abbrev DE := Loc → AH → Rs AV
abbrev DT := Loc → AH → Rs Bool
inductive Fl where
  | next
  | ret (v : AV)
noncomputable def Fl.val : Fl → AV
  | .next => .none
  | .ret v => v
abbrev DS := Loc → AH → Rs (Fl × Loc)
abbrev Fns := Nat → List AV → AH → Rs AV

/-- plain data of a value, lists read out of the heap -/
noncomputable def data (H : AH) : Nat → AV → Option PyData
  | 0, _ => none
  | n + 1, v => match v with
    | .none => some .none
    | .bool b => some (.bool b)
    | .int i => some (.int i)
    | .str s => some (.str s)
    | .tup l => (l.mapM (data H n)).map .tuple
    | .lst l => (l.mapM (data H n)).map .list
    | .ref i => match H[i]? with
      | some (.list l) => (l.mapM (data H n)).map .list
      | _ => none
    | _ => none

/-- equality of plain data; none: not served -/
noncomputable def eqD (H : AH) (a b : AV) : Option Bool :=
  match data H 12 a, data H 12 b with
  | some x, some y => if PySem.SeqAt.shaped x && PySem.SeqAt.shaped y then some (PyData.eqv x y) else none
  | _, _ => none

noncomputable def toR (H : AH) : Option AV → Rs AV
  | some v => .ok v H
  | none => .bad

inductive BOp where
  | add | sub | mul | fdiv | mod | pow
inductive COp where
  | eq | ne | lt | le | gt | ge | is | isNot | isIn | notIn

noncomputable def listOf? (H : AH) : AV → Option (List AV)
  | .lst l => some l
  | .ref i => match H[i]? with
    | some (.list l) => some l
    | _ => none
  | _ => none
noncomputable def intOp (f : Int → Int → Option AV) : AV → AV → Option AV
  | .int a, .int b => f a b
  | _, _ => none
noncomputable def addL (H : AH) (a b : AV) : Option AV := match listOf? H a, listOf? H b with
  | some l, some k => if l.length + k.length ≤ 1048576 then some (.lst (l ++ k)) else none
  | _, _ => none
noncomputable def addOp (H : AH) : AV → AV → Option AV
  | .int a, .int b => some (.int (a + b))
  | .tup a, .tup b => if a.length + b.length ≤ 1048576 then some (.tup (a ++ b)) else none
  | a, b => addL H a b
noncomputable def binop (H : AH) (op : BOp) (a b : AV) : Option AV := match op with
  | .add => addOp H a b
  | .sub => intOp (fun a b => some (.int (a - b))) a b
  | .mul => intOp (fun a b => if b.natAbs < 2 ^ 60 ∨ a.natAbs < 2 ^ 60 then some (.int (a * b)) else none) a b
  | .fdiv => intOp (fun a b => if b = 0 then none else some (.int (a.fdiv b))) a b
  | .mod => intOp (fun a b => if b = 0 then none else some (.int (a.fmod b))) a b
  | .pow => intOp (fun a b => if 0 ≤ b ∧ b ≤ 64 ∧ a.natAbs < 2 ^ 60 then some (.int (a ^ b.toNat)) else none) a b

/-- a fold: is the value among the items? -/
noncomputable def anyEq (H : AH) (x : AV) : List AV → Option Bool
  | [] => some false
  | y :: r => match eqD H y x, anyEq H x r with
    | some b, some c => some (b || c)
    | _, _ => none

noncomputable def cmpI (f : Int → Int → Bool) : AV → AV → Option Bool
  | .int a, .int b => some (f a b)
  | _, _ => none
noncomputable def isOp : AV → AV → Option Bool
  | .bi _, _ => none
  | .none, .none => some true
  | _, .none => some false
  | _, _ => none
noncomputable def inOp (H : AH) (x : AV) : AV → Option Bool
  | .tup l => anyEq H x l
  | c => match listOf? H c with
    | some l => anyEq H x l
    | none => none
noncomputable def cmpop (H : AH) (op : COp) (a b : AV) : Option Bool := match op with
  | .eq => eqD H a b
  | .ne => (eqD H a b).map (!·)
  | .lt => cmpI (fun a b => decide (a < b)) a b
  | .le => cmpI (fun a b => decide (a ≤ b)) a b
  | .gt => cmpI (fun a b => decide (a > b)) a b
  | .ge => cmpI (fun a b => decide (a ≥ b)) a b
  | .is => isOp a b
  | .isNot => (isOp a b).map (!·)
  | .isIn => inOp H a b
  | .notIn => (inOp H a b).map (!·)

/-- an item at a place, from behind too -/
noncomputable def itemAt (l : List AV) (k : Int) : Option AV :=
  if -1048576 ≤ k ∧ k ≤ 1048576 then (if 0 ≤ k then l[k.toNat]? else if 0 ≤ k + l.length then l[(k + l.length).toNat]? else none) else none
noncomputable def subop (H : AH) (a i : AV) : Option AV :=
  match i with
  | .int k => match a with
    | .tup l => itemAt l k
    | a => match listOf? H a with
      | some l => itemAt l k
      | none => none
  | _ => none

noncomputable def dCst (v : AV) : DE := fun _ H => .ok v H
noncomputable def dLoc (i : Nat) : DE := fun σ H => match σ i with
  | some v => .ok v H
  | none => .bad
noncomputable def dBin (op : BOp) (a b : DE) : DE := fun σ H => (a σ H).bind fun x H₁ => (b σ H₁).bind fun y H₂ => toR H₂ (binop H₂ op x y)
noncomputable def dNeg (a : DE) : DE := fun σ H => (a σ H).bind fun x H₁ => match x with
  | .int i => .ok (.int (-i)) H₁
  | _ => .bad
noncomputable def dNot (t : DT) : DE := fun σ H => (t σ H).bind fun b H₁ => .ok (.bool (!b)) H₁
noncomputable def dCmp (op : COp) (a b : DE) : DE := fun σ H => (a σ H).bind fun x H₁ => (b σ H₁).bind fun y H₂ => toR H₂ ((cmpop H₂ op x y).map .bool)
noncomputable def dCmp2 (o₁ o₂ : COp) (a b c : DE) : DE := fun σ H => (a σ H).bind fun x H₁ => (b σ H₁).bind fun y H₂ =>
  match cmpop H₂ o₁ x y with
  | some true => (c σ H₂).bind fun z H₃ => toR H₃ ((cmpop H₃ o₂ y z).map .bool)
  | some false => .ok (.bool false) H₂
  | none => .bad
noncomputable def dIte (t : DT) (a b : DE) : DE := fun σ H => (t σ H).bind fun c H₁ => if c then a σ H₁ else b σ H₁
noncomputable def dAnd (a : DE) (b : DE) : DE := fun σ H => (a σ H).bind fun x H₁ => match x with
  | .bool true => b σ H₁
  | .bool false => .ok (.bool false) H₁
  | _ => .bad
noncomputable def dOr (a : DE) (b : DE) : DE := fun σ H => (a σ H).bind fun x H₁ => match x with
  | .bool false => b σ H₁
  | .bool true => .ok (.bool true) H₁
  | _ => .bad
noncomputable def dEach : List DE → Loc → AH → Rs (List AV)
  | [], _, H => .ok [] H
  | d :: r, σ, H => (d σ H).bind fun v H₁ => (dEach r σ H₁).bind fun vs H₂ => .ok (v :: vs) H₂
noncomputable def dTup (l : List DE) : DE := fun σ H => (dEach l σ H).bind fun vs H₁ => .ok (.tup vs) H₁
noncomputable def dLst (l : List DE) : DE := fun σ H => (dEach l σ H).bind fun vs H₁ => .ok (.lst vs) H₁
/-- a list display that will be changed: an object of its own -/
noncomputable def dNewL (l : List DE) : DE := fun σ H => (dEach l σ H).bind fun vs H₁ => .ok (.ref H₁.length) (H₁ ++ [.list vs])
noncomputable def dSub (a i : DE) : DE := fun σ H => (a σ H).bind fun x H₁ => (i σ H₁).bind fun k H₂ => toR H₂ (subop H₂ x k)

noncomputable def tVal (a : DE) : DT := fun σ H => (a σ H).bind fun x H₁ => match x with
  | .bool b => .ok b H₁
  | _ => .bad
noncomputable def tNot (t : DT) : DT := fun σ H => (t σ H).bind fun b H₁ => .ok (!b) H₁
noncomputable def tAnd (a b : DT) : DT := fun σ H => (a σ H).bind fun x H₁ => if x then b σ H₁ else .ok false H₁
noncomputable def tOr (a b : DT) : DT := fun σ H => (a σ H).bind fun x H₁ => if x then .ok true H₁ else b σ H₁

noncomputable def allTrue? : List AV → Option Bool
  | [] => some true
  | .bool b :: r => (allTrue? r).map (b && ·)
  | _ => none

noncomputable def isiL : BI → Option Bool
  | .list => some true
  | .int | .bool | .str | .tuple => some false
  | _ => none
/-- isinstance against a built-in type -/
noncomputable def isiOp (H : AH) (v : AV) (t : BI) : Option Bool := match v with
  | .none => match t with
    | .int | .bool | .str | .tuple | .list => some false
    | _ => none
  | .bool _ => match t with
    | .int | .bool => some true
    | .str | .tuple | .list => some false
    | _ => none
  | .int _ => match t with
    | .int => some true
    | .bool | .str | .tuple | .list => some false
    | _ => none
  | .str _ => match t with
    | .str => some true
    | .int | .bool | .tuple | .list => some false
    | _ => none
  | .tup _ => match t with
    | .tuple => some true
    | .int | .bool | .str | .list => some false
    | _ => none
  | v => match listOf? H v with
    | some _ => isiL t
    | none => none
noncomputable def lenOp (H : AH) (v : AV) : Option AV := match v with
  | .tup l => if l.length ≤ 1048576 then some (.int l.length) else none
  | v => match listOf? H v with
    | some l => if l.length ≤ 1048576 then some (.int l.length) else none
    | none => none
noncomputable def rangeOp : AV → Option AV
  | .int b => if -1048576 ≤ b ∧ b ≤ 1048576 then some (.rng b) else none
  | _ => none
noncomputable def allOp (H : AH) (v : AV) : Option AV := match listOf? H v with
  | some l => (allTrue? l).map .bool
  | none => none
noncomputable def intOf : AV → Option AV
  | .bool b => some (.int (if b then 1 else 0))
  | _ => none
noncomputable def rangeL (b : Int) : List AV := (List.range b.toNat).map fun k : Nat => .int (k : Int)
noncomputable def listOp (H : AH) (v : AV) : Option AV := match v with
  | .tup l => if l.length ≤ 1048576 then some (.lst l) else none
  | .rng b => if -1048576 ≤ b ∧ b ≤ 1048576 then some (.lst (rangeL b)) else none
  | v => match listOf? H v with
    | some l => if l.length ≤ 1048576 then some (.lst l) else none
    | none => none
noncomputable def tupOp (H : AH) (v : AV) : Option AV := match listOf? H v with
  | some l => if l.length ≤ 1048576 then some (.tup l) else none
  | none => none
/-- built-in functions -/
noncomputable def appBI (H : AH) (n : BI) (args : List AV) : Option AV := match args with
  | [v] => match n with
    | .len => lenOp H v
    | .range => rangeOp v
    | .all => allOp H v
    | .int => intOf v
    | .list => listOp H v
    | .tuple => tupOp H v
    | _ => none
  | [v, .bi t] => match n with
    | .isinstance => (isiOp H v t).map .bool
    | _ => none
  | _ => none

noncomputable def app (Φ : Fns) (f : AV) (args : List AV) (H : AH) : Rs AV := match f with
  | .fn k => Φ k args H
  | .bi n => toR H (appBI H n args)
  | _ => .bad
noncomputable def callable : AV → Bool
  | .fn _ => true
  | .bi _ => true
  | _ => false
noncomputable def dCall (Φ : Fns) (f : DE) (l : List DE) : DE := fun σ H => (f σ H).bind fun g H₁ => if callable g then (dEach l σ H₁).bind fun vs H₂ => app Φ g vs H₂ else .bad

/-- what may be gone through: it cannot change -/
noncomputable def iter? : AV → Option (List AV)
  | .tup l => some l
  | .lst l => some l
  | .rng b => if -1048576 ≤ b ∧ b ≤ 1048576 then some (rangeL b) else none
  | _ => none

noncomputable def setAt (H : AH) (x : AV) (f : List AV → Option (List AV)) : Option AH := match x with
  | .ref i => match H[i]? with
    | some (.list l) => (f l).map fun l' => H.set i (.list l')
    | _ => none
  | _ => none
noncomputable def appF (v : AV) (l : List AV) : Option (List AV) := if l.length ≤ 1048576 then some (l ++ [v]) else none
noncomputable def insF (p v : AV) (l : List AV) : Option (List AV) := match p with
  | .int j => if l.length ≤ 1048576 ∧ 0 ≤ j ∧ j ≤ l.length then some (l.take j.toNat ++ v :: l.drop j.toNat) else none
  | _ => none
noncomputable def stoF (p v : AV) (l : List AV) : Option (List AV) := match p with
  | .int j => if l.length ≤ 1048576 ∧ -(l.length : Int) ≤ j ∧ j < l.length then some (l.set (if 0 ≤ j then j.toNat else (j + l.length).toNat) v) else none
  | _ => none
/-- what leaves a call: the lists that the call has made are told as they stand -/
noncomputable def freeze (m : Nat) (H : AH) : Nat → AV → Option AV
  | 0, _ => none
  | n + 1, v => match v with
    | .tup l => (l.mapM (freeze m H n)).map .tup
    | .lst l => (l.mapM (freeze m H n)).map .lst
    | .ref i => if i < m then some (.ref i) else match H[i]? with
      | some (.list l) => (l.mapM (freeze m H n)).map .lst
      | _ => none
    | .inst _ _ => none
    | .exc _ _ => none
    | v => some v

/-- a comprehension over the items: slot k holds the item, the list that grows is the object m -/
noncomputable def compGo (elt : DE) (ifs : DT) (k : Nat) (σ : Loc) (m : Nat) : List AV → AH → Rs Unit
  | [], H => .ok () H
  | v :: r, H => (ifs (upd σ k v) H).bind fun c H₁ =>
      if c then (elt (upd σ k v) H₁).bind fun x H₂ => match setAt H₂ (.ref m) (appF x) with
        | some H₃ => compGo elt ifs k σ m r H₃
        | none => .bad
      else compGo elt ifs k σ m r H₁
noncomputable def tTrue : DT := fun _ H => .ok true H
noncomputable def compSrc (elt : DE) (ifs : DT) (k : Nat) (σ : Loc) (m : Nat) (src : AH → Option (List AV)) : Nat → Nat → AH → Rs Unit
  | 0, _, _ => .bad
  | f + 1, i, H => match src H with
    | none => .bad
    | some l => match l[i]? with
      | none => if l.length = i then .ok () H else .bad
      | some v => (ifs (upd σ k v) H).bind fun c H₁ =>
        if c then (elt (upd σ k v) H₁).bind fun x H₂ => match setAt H₂ (.ref m) (appF x) with
          | some H₃ => compSrc elt ifs k σ m src f (i + 1) H₃
          | none => .bad
        else compSrc elt ifs k σ m src f (i + 1) H₁
theorem compSrc_go {elt : DE} {ifs : DT} {k : Nat} {σ : Loc} {m : Nat} {l : List AV} : ∀ (f i : Nat) (H : AH), l.length - i < f → i ≤ l.length → compSrc elt ifs k σ m (fun _ => some l) f i H = compGo elt ifs k σ m (l.drop i) H
  | 0, _, _, h, _ => by omega
  | f + 1, i, H, h, h' => by
    unfold compSrc
    by_cases hi : i < l.length
    · rw [List.drop_eq_getElem_cons hi]
      simp only [List.getElem?_eq_getElem hi, compGo]
      congr 1
      funext c H₁
      cases c with
      | true =>
        simp only [if_true]
        congr 1
        funext x H₂
        cases setAt H₂ (.ref m) (appF x) with
        | none => rfl
        | some H₃ => exact compSrc_go f (i + 1) H₃ (by omega) (by omega)
      | false =>
        simp only [Bool.false_eq_true, if_false]
        exact compSrc_go f (i + 1) H₁ (by omega) (by omega)
    · rw [List.drop_eq_nil_of_le (by omega)]
      simp only [List.getElem?_eq_none (Nat.le_of_not_lt hi), compGo, show l.length = i by omega, if_true]
open Classical in
noncomputable def compEnd (H₁ : AH) (r : Rs Unit) : Rs AV := r.bind fun _ H₂ =>
      if H₂.take H₁.length = H₁ then (match freeze H₁.length H₂ 12 (.ref H₁.length) with
        | some v => .ok v H₁
        | none => .bad) else .bad
noncomputable def dComp (elt : DE) (ifs : DT) (k : Nat) (it : DE) : DE := fun σ H => (it σ H).bind fun x H₁ => match iter? x with
  | some l => compEnd H₁ (compGo elt ifs k σ H₁.length l (H₁ ++ [.list []]))
  | none => match x with
    | .ref j => compEnd H₁ (compSrc elt ifs k σ H₁.length (fun H => listOf? H (.ref j)) 20000 0 (H₁ ++ [.list []]))
    | _ => .bad

/-- statements -/
noncomputable def sSeq (a b : DS) : DS := fun σ H => (a σ H).bind fun r H₁ => match r with
  | (.next, σ₁) => b σ₁ H₁
  | (.ret v, σ₁) => .ok (.ret v, σ₁) H₁
noncomputable def sNil : DS := fun σ H => .ok (.next, σ) H
noncomputable def sRet (a : DE) : DS := fun σ H => (a σ H).bind fun v H₁ => .ok (.ret v, σ) H₁
noncomputable def sAsg (i : Nat) (a : DE) : DS := fun σ H => (a σ H).bind fun v H₁ => .ok (.next, upd σ i v) H₁
noncomputable def sExpr (a : DE) : DS := fun σ H => (a σ H).bind fun _ H₁ => .ok (.next, σ) H₁
noncomputable def sIf (t : DT) (a b : DS) : DS := fun σ H => (t σ H).bind fun c H₁ => if c then a σ H₁ else b σ H₁
/-- the targets of a loop or of an assignment: a name, or names -/
inductive Tg where
  | one (i : Nat)
  | many (l : List Nat)
noncomputable def bindAll : List Nat → List AV → Loc → Option Loc
  | [], [], σ => some σ
  | i :: r, v :: vs, σ => bindAll r vs (upd σ i v)
  | _, _, _ => none
noncomputable def Tg.bind : Tg → AV → Loc → Option Loc
  | .one i, v, σ => some (upd σ i v)
  | .many l, .tup vs, σ => bindAll l vs σ
  | .many _, _, _ => none
noncomputable def forGo (t : Tg) (b : DS) : List AV → Loc → AH → Rs (Fl × Loc)
  | [], σ, H => .ok (.next, σ) H
  | v :: r, σ, H => match t.bind v σ with
    | some σ₁ => (b σ₁ H).bind fun p H₁ => match p with
      | (.next, σ₂) => forGo t b r σ₂ H₁
      | (.ret w, σ₂) => .ok (.ret w, σ₂) H₁
    | none => .bad
/-- a loop over what is read anew at each turn -/
noncomputable def forSrc (t : Tg) (b : DS) (src : AH → Option (List AV)) : Nat → Nat → Loc → AH → Rs (Fl × Loc)
  | 0, _, _, _ => .bad
  | f + 1, i, σ, H => match src H with
    | none => .bad
    | some l => match l[i]? with
      | none => if l.length = i then .ok (.next, σ) H else .bad
      | some v => match t.bind v σ with
        | some σ₁ => (b σ₁ H).bind fun p H₁ => match p with
          | (.next, σ₂) => forSrc t b src f (i + 1) σ₂ H₁
          | (.ret w, σ₂) => .ok (.ret w, σ₂) H₁
        | none => .bad
noncomputable def sFor (t : Tg) (it : DE) (b : DS) : DS := fun σ H => (it σ H).bind fun x H₁ => match iter? x with
  | some l => forGo t b l σ H₁
  | none => match x with
    | .ref k => forSrc t b (fun H => listOf? H (.ref k)) 20000 0 σ H₁
    | _ => .bad
theorem forSrc_go {t : Tg} {b : DS} {l : List AV} : ∀ (f i : Nat) (σ : Loc) (H : AH), l.length - i < f → i ≤ l.length → forSrc t b (fun _ => some l) f i σ H = forGo t b (l.drop i) σ H
  | 0, _, _, _, h, _ => by omega
  | f + 1, i, σ, H, h, h' => by
    unfold forSrc
    by_cases hi : i < l.length
    · rw [List.drop_eq_getElem_cons hi]
      simp only [List.getElem?_eq_getElem hi, forGo]
      cases t.bind l[i] σ with
      | none => rfl
      | some σ₁ =>
        simp only
        congr 1
        funext p H₁
        obtain ⟨fl, σ₂⟩ := p
        cases fl with
        | next => exact forSrc_go f (i + 1) σ₂ H₁ (by omega) (by omega)
        | ret w => rfl
    · rw [List.drop_eq_nil_of_le (by omega)]
      simp only [List.getElem?_eq_none (Nat.le_of_not_lt hi), forGo, show l.length = i by omega, if_true]
structure Fun where
  params : Nat
  frz : Bool
  body : Fns → DS
noncomputable def args0 : List AV → Nat → Loc
  | [], _ => fun _ => none
  | v :: r, k => fun j => if j = k then some v else args0 r (k + 1) j
open Classical in
noncomputable def Fun.run (f : Fun) (Φ : Fns) (args : List AV) (H : AH) : Rs AV :=
  if args.length = f.params then
    (f.body Φ (args0 args 0) H).bind fun p H₁ =>
      if f.frz then
        (if H₁.take H.length = H then (match freeze H.length H₁ 12 p.1.val with
          | some v' => .ok v' H
          | none => .bad) else .bad)
      else .ok p.1.val H₁
  else .bad
noncomputable def fns (t : Nat → Option Fun) : Nat → Fns
  | 0 => fun _ _ _ => .bad
  | n + 1 => fun k args H => match t k with
    | some f => f.run (fns t n) args H
    | none => .bad

/-- methods of a list that change it -/
noncomputable def toH : Option AH → Rs AV
  | some H => .ok .none H
  | none => .bad
noncomputable def isL (H : AH) : AV → Bool
  | .ref i => match H[i]? with
    | some (.list _) => true
    | _ => false
  | _ => false
/-- calls of a list's methods that change it -/
noncomputable def dMeth (f : List AV → List AV → Option (List AV)) (o : DE) (ds : List DE) : DE := fun σ H => (o σ H).bind fun x H₁ =>
  if isL H₁ x then (dEach ds σ H₁).bind fun us H₂ => toH (setAt H₂ x (f us)) else .bad
noncomputable def appM (us l : List AV) : Option (List AV) := match us with
  | [v] => appF v l
  | _ => none
noncomputable def insM (us l : List AV) : Option (List AV) := match us with
  | [p, v] => insF p v l
  | _ => none
noncomputable def sStore (o k a : DE) : DS := fun σ H => (a σ H).bind fun v H₁ => (o σ H₁).bind fun x H₂ => (k σ H₂).bind fun p H₃ => match setAt H₃ x (stoF p v) with
  | some H₄ => .ok (.next, σ) H₄
  | none => .bad

end Mine

namespace Mine
open PySem

structure Cx where
  prog : Program
  w : World
  base : Heap
  fnv : Nat → Addr
  clv : Nat → Addr

noncomputable def BI.val : BI → Value
  | .len => .builtin "len"
  | .range => .type "range"
  | .isinstance => .builtin "isinstance"
  | .all => .builtin "all"
  | .int => .type "int"
  | .str => .type "str"
  | .list => .type "list"
  | .tuple => .type "tuple"
  | .bool => .type "bool"
  | .dict => .type "dict"
  | .valueError => .type "ValueError"

mutual
inductive VR (C : Cx) (β : List Addr) (h : Heap) : Value → AV → Prop
  | none : VR C β h .none .none
  | bool (b : Bool) : VR C β h (.bool b) (.bool b)
  | int (i : Int) (t : Tok) : VR C β h (.int i t) (.int i)
  | str (x : Str) (t : Tok) : VR C β h (.str x t) (.str x)
  | tup {a : Addr} {items : Array Value} {l : List AV} : h.IsTuple a items → a ∉ β → VRs C β h items.toList l → VR C β h (.ref a) (.tup l)
  | lst {a : Addr} {items : Array Value} {l : List AV} : h.IsList a items → a ∉ β → VRs C β h items.toList l → VR C β h (.ref a) (.lst l)
  | ref {a : Addr} {i : Nat} : β[i]? = some a → VR C β h (.ref a) (.ref i)
  | rng {a : Addr} {b : Int} {t u v : Tok} : IsRange h a 0 b 1 t u v → a ∉ β → VR C β h (.ref a) (.rng b)
  | fn (k : Nat) : VR C β h (.ref (C.fnv k)) (.fn k)
  | cls (k : Nat) : VR C β h (.ref (C.clv k)) (.cls k)
  | bi {x : Value} (n : BI) : x = n.val → VR C β h x (.bi n)
inductive VRs (C : Cx) (β : List Addr) (h : Heap) : List Value → List AV → Prop
  | nil : VRs C β h [] []
  | cons {v : Value} {vs : List Value} {d : AV} {ds : List AV} : VR C β h v d → VRs C β h vs ds → VRs C β h (v :: vs) (d :: ds)
end

/-- an object as it stood; a frame's or a table's notes beside its entries may have changed -/
noncomputable def Kept (o o' : Obj) : Prop := o' = o ∨ (o'.cls = o.cls ∧ o'.data = o.data ∧ ∃ es ep, o.data = .dict es ep)
theorem Kept.refl (o : Obj) : Kept o o := .inl rfl
theorem Kept.trans {o o' o'' : Obj} (h : Kept o o') (k : Kept o' o'') : Kept o o'' := by
  rcases h with rfl | ⟨h1, h2, es, ep, h3⟩
  · exact k
  · rcases k with rfl | ⟨k1, k2, _⟩
    · exact .inr ⟨h1, h2, es, ep, h3⟩
    · exact .inr ⟨k1.trans h1, k2.trans h2, es, ep, h3⟩
theorem Kept.data {o o' : Obj} (h : Kept o o') : o'.cls = o.cls ∧ o'.data = o.data := by
  rcases h with rfl | ⟨h1, h2, _⟩
  · exact ⟨rfl, rfl⟩
  · exact ⟨h1, h2⟩
theorem Kept.same {o o' : Obj} (h : Kept o o') (hd : ∀ es ep, o.data ≠ .dict es ep) : o' = o := by
  rcases h with rfl | ⟨_, _, es, ep, h3⟩
  · rfl
  · exact absurd h3 (hd es ep)

/-- frames' names and cells -/
noncomputable def Slotty (o : Obj) : Prop := (∃ es ep, o.data = .dict es ep) ∨ (∃ v, o.data = .cell v) ∨ (∃ vs, o.data = .fields vs ∧ o.cls ≠ .type "range")
theorem Kept.slotty {o o' : Obj} (k : Kept o o') (h : Slotty o) : Slotty o' := by
  unfold Slotty
  rw [k.data.1, k.data.2]; exact h
noncomputable def Nix (_ : Addr) : Prop := False

/-- the heap has grown: what is no object of β and none of X stands as it stood -/
structure Grow0 (X : Addr → Prop) (β : List Addr) (h : Heap) (β' : List Addr) (h' : Heap) : Prop where
  ext : ∃ ν, β' = β ++ ν ∧ ∀ a ∈ ν, h.get? a = none
  keep : ∀ a o, h.get? a = some o → a ∉ β → ¬ X a → ∃ o', h'.get? a = some o' ∧ Kept o o'
  xs : ∀ a, X a → ∃ o, h.get? a = some o ∧ Slotty o
structure Grow (X : Addr → Prop) (β : List Addr) (h : Heap) (β' : List Addr) (h' : Heap) : Prop extends Grow0 X β h β' h' where
  xlive : ∀ a, X a → ∃ o, h'.get? a = some o ∧ Slotty o

section
variable {C : Cx} {X : Addr → Prop} {β β' β'' : List Addr} {h h' h'' : Heap}
theorem Grow.refl (hx : ∀ a, X a → ∃ o, h.get? a = some o ∧ Slotty o) (β : List Addr) : Grow X β h β h := ⟨⟨⟨[], by simp, fun _ ha => nomatch ha⟩, fun _ o e _ _ => ⟨o, e, .refl o⟩, hx⟩, hx⟩
theorem Grow0.notin (g : Grow0 X β h β' h') {a : Addr} {o : Obj} (e : h.get? a = some o) (hn : a ∉ β) : a ∉ β' := by
  obtain ⟨ν, rfl, hν⟩ := g.ext
  intro hm
  rcases List.mem_append.mp hm with h1 | h1
  · exact hn h1
  · rw [hν a h1] at e; cases e
theorem Grow.trans (g : Grow X β h β' h') (k : Grow X β' h' β'' h'') (live : ∀ a ∈ β, ∃ o, h'.get? a = some o) : Grow X β h β'' h'' := by
  obtain ⟨ν, e1, hν⟩ := g.ext
  obtain ⟨μ, e2, hμ⟩ := k.ext
  refine ⟨⟨⟨ν ++ μ, by rw [e2, e1, List.append_assoc], fun a ha => ?_⟩, fun a o e hn hx => ?_, g.xs⟩, k.xlive⟩
  · rcases List.mem_append.mp ha with h1 | h1
    · exact hν a h1
    · cases q : h.get? a with
      | none => rfl
      | some o =>
        by_cases hb : a ∈ β
        · obtain ⟨o', ho'⟩ := live a hb
          rw [hμ a h1] at ho'; cases ho'
        · by_cases hx : X a
          · obtain ⟨o', ho', _⟩ := g.xlive a hx
            rw [hμ a h1] at ho'; cases ho'
          · obtain ⟨o', ho', _⟩ := g.keep a o q hb hx
            rw [hμ a h1] at ho'; cases ho'
  · obtain ⟨o', ho', k1⟩ := g.keep a o e hn hx
    obtain ⟨o'', ho'', k2⟩ := k.keep a o' ho' (g.notin e hn) hx
    exact ⟨o'', ho'', k1.trans k2⟩
/-- what changes nothing, changes nothing but X -/
theorem Grow.weaken (g : Grow Nix β h β' h') (hx : ∀ a, X a → a ∉ β ∧ ∃ o, h.get? a = some o ∧ Slotty o) : Grow X β h β' h' :=
  ⟨⟨g.ext, fun a o e hn _ => g.keep a o e hn id, fun a ha => (hx a ha).2⟩, fun a ha => by
    obtain ⟨hn, o, ho, hs⟩ := hx a ha
    obtain ⟨o', ho', k⟩ := g.keep a o ho hn id
    refine ⟨o', ho', ?_⟩
    exact k.slotty hs⟩
/-- a larger part may change -/
theorem Grow.sub {Y : Addr → Prop} (g : Grow X β h β' h') (hXY : ∀ a, X a → Y a) (hy : ∀ a, Y a → a ∉ β ∧ ∃ o, h.get? a = some o ∧ Slotty o) : Grow Y β h β' h' :=
  ⟨⟨g.ext, fun a o e hn hq => g.keep a o e hn fun hx => hq (hXY a hx), fun a ha => (hy a ha).2⟩, fun a ha => by
    by_cases hx : X a
    · exact g.xlive a hx
    · obtain ⟨hn, o, ho, hs⟩ := hy a ha
      obtain ⟨o', ho', k⟩ := g.keep a o ho hn hx
      exact ⟨o', ho', k.slotty hs⟩⟩
theorem Grow0.seq (g : Grow0 X β h β' h') {a : Addr} {o : Obj} {vs n} (e : h.get? a = some o) (hn : a ∉ β) (hd : o.data = .seq vs n) : h'.get? a = some o := by
  by_cases hx : X a
  · obtain ⟨o', ho', hs⟩ := g.xs a hx
    rw [e] at ho'; cases ho'
    rcases hs with ⟨es, ep, q⟩ | ⟨v, q⟩ | ⟨v, q, _⟩ <;> rw [hd] at q <;> cases q
  · obtain ⟨o', ho', k⟩ := g.keep a o e hn hx
    rw [k.same (fun es ep q => by rw [hd] at q; cases q)] at ho'
    exact ho'
theorem Grow0.fields (g : Grow0 X β h β' h') {a : Addr} {o : Obj} {vs} (e : h.get? a = some o) (hn : a ∉ β) (hd : o.data = .fields vs) (hc : o.cls = .type "range" ∨ ¬ X a) : h'.get? a = some o := by
  by_cases hx : X a
  · obtain ⟨o', ho', hs⟩ := g.xs a hx
    rw [e] at ho'; cases ho'
    rcases hs with ⟨es, ep, q⟩ | ⟨v, q⟩ | ⟨v, q, q'⟩
    · rw [hd] at q; cases q
    · rw [hd] at q; cases q
    · exact absurd hx (hc.resolve_left q')
  · obtain ⟨o', ho', k⟩ := g.keep a o e hn hx
    rw [k.same (fun es ep q => by rw [hd] at q; cases q)] at ho'
    exact ho'

mutual
theorem VR.mono0 (g : Grow0 X β h β' h') : ∀ {v : Value} {d : AV}, VR C β h v d → VR C β' h' v d
  | _, _, .none => .none
  | _, _, .bool b => .bool b
  | _, _, .int i t => .int i t
  | _, _, .str x t => .str x t
  | _, _, .tup ⟨o, ho, hc, n, hd⟩ hn r => .tup ⟨o, g.seq ho hn hd, hc, n, hd⟩ (g.notin ho hn) (VRs.mono0 g r)
  | _, _, .lst ⟨o, ho, hc, n, hd⟩ hn r => .lst ⟨o, g.seq ho hn hd, hc, n, hd⟩ (g.notin ho hn) (VRs.mono0 g r)
  | _, _, .ref hb => by
    obtain ⟨ν, rfl, _⟩ := g.ext
    exact .ref (by rw [List.getElem?_append_left (List.getElem?_eq_some_iff.mp hb).1]; exact hb)
  | _, _, .rng hr hn => .rng (g.fields hr hn rfl (.inl rfl)) (g.notin hr hn)
  | _, _, .fn k => .fn k
  | _, _, .cls k => .cls k
  | _, _, .bi n e => .bi n e
theorem VRs.mono0 (g : Grow0 X β h β' h') : ∀ {vs : List Value} {ds : List AV}, VRs C β h vs ds → VRs C β' h' vs ds
  | _, _, .nil => .nil
  | _, _, .cons a r => .cons (VR.mono0 g a) (VRs.mono0 g r)
end
theorem VR.mono (g : Grow X β h β' h') {v : Value} {d : AV} (r : VR C β h v d) : VR C β' h' v d := r.mono0 g.toGrow0
theorem VRs.mono (g : Grow X β h β' h') {vs : List Value} {ds : List AV} (r : VRs C β h vs ds) : VRs C β' h' vs ds := r.mono0 g.toGrow0
theorem VRs.length : ∀ {vs : List Value} {ds : List AV}, VRs C β h vs ds → vs.length = ds.length
  | _, _, .nil => rfl
  | _, _, .cons _ r => by rw [List.length_cons, List.length_cons, VRs.length r]
theorem VRs.append : ∀ {vs ws : List Value} {ds es : List AV}, VRs C β h vs ds → VRs C β h ws es → VRs C β h (vs ++ ws) (ds ++ es)
  | _, _, _, _, .nil, k => k
  | _, _, _, _, .cons a r, k => .cons a (VRs.append r k)
theorem VRs.get : ∀ {vs : List Value} {ds : List AV}, VRs C β h vs ds → ∀ {k : Nat} {d : AV}, ds[k]? = some d → ∃ v, vs[k]? = some v ∧ VR C β h v d
  | _, _, .nil, _, _, e => by simp at e
  | _, _, .cons a r, 0, _, e => by simp at e; subst e; exact ⟨_, rfl, a⟩
  | _, _, .cons a r, k + 1, _, e => by simpa using VRs.get r (by simpa using e)
theorem VRs.take : ∀ {vs : List Value} {ds : List AV}, VRs C β h vs ds → ∀ k, VRs C β h (vs.take k) (ds.take k)
  | _, _, .nil, k => by simpa using VRs.nil
  | _, _, .cons a r, 0 => .nil
  | _, _, .cons a r, k + 1 => .cons a (VRs.take r k)
theorem VRs.drop : ∀ {vs : List Value} {ds : List AV}, VRs C β h vs ds → ∀ k, VRs C β h (vs.drop k) (ds.drop k)
  | _, _, .nil, k => by simpa using VRs.nil
  | _, _, .cons a r, 0 => .cons a r
  | _, _, .cons a r, k + 1 => VRs.drop r k
theorem VRs.set : ∀ {vs : List Value} {ds : List AV}, VRs C β h vs ds → ∀ k {v : Value} {d : AV}, VR C β h v d → VRs C β h (vs.set k v) (ds.set k d)
  | _, _, .nil, k, _, _, _ => by simpa using VRs.nil
  | _, _, .cons a r, 0, _, _, q => .cons q r
  | _, _, .cons a r, k + 1, _, _, q => .cons a (VRs.set r k q)
end

/-- an object of the abstract heap, as it stands at an address -/
noncomputable def OR (C : Cx) (β : List Addr) (h : Heap) (a : Addr) : AO → Prop
  | .list l => ∃ items, h.PlainList a items ∧ VRs C β h items.toList l
  | .dict _ => False
  | .attrs _ => False

structure Inv (C : Cx) (β : List Addr) (h : Heap) (H : AH) : Prop where
  len : β.length = H.length
  nodup : β.Nodup
  obj : ∀ (i : Nat) (a : Addr) (o : AO), β[i]? = some a → H[i]? = some o → OR C β h a o
  base : ∀ a o, C.base.get? a = some o → h.get? a = some o
  fresh : ∀ a ∈ β, C.base.get? a = none

theorem OR.live {C : Cx} {β : List Addr} {h : Heap} {a : Addr} : ∀ {o : AO}, OR C β h a o → ∃ ob, h.get? a = some ob
  | .list _, ⟨_, ⟨_, ho⟩, _⟩ => ⟨_, ho⟩
  | .dict _, x => x.elim
  | .attrs _, x => x.elim
theorem Inv.live {C : Cx} {β : List Addr} {h : Heap} {H : AH} (I : Inv C β h H) : ∀ a ∈ β, ∃ o, h.get? a = some o := by
  intro a ha
  obtain ⟨i, hi, e⟩ := List.getElem_of_mem ha
  have e1 : β[i]? = some a := by rw [List.getElem?_eq_getElem hi, e]
  have hi' : i < H.length := I.len ▸ hi
  exact (I.obj i a _ e1 (List.getElem?_eq_getElem hi')).live

/-- the state after an evaluation -/
structure After (C : Cx) (X : Addr → Prop) (β : List Addr) (s : Shared) (β' : List Addr) (s' : Shared) (H' : AH) : Prop where
  grow : Grow X β s.heap β' s'.heap
  inv : Inv C β' s'.heap H'
  same : ∃ h tk, s' = { s with heap := h, toks := tk }

theorem After.refl {C : Cx} {β : List Addr} {s : Shared} {H : AH} (I : Inv C β s.heap H) : After C Nix β s β s H := ⟨.refl (fun _ h => h.elim) _, I, s.heap, s.toks, rfl⟩
theorem After.trans {C : Cx} {X : Addr → Prop} {β β' β'' : List Addr} {s s' s'' : Shared} {H' H'' : AH} (a : After C X β s β' s' H') (b : After C X β' s' β'' s'' H'') : After C X β s β'' s'' H'' := by
  refine ⟨a.grow.trans b.grow fun x hx => ?_, b.inv, ?_⟩
  · obtain ⟨ν, e, _⟩ := a.grow.ext
    exact a.inv.live x (by rw [e]; exact List.mem_append_left _ hx)
  · obtain ⟨h, tk, rfl⟩ := a.same
    obtain ⟨h', tk', rfl⟩ := b.same
    exact ⟨h', tk', rfl⟩
theorem After.weaken {C : Cx} {X : Addr → Prop} {β β' : List Addr} {s s' : Shared} {H' : AH} (a : After C Nix β s β' s' H') (hx : ∀ a, X a → a ∉ β ∧ ∃ o, s.heap.get? a = some o ∧ Slotty o) : After C X β s β' s' H' :=
  ⟨a.grow.weaken hx, a.inv, a.same⟩

/-- what a name of the frame holds; nothing is said where the abstract frame holds nothing -/
noncomputable def OV (C : Cx) (β : List Addr) (h : Heap) (v : Option Value) : Option AV → Prop
  | none => True
  | some d => ∃ x, v = some x ∧ VR C β h x d
theorem OV.mono0 {C : Cx} {X : Addr → Prop} {β β' : List Addr} {h h' : Heap} (g : Grow0 X β h β' h') {v : Option Value} : ∀ {d : Option AV}, OV C β h v d → OV C β' h' v d
  | none, _ => trivial
  | some _, ⟨x, e, r⟩ => ⟨x, e, r.mono0 g⟩
theorem OV.mono {C : Cx} {X : Addr → Prop} {β β' : List Addr} {h h' : Heap} (g : Grow X β h β' h') {v : Option Value} {d : Option AV} (r : OV C β h v d) : OV C β' h' v d := r.mono0 g.toGrow0

structure Sco where
  Γ : List (Str × Nat)
  G : List Str
  K : List Str := []

/-- the frame's own storage -/
noncomputable def Own (env : Env) (a : Addr) : Prop := a = env.locals ∨ ∃ x, env.cells.lookup x = some a

structure ER (C : Cx) (S : Sco) (env : Env) (β : List Addr) (h : Heap) (σ : Loc) : Prop where
  kind : env.scope.kind = .function
  globals : env.globals = mainGlobals
  builtins : env.builtins = builtinsNs
  notL : env.locals ∉ β
  locB : C.base.get? env.locals = none
  glo : ∀ x ∈ S.G, env.kindOf x = some .globalImplicit
  cap : ∀ x ∈ S.K, env.kindOf x = some .cell ∨ env.kindOf x = some .free
  cell : ∀ x c, env.cells.lookup x = some c → (∃ v, h.IsCell c v) ∧ c ∉ β ∧ C.base.get? c = none ∧ c ≠ env.locals
  apart : ∀ x y c, env.cells.lookup x = some c → env.cells.lookup y = some c → x = y
  slots : ∀ x y i, S.Γ.lookup x = some i → S.Γ.lookup y = some i → x = y
  vars : ∃ m : Str → Option Value, h.Ns env.locals m ∧ ∀ x i, S.Γ.lookup x = some i →
    (env.kindOf x = some .local ∧ OV C β h (m x) (σ i)) ∨
    ((env.kindOf x = some .cell ∨ env.kindOf x = some .free) ∧ ∃ c v, env.cells.lookup x = some c ∧ h.IsCell c v ∧ OV C β h v (σ i))

theorem ER.own {C : Cx} {S : Sco} {env : Env} {β : List Addr} {h : Heap} {σ : Loc} (e : ER C S env β h σ) : ∀ a, Own env a → a ∉ β ∧ ∃ o, h.get? a = some o ∧ Slotty o := by
  rintro a (rfl | ⟨x, hx⟩)
  · obtain ⟨m, ⟨o, es, ep, ho, hd, _⟩, _⟩ := e.vars
    exact ⟨e.notL, o, ho, .inl ⟨es, ep, hd⟩⟩
  · obtain ⟨⟨v, o, ho, hd⟩, h1, _⟩ := e.cell x a hx
    exact ⟨h1, o, ho, .inr (.inl ⟨v, hd⟩)⟩

theorem Heap.Ns.kept {h h' : Heap} {a : Addr} {m : Str → Option Value} (hn : h.Ns a m) (k : ∀ o, h.get? a = some o → ∃ o', h'.get? a = some o' ∧ Kept o o') : h'.Ns a m := by
  obtain ⟨o, es, ep, ho, hd, hr⟩ := hn
  obtain ⟨o', ho', hk⟩ := k o ho
  exact ⟨o', es, ep, ho', by rw [hk.data.2]; exact hd, hr⟩
theorem Heap.IsCell.kept {h h' : Heap} {a : Addr} {v : Option Value} (hn : h.IsCell a v) (k : ∀ o, h.get? a = some o → ∃ o', h'.get? a = some o' ∧ Kept o o') : h'.IsCell a v := by
  obtain ⟨o, ho, hd⟩ := hn
  obtain ⟨o', ho', hk⟩ := k o ho
  exact ⟨o', ho', by rw [hk.data.2]; exact hd⟩

theorem ER.mono' {C : Cx} {X : Addr → Prop} {S : Sco} {env : Env} {β β' : List Addr} {h h' : Heap} {σ : Loc} (g : Grow0 X β h β' h') (hX : ∀ a, Own env a → ¬ X a) (e : ER C S env β h σ) : ER C S env β' h' σ := by
  obtain ⟨m, hm, hv⟩ := e.vars
  have k : ∀ a, a ∉ β → Own env a → ∀ o, h.get? a = some o → ∃ o', h'.get? a = some o' ∧ Kept o o' := fun a ha hw o ho => g.keep a o ho ha (hX a hw)
  refine ⟨e.kind, e.globals, e.builtins, ?_, e.locB, e.glo, e.cap, fun x c hc => ?_, e.apart, e.slots, m, Heap.Ns.kept hm (k _ e.notL (.inl rfl)), fun x i hx => ?_⟩
  · obtain ⟨o, es, ep, ho, hr⟩ := id hm
    exact g.notin ho e.notL
  · obtain ⟨⟨v, hv⟩, h1, h2, h3⟩ := e.cell x c hc
    obtain ⟨oc, hoc, hd⟩ := id hv
    exact ⟨⟨v, Heap.IsCell.kept hv (k _ h1 (.inr ⟨x, hc⟩))⟩, g.notin hoc h1, h2, h3⟩
  · rcases hv x i hx with ⟨hk, r⟩ | ⟨hk, c, v, hc, hcv, r⟩
    · exact .inl ⟨hk, r.mono0 g⟩
    · exact .inr ⟨hk, c, v, hc, Heap.IsCell.kept hcv (k _ (e.cell x c hc).2.1 (.inr ⟨x, hc⟩)), r.mono0 g⟩
theorem ER.mono {C : Cx} {S : Sco} {env : Env} {β β' : List Addr} {h h' : Heap} {σ : Loc} (g : Grow Nix β h β' h') (e : ER C S env β h σ) : ER C S env β' h' σ := e.mono' g.toGrow0 fun _ _ => id

/-- the frames of the stack -/
structure Frm (C : Cx) (β : List Addr) (h : Heap) (env : Env) : Prop where
  kind : env.scope.kind = .function
  gen : env.scope.isGenerator = false
  co : env.scope.isCoroutine = false
  builtins : env.builtins = builtinsNs
  globals : env.globals = mainGlobals
  loc : env.frame = some env.locals
  notL : env.locals ∉ β
  locB : C.base.get? env.locals = none
  ns : ∃ m, h.Ns env.locals m
noncomputable def Stk (C : Cx) (A : Around) (β : List Addr) (h : Heap) : Prop := ∃ l, A.frames = some l ∧ ∀ e ∈ l, Frm C β h e
theorem Frm.mono {C : Cx} {X : Addr → Prop} {env : Env} {β β' : List Addr} {h h' : Heap} (g : Grow X β h β' h') (hx : X env.locals → ∃ m, h'.Ns env.locals m) (f : Frm C β h env) : Frm C β' h' env := by
  obtain ⟨m, hm⟩ := f.ns
  obtain ⟨o, es, ep, ho, hr⟩ := id hm
  refine ⟨f.kind, f.gen, f.co, f.builtins, f.globals, f.loc, g.notin ho f.notL, f.locB, ?_⟩
  by_cases q : X env.locals
  · exact hx q
  · exact ⟨m, Heap.Ns.kept hm fun o ho => g.keep _ o ho f.notL q⟩
theorem Stk.mono' {C : Cx} {X : Addr → Prop} {A : Around} {β β' : List Addr} {h h' : Heap} (g : Grow X β h β' h') (hX : ∀ a, X a → ∃ o, h.get? a = some o ∧ ∀ es ep, o.data ≠ .dict es ep) : Stk C A β h → Stk C A β' h'
  | ⟨l, hl, k⟩ => ⟨l, hl, fun e he => (k e he).mono g fun x => by
      obtain ⟨o, ho, hd⟩ := hX _ x
      obtain ⟨m, o', es, ep, ho', hd', _⟩ := (k e he).ns
      rw [ho] at ho'; cases ho'
      exact absurd hd' (hd es ep)⟩
theorem Stk.mono {C : Cx} {A : Around} {β β' : List Addr} {h h' : Heap} (g : Grow Nix β h β' h') : Stk C A β h → Stk C A β' h'
  | ⟨l, hl, k⟩ => ⟨l, hl, fun e he => (k e he).mono g fun x => x.elim⟩
end Mine

namespace Mine
open PySem PyProof.Rows PySem.Calls

structure Base (C : Cx) (mg mb : Str → Option Value) : Prop where
  g : C.base.Ns mainGlobals mg
  b : C.base.Ns builtinsNs mb
  nolimit : C.base.NoLimit
  seer : C.base.NoSeer
  tree : C.prog.given.tree = none

structure Room (n : Nat) (A : Around) : Prop where
  handled : A.handled = none
  depth : A.depth + n + 110 < recursionLimit
  units : A.units + 8 * n + 200 < cLine

structure Pre (C : Cx) (n : Nat) (A : Around) (S : Sco) (env : Env) (β : List Addr) (s : Shared) (σ : Loc) (H : AH) : Prop where
  inv : Inv C β s.heap H
  env : ER C S env β s.heap σ
  room : Room n A
  stk : Stk C A β s.heap
  ne : A.frames ≠ some []

section
variable {C : Cx} {n : Nat} {A : Around} {S : Sco} {env : Env} {β β' : List Addr} {s s' : Shared} {σ : Loc} {H H' : AH}
theorem Pre.after (p : Pre C n A S env β s σ H) (a : After C Nix β s β' s' H') : Pre C n A S env β' s' σ H' := ⟨a.inv, p.env.mono a.grow, p.room, p.stk.mono a.grow, p.ne⟩
end

/-- what is asked of the end -/
noncomputable def Pst {ρ α : Type} (C : Cx) (X : Addr → Prop) (R : List Addr → Heap → ρ → α → Prop) (β : List Addr) (s : Shared) (r : Rs α) (Q : ρ → Shared → Prop) (_E : Value → Shared → Prop) : Prop :=
  match r with
  | .ok v H' => ∀ x s' β', After C X β s β' s' H' → R β' s'.heap x v → Q x s'
  | .err _ _ => False
  | .bad => False

section
variable {ρ ρ' α α' : Type} {C : Cx} {X : Addr → Prop} {R : List Addr → Heap → ρ → α → Prop} {R' : List Addr → Heap → ρ' → α' → Prop} {β β' : List Addr} {s s' : Shared} {H' : AH} {r : Rs α} {Q : ρ → Shared → Prop} {E : Value → Shared → Prop}
theorem Pst.shift (a : After C X β s β' s' H') (h : Pst C X R β s r Q E) : Pst C X R β' s' r Q E := by
  cases r with
  | ok v K => exact fun x s'' β'' b hx => h x s'' β'' (a.trans b) hx
  | err _ _ => exact h
  | bad => exact h
theorem Pst.bind {f : α → AH → Rs α'} {Q' : ρ' → Shared → Prop} (h : Pst C X R' β s (r.bind f) Q' E) :
    Pst C X R β s r (fun x s' => ∃ a H' β', r = .ok a H' ∧ After C X β s β' s' H' ∧ R β' s'.heap x a ∧ Pst C X R' β' s' (f a H') Q' E) E := by
  cases r with
  | ok v K => exact fun x s' β' a hx => ⟨v, K, β', rfl, a, hx, Pst.shift a h⟩
  | err _ _ => exact h
  | bad => exact h
/-- an expression within a statement -/
theorem Pst.bindE {f : α → AH → Rs α'} {Q' : ρ' → Shared → Prop} (hx : ∀ a, X a → a ∉ β ∧ ∃ o, s.heap.get? a = some o ∧ Slotty o) (h : Pst C X R' β s (r.bind f) Q' E) :
    Pst C Nix R β s r (fun x s' => ∃ a H' β', r = .ok a H' ∧ After C Nix β s β' s' H' ∧ R β' s'.heap x a ∧ Pst C X R' β' s' (f a H') Q' E) E := by
  cases r with
  | ok v K => exact fun x s' β' a hr => ⟨v, K, β', rfl, a, hr, Pst.shift (a.weaken hx) h⟩
  | err _ _ => exact h
  | bad => exact h
theorem Pst.ok_here {v : α} {H : AH} {x : ρ} (I : Inv C β s.heap H) (h : Pst C Nix R β s (.ok v H) Q E) (hx : R β s.heap x v) : Q x s := h x s β (.refl I) hx
end

noncomputable def SE (C : Cx) (n : Nat) (S : Sco) (e : Expr) (d : DE) : Prop :=
  ∀ A env σ H β s Q E, Pre C n A S env β s σ H → Pst C Nix (VR C) β s (d σ H) Q E → wpAny (model C.prog C.w) A (eval e env) Q E s
noncomputable def BR (_ : List Addr) (_ : Heap) (x : Bool) (b : Bool) : Prop := x = b
noncomputable def ST (C : Cx) (n : Nat) (S : Sco) (e : Expr) (d : DT) : Prop :=
  ∀ A env σ H β s Q E, Pre C n A S env β s σ H → Pst C Nix BR β s (d σ H) Q E → wpAny (model C.prog C.w) A (isTrue e env (eval e env)) Q E s
noncomputable def SEs (C : Cx) (n : Nat) (S : Sco) (es : List Expr) (ds : List DE) : Prop :=
  ∀ A env σ H β s Q E pos, Pre C n A S env β s σ H → Pst C Nix (VRs C) β s (dEach ds σ H) Q E → wpAny (model C.prog C.w) A (spliced (backTo pos (starEach es env))) Q E s

section
variable {C : Cx} {n : Nat} {S : Sco} {β : List Addr} {s : Shared} {H : AH} {A : Around} {Q : Value → Shared → Prop} {E : Value → Shared → Prop}

/-- a value that needs no heap: tokens alone go on -/
theorem Inv.toks (I : Inv C β s.heap H) (tk : Nat) : After C Nix β s β { s with toks := tk } H := ⟨.refl (fun _ h => h.elim) _, I, s.heap, tk, rfl⟩
theorem Inv.push (I : Inv C β s.heap H) (o : Obj) (tk : Nat) : After C Nix β s β { s with heap := s.heap.push o, toks := tk } H := by
  have g : Grow Nix β s.heap β (s.heap.push o) := ⟨⟨⟨[], by simp, fun _ ha => nomatch ha⟩, fun a o' e _ _ => ⟨o', Heap.get?_push_of_some _ e, .refl _⟩, fun _ h => h.elim⟩, fun _ h => h.elim⟩
  refine ⟨g, ⟨I.len, I.nodup, fun i a ao h1 h2 => ?_, fun a o' e => Heap.get?_push_of_some _ (I.base a o' e), I.fresh⟩, _, tk, rfl⟩
  have := I.obj i a ao h1 h2
  cases ao with
  | list l =>
    obtain ⟨items, ⟨m, hob⟩, hv⟩ := this
    exact ⟨items, ⟨m, Heap.get?_push_of_some _ hob⟩, hv.mono g⟩
  | dict l => exact this.elim
  | attrs l => exact this.elim
theorem Inv.new_notin (I : Inv C β s.heap H) : s.heap.objs.size ∉ β := fun hm => by
  obtain ⟨o, ho⟩ := I.live _ hm
  exact Nat.lt_irrefl _ (Heap.lt_size ho)

theorem SE.cstNone {k : Nat} {pos : Pos} : SE C n S (.Constant .none k pos) (dCst .none) := by
  intro A env σ H β s Q E P hp
  exact wpAny_Constant_none (hp.ok_here P.inv .none)
theorem SE.cstBool {k : Nat} {pos : Pos} {b : Bool} : SE C n S (.Constant (.bool b) k pos) (dCst (.bool b)) := by
  intro A env σ H β s Q E P hp
  exact wpAny_Constant_bool (hp.ok_here P.inv (.bool b))
theorem SE.cstInt {k : Nat} {pos : Pos} {i : Int} : SE C n S (.Constant (.int i) k pos) (dCst (.int i)) := by
  intro A env σ H β s Q E P hp
  exact wpAny_Constant_int (hp _ _ _ (P.inv.toks _) (.int i _))
theorem SE.cstStr {k : Nat} {pos : Pos} {x : Str} : SE C n S (.Constant (.str x) k pos) (dCst (.str x)) := by
  intro A env σ H β s Q E P hp
  exact wpAny_Constant_str (hp _ _ _ (P.inv.toks _) (.str x _))

theorem SE.loc {x : Str} {pos : Pos} {i : Nat} (hx : S.Γ.lookup x = some i) (hd : (x == ("__debug__" : Str)) = false := by decide) (hn : (x == ("__classdict__" : Str)) = false := by decide) : SE C n S (.Name x pos) (dLoc i) := by
  intro A env σ H β s Q E P hp
  refine wpAny_Name ?_ hd
  obtain ⟨m, hm, hv⟩ := P.env.vars
  unfold dLoc at hp
  cases hσ : σ i with
  | none => rw [hσ] at hp; exact hp.elim
  | some d =>
    rw [hσ] at hp
    rcases hv x i hx with ⟨hk, r⟩ | ⟨hk, c, v, hc, hcell, r⟩
    · rw [hσ] at r
      obtain ⟨w, hw, hr⟩ := r
      exact wpAny_loadName_local P.env.kind hk hm hw (hp.ok_here P.inv hr)
    · rw [hσ] at r
      obtain ⟨w, rfl, hr⟩ := r
      rcases hk with hk | hk
      · exact wpAny_loadName_cell P.env.kind hk hc hcell (hp.ok_here P.inv hr)
      · exact wpAny_loadName_free P.env.kind hk hc hcell (hp.ok_here P.inv hr) hn

theorem SE.glb {mg mb : Str → Option Value} (B : Base C mg mb) {x : Str} {pos : Pos} {v : Value} {d : AV} (hx : x ∈ S.G) (hv : mg x = some v) (hr : ∀ β h, VR C β h v d) (hd : (x == ("__debug__" : Str)) = false := by decide) : SE C n S (.Name x pos) (dCst d) := by
  intro A env σ H β s Q E P hp
  refine Name_function_global P.env.kind (P.env.glo x hx) (loadGlobal_global (mg := mg) ?_ hv (hp.ok_here P.inv (hr _ _))) hd
  rw [P.env.globals]; exact B.g.keeps P.inv.base
theorem SE.blt {mg mb : Str → Option Value} (B : Base C mg mb) {x : Str} {pos : Pos} {b : BI} (hx : x ∈ S.G) (hg : mg x = none) (hv : mb x = some b.val) (hd : (x == ("__debug__" : Str)) = false := by decide) : SE C n S (.Name x pos) (dCst (.bi b)) := by
  intro A env σ H β s Q E P hp
  refine Name_function_global P.env.kind (P.env.glo x hx) (loadGlobal_builtin (mg := mg) (mb := mb) ?_ hg ?_ hv (hp.ok_here P.inv (.bi b rfl))) hd
  · rw [P.env.globals]; exact B.g.keeps P.inv.base
  · rw [P.env.builtins]; exact B.b.keeps P.inv.base

theorem SEs.nil : SEs C n S [] [] := by
  intro A env σ H β s Q E pos P hp
  exact wpAny_items_nil (hp.ok_here P.inv .nil)
theorem SEs.cons {e : Expr} {es : List Expr} {d : DE} {ds : List DE} (h : SE C n S e d) (r : SEs C n S es ds) (he : ∀ env, starEach (e :: es) env = (false, eval e env) :: starEach es env := by intro _; rfl) : SEs C n S (e :: es) (d :: ds) := by
  intro A env σ H β s Q E pos P hp
  refine wpAny_items_cons (wpAny_mono (h A env σ H β s _ E P (Pst.bind hp)) ?_ fun _ _ e => e) (he env)
  rintro x s₁ ⟨v, H₁, β₁, _, a₁, vx, hp₁⟩
  refine wpAny_mono (r A env σ H₁ β₁ s₁ _ E pos (P.after a₁) (Pst.bind hp₁)) ?_ fun _ _ e => e
  rintro xs s₂ ⟨vs, H₂, β₂, _, a₂, vxs, hp₂⟩
  exact hp₂.ok_here a₂.inv (.cons (vx.mono a₂.grow) vxs)

theorem dEach_length : ∀ {ds : List DE} {σ : Loc} {H H' : AH} {vs : List AV}, dEach ds σ H = .ok vs H' → vs.length = ds.length
  | [], σ, H, H', vs, h => by simp only [dEach] at h; cases h; rfl
  | d :: r, σ, H, H', vs, h => by
    simp only [dEach] at h
    cases h1 : d σ H with
    | ok v H₁ =>
      rw [h1, Rs.bind_ok] at h
      cases h2 : dEach r σ H₁ with
      | ok ws H₂ =>
        rw [h2, Rs.bind_ok] at h
        cases h
        rw [List.length_cons, List.length_cons, dEach_length h2]
      | err _ _ => rw [h2] at h; cases h
      | bad => rw [h2] at h; cases h
    | err _ _ => rw [h1] at h; cases h
    | bad => rw [h1] at h; cases h

theorem SE.tup {es : List Expr} {ds : List DE} {k : Nat} {pos : Pos} (h : SEs C n S es ds) (hl : ds.length ≤ 1048576 := by exact Nat.le_of_ble_eq_true rfl) : SE C n S (.Tuple es k pos) (dTup ds) := by
  intro A env σ H β s Q E P hp
  refine wpAny_Tuple (wpAny_mono (h A env σ H β s _ E pos P (Pst.bind hp)) ?_ fun _ _ e => e)
  rintro xs s₁ ⟨vs, H₁, β₁, he, a₁, vxs, hp₁⟩
  have hlen : xs.length ≤ 1048576 := by rw [vxs.length, dEach_length he]; exact hl
  refine ⟨Nat.le_trans hlen (by decide), ?_⟩
  have a₂ := a₁.inv.push (s := s₁) { cls := .type "tuple", data := .seq xs.toArray } s₁.toks
  exact hp₁ _ _ _ a₂ (.tup (items := xs.toArray) ⟨_, Heap.get?_push_size _ rfl, rfl, _, rfl⟩ a₁.inv.new_notin (by simpa using vxs.mono a₂.grow))
theorem SE.lst {es : List Expr} {ds : List DE} {pos : Pos} (h : SEs C n S es ds) (hl : ds.length ≤ 1048576 := by exact Nat.le_of_ble_eq_true rfl) : SE C n S (.List es pos) (dLst ds) := by
  intro A env σ H β s Q E P hp
  refine wpAny_List (wpAny_mono (h A env σ H β s _ E pos P (Pst.bind hp)) ?_ fun _ _ e => e)
  rintro xs s₁ ⟨vs, H₁, β₁, he, a₁, vxs, hp₁⟩
  have hlen : xs.length ≤ 1048576 := by rw [vxs.length, dEach_length he]; exact hl
  refine ⟨Nat.le_trans hlen (by decide), ?_⟩
  have a₂ := a₁.inv.push (s := s₁) { cls := .type "list", data := .seq xs.toArray } s₁.toks
  exact hp₁ _ _ _ a₂ (.lst (items := xs.toArray) ⟨_, Heap.get?_push_size _ rfl, rfl, _, rfl⟩ a₁.inv.new_notin (by simpa using vxs.mono a₂.grow))

/-- an object of its own is laid -/
theorem Inv.alloc (I : Inv C β s.heap H) {o : Obj} {ao : AO} (tk : Nat) (hf : o.isFreed = false) (ho : ∀ β' h', Grow Nix β s.heap β' h' → h'.get? s.heap.objs.size = some o → OR C β' h' s.heap.objs.size ao) :
    After C Nix β s (β ++ [s.heap.objs.size]) { s with heap := s.heap.push o, toks := tk } (H ++ [ao]) := by
  have hnone : s.heap.get? s.heap.objs.size = none := by
    cases q : s.heap.get? s.heap.objs.size with
    | none => rfl
    | some o' => exact absurd (Heap.lt_size q) (Nat.lt_irrefl _)
  have g : Grow Nix β s.heap (β ++ [s.heap.objs.size]) (s.heap.push o) := ⟨⟨⟨[s.heap.objs.size], rfl, fun a ha => by rw [List.mem_singleton.mp ha]; exact hnone⟩, fun a o' e _ _ => ⟨o', Heap.get?_push_of_some _ e, .refl _⟩, fun _ h => h.elim⟩, fun _ h => h.elim⟩
  refine ⟨g, ⟨by simp [I.len], ?_, fun i a x h1 h2 => ?_, fun a o' e => Heap.get?_push_of_some _ (I.base a o' e), ?_⟩, _, tk, rfl⟩
  · refine List.nodup_append.mpr ⟨I.nodup, by simp, fun a ha b hb => ?_⟩
    rw [List.mem_singleton.mp hb]; rintro rfl; exact I.new_notin ha
  · by_cases hi : i < β.length
    · rw [List.getElem?_append_left hi] at h1
      rw [List.getElem?_append_left (I.len ▸ hi)] at h2
      have := I.obj i a x h1 h2
      cases x with
      | list l =>
        obtain ⟨items, ⟨m, hob⟩, hv⟩ := this
        exact ⟨items, ⟨m, Heap.get?_push_of_some _ hob⟩, hv.mono g⟩
      | dict l => exact this.elim
      | attrs l => exact this.elim
    · have hlen : i < (β ++ [s.heap.objs.size]).length := (List.getElem?_eq_some_iff.mp h1).1
      have hi' : i = β.length := by simp at hlen; omega
      subst hi'
      rw [List.getElem?_append_right (Nat.le_refl _)] at h1
      rw [List.getElem?_append_right (by rw [I.len]; exact Nat.le_refl _), ← I.len] at h2
      simp at h1 h2
      subst h1 h2
      exact ho _ _ g (Heap.get?_push_size _ hf)
  · intro a ha
    rcases List.mem_append.mp ha with h1 | h1
    · exact I.fresh a h1
    · rw [List.mem_singleton.mp h1]
      cases q : C.base.get? s.heap.objs.size with
      | none => rfl
      | some o' => rw [I.base _ _ q] at hnone; cases hnone
theorem SE.newL {es : List Expr} {ds : List DE} {pos : Pos} (h : SEs C n S es ds) (hl : ds.length ≤ 1048576 := by exact Nat.le_of_ble_eq_true rfl) : SE C n S (.List es pos) (dNewL ds) := by
  intro A env σ H β s Q E P hp
  refine wpAny_List (wpAny_mono (h A env σ H β s _ E pos P (Pst.bind hp)) ?_ fun _ _ e => e)
  rintro xs s₁ ⟨vs, H₁, β₁, he, a₁, vxs, hp₁⟩
  have hlen : xs.length ≤ 1048576 := by rw [vxs.length, dEach_length he]; exact hl
  refine ⟨Nat.le_trans hlen (by decide), ?_⟩
  have a₂ := a₁.inv.alloc (s := s₁) (o := { cls := .type "list", data := .seq xs.toArray }) (ao := .list vs) s₁.toks rfl
    (fun β' h' g hg => ⟨xs.toArray, ⟨_, hg⟩, by simpa using vxs.mono g⟩)
  refine hp₁ _ _ _ a₂ (.ref ?_)
  rw [← a₁.inv.len]; simp

section values
variable {x y : Value} {v u : AV}

theorem VR.int_inv {β : List Addr} {h : Heap} {x : Value} {i : Int} (r : VR C β h x (.int i)) : ∃ t, x = .int i t := by cases r; exact ⟨_, rfl⟩
theorem Heap.IsTuple.typeIs' {s : Shared} {a : Addr} {items : Array Value} (h : s.heap.IsTuple a items) : s.TypeIs (.ref a) "tuple" := let ⟨o, ho, hc, _⟩ := h; ⟨o, ho, hc⟩

/-- a list told by a value: as it lies, or one of its own -/
theorem list_at (I : Inv C β s.heap H) {x : Value} : ∀ {v : AV} {l : List AV}, VR C β s.heap x v → listOf? H v = some l → ∃ a items, x = .ref a ∧ s.heap.IsList a items ∧ VRs C β s.heap items.toList l := by
  intro v l r h
  cases r with
  | lst hl _ hv => cases h; exact ⟨_, _, rfl, hl, hv⟩
  | @ref a i hb =>
    simp only [listOf?] at h
    split at h
    · rename_i l' hi
      cases h
      obtain ⟨items, hl, hv⟩ := I.obj i a _ hb hi
      exact ⟨_, items, rfl, hl.isList, hv⟩
    · cases h
  | _ => cases h

theorem listAdd (I : Inv C β s.heap H) {a b : Addr} {xs ys : Array Value} {l k : List AV} (hx : s.heap.IsList a xs) (hy : s.heap.IsList b ys) (vx : VRs C β s.heap xs.toList l) (vy : VRs C β s.heap ys.toList k)
    (hl : l.length + k.length ≤ 1048576) (hp : Pst C Nix (VR C) β s (.ok (.lst (l ++ k)) H) Q E) : wpAny (model C.prog C.w) A (binaryOp .Add (.ref a) (.ref b)) Q E s := by
  obtain ⟨⟨cls, dd, data, sl⟩, ho, hc, n, hd⟩ := id hx
  obtain ⟨⟨cls2, dd2, data2, sl2⟩, ho2, hc2, n2, hd2⟩ := id hy
  simp only at hc hd hc2 hd2
  subst hc hd hc2 hd2
  have hsz : xs.size + ys.size ≤ sizeLine := by
    have h1 := vx.length; have h2 := vy.length
    simp only [Array.length_toList] at h1 h2
    rw [h1, h2]; exact Nat.le_trans hl (by decide)
  refine concat_meets ⟨_, ho, rfl⟩ ⟨_, ho2, rfl⟩ noFill_list_add seq_list_add PySem.F.slot_list_add PySem.F.entry_list_add (PySem.F.args_list_add_2 _ _) (list_addW a b xs ys n n2 dd dd2 sl sl2 hsz) ⟨ho, ho2, ?_⟩
  have a₂ := I.push (s := s) { cls := .type "list", data := .seq (xs ++ ys) } s.toks
  exact hp _ _ _ a₂ (.lst (items := xs ++ ys) ⟨_, Heap.get?_push_size _ rfl, rfl, _, rfl⟩ I.new_notin (by simpa using (vx.append vy).mono a₂.grow))
end values
end
end Mine

namespace Mine
open PySem PyProof.Rows PySem.Calls PySem.SeqAt

section
variable {C : Cx} {n : Nat} {S : Sco} {β : List Addr} {s : Shared} {H : AH} {A : Around} {Q : Value → Shared → Prop} {E : Value → Shared → Prop}

theorem Stk.seer {mg mb : Str → Option Value} (K : Stk C A β s.heap) (ne : A.frames ≠ some []) (B : Base C mg mb) (I : Inv C β s.heap H) : SeerAt (model C.prog C.w) A s.heap := by
  obtain ⟨l, hl, k⟩ := K
  cases l with
  | nil => exact absurd hl ne
  | cons e o =>
    have f := k e List.mem_cons_self
    exact SeerAt.of (B.seer.keeps I.base) B.tree hl f.gen f.co f.builtins f.globals

theorem tupleAdd (I : Inv C β s.heap H) {a b : Addr} {xs ys : Array Value} {l k : List AV} (hx : s.heap.IsTuple a xs) (hy : s.heap.IsTuple b ys) (ha : a ∉ β) (hb : b ∉ β) (vx : VRs C β s.heap xs.toList l) (vy : VRs C β s.heap ys.toList k)
    (hl : l.length + k.length ≤ 1048576) (hp : Pst C Nix (VR C) β s (.ok (.tup (l ++ k)) H) Q E) : wpAny (model C.prog C.w) A (binaryOp .Add (.ref a) (.ref b)) Q E s := by
  obtain ⟨⟨cls, dd, data, sl⟩, ho, hc, n, hd⟩ := id hx
  obtain ⟨⟨cls2, dd2, data2, sl2⟩, ho2, hc2, n2, hd2⟩ := id hy
  simp only at hc hd hc2 hd2
  subst hc hd hc2 hd2
  have h1 := vx.length
  have h2 := vy.length
  simp only [Array.length_toList] at h1 h2
  have hsz : xs.size + ys.size ≤ sizeLine := by rw [h1, h2]; exact Nat.le_trans hl (by decide)
  by_cases e1 : xs.isEmpty = true
  · have : l = [] := List.eq_nil_of_length_eq_zero (by rw [← h1]; simpa using e1)
    subst this
    refine concat_meets ⟨_, ho, rfl⟩ ⟨_, ho2, rfl⟩ noFill_tuple_add seq_tuple_add PySem.F.slot_tuple_add PySem.F.entry_tuple_add (PySem.F.args_tuple_add_2 _ _) (tuple_addW0 a b xs ys n n2 dd dd2 sl sl2 e1) ⟨ho, ho2, ?_⟩
    exact hp _ s β (.refl I) (.tup hy hb vy)
  · by_cases e2 : ys.isEmpty = true
    · have : k = [] := List.eq_nil_of_length_eq_zero (by rw [← h2]; simpa using e2)
      subst this
      rw [List.append_nil] at hp
      refine concat_meets ⟨_, ho, rfl⟩ ⟨_, ho2, rfl⟩ noFill_tuple_add seq_tuple_add PySem.F.slot_tuple_add PySem.F.entry_tuple_add (PySem.F.args_tuple_add_2 _ _) (tuple_addW1 a b xs ys n n2 dd dd2 sl sl2 e1 e2) ⟨ho, ho2, ?_⟩
      exact hp _ s β (.refl I) (.tup hx ha vx)
    · refine concat_meets ⟨_, ho, rfl⟩ ⟨_, ho2, rfl⟩ noFill_tuple_add seq_tuple_add PySem.F.slot_tuple_add PySem.F.entry_tuple_add (PySem.F.args_tuple_add_2 _ _) (tuple_addW2 a b xs ys n n2 dd dd2 sl sl2 e1 e2 hsz) ⟨ho, ho2, ?_⟩
      have a₂ := I.push (s := s) { cls := .type "tuple", data := .seq (xs ++ ys) } s.toks
      exact hp _ _ _ a₂ (.tup (items := xs ++ ys) ⟨_, Heap.get?_push_size _ rfl, rfl, _, rfl⟩ I.new_notin (by simpa using (vx.append vy).mono a₂.grow))

noncomputable def BOp.op : BOp → Operator
  | .add => .Add | .sub => .Sub | .mul => .Mult | .fdiv => .FloorDiv | .mod => .Mod | .pow => .Pow

theorem bits_small {b : Int} (h : b.natAbs < 2 ^ 60) : Builtin.Int.intBits b ≤ 64 := by
  unfold Builtin.Int.intBits
  split
  · decide
  · have h0 : b.natAbs ≠ 0 := by intro e; simp_all
    have := (Nat.log2_lt h0).mpr h
    omega

theorem intOp_some {f : Int → Int → Option AV} {x y : Value} {v u : AV} (vx : VR C β s.heap x v) (vy : VR C β s.heap y u) {r : AV} (h : intOp f v u = some r) : ∃ i t j t', x = .int i t ∧ y = .int j t' ∧ f i j = some r := by
  cases v <;> first | cases h | (cases u <;> first | cases h | skip)
  obtain ⟨t, rfl⟩ := vx.int_inv
  obtain ⟨t', rfl⟩ := vy.int_inv
  exact ⟨_, t, _, t', rfl, rfl, h⟩
theorem pst_some {r : Option AV} (hp : Pst C Nix (VR C) β s (toR H r) Q E) : ∃ v, r = some v ∧ Pst C Nix (VR C) β s (.ok v H) Q E := by
  cases r with
  | none => exact hp.elim
  | some v => exact ⟨v, rfl, hp⟩
theorem addOp_some {v u r : AV} (h : addOp H v u = some r) : (∃ i j, v = .int i ∧ u = .int j ∧ r = .int (i + j)) ∨ (∃ l k, v = .tup l ∧ u = .tup k ∧ l.length + k.length ≤ 1048576 ∧ r = .tup (l ++ k)) ∨
    (∃ l k, listOf? H v = some l ∧ listOf? H u = some k ∧ l.length + k.length ≤ 1048576 ∧ r = .lst (l ++ k)) := by
  unfold addOp at h
  split at h
  · cases h; exact .inl ⟨_, _, rfl, rfl, rfl⟩
  · split at h
    · rename_i hl; cases h; exact .inr (.inl ⟨_, _, rfl, rfl, hl, rfl⟩)
    · cases h
  · unfold addL at h
    split at h
    · rename_i l k h1 h2
      split at h
      · rename_i hl; cases h; exact .inr (.inr ⟨l, k, h1, h2, hl, rfl⟩)
      · cases h
    · cases h

theorem binop_ok {mg mb : Str → Option Value} (B : Base C mg mb) (I : Inv C β s.heap H) (R : Room n A) (K : Stk C A β s.heap) (ne : A.frames ≠ some []) {op : BOp} {x y : Value} {v u : AV} (vx : VR C β s.heap x v) (vy : VR C β s.heap y u)
    (hp : Pst C Nix (VR C) β s (toR H (binop H op v u)) Q E) : wpAny (model C.prog C.w) A (binaryOp op.op x y) Q E s := by
  obtain ⟨r, hr, hp⟩ := pst_some hp
  cases op with
  | add =>
    rcases addOp_some hr with ⟨i, j, rfl, rfl, rfl⟩ | ⟨l, k, rfl, rfl, hl, rfl⟩ | ⟨l, k, h1, h2, hl, rfl⟩
    · obtain ⟨t, rfl⟩ := vx.int_inv
      obtain ⟨t', rfl⟩ := vy.int_inv
      exact add_int (hp _ _ _ (I.toks _) (.int _ _))
    · cases vx with
      | tup hx ha hvx => cases vy with
        | tup hy hb hvy => exact tupleAdd I hx hy ha hb hvx hvy hl hp
    · obtain ⟨a, xs, rfl, hx, hvx⟩ := list_at I vx h1
      obtain ⟨b, ys, rfl, hy, hvy⟩ := list_at I vy h2
      exact listAdd I hx hy hvx hvy hl hp
  | sub =>
    obtain ⟨i, t, j, t', rfl, rfl, e⟩ := intOp_some vx vy hr
    cases e
    exact sub_int' (hp _ _ _ (I.toks _) (.int _ _))
  | mul =>
    obtain ⟨i, t, j, t', rfl, rfl, e⟩ := intOp_some vx vy hr
    split at e
    · rename_i hl
      cases e
      exact P.mul_int (hp _ _ _ (I.toks _) (.int _ _)) (hl.elim (fun h => .of_right (bits_small h)) fun h => .of_left (bits_small h))
    · cases e
  | fdiv =>
    obtain ⟨i, t, j, t', rfl, rfl, e⟩ := intOp_some vx vy hr
    split at e
    · cases e
    · rename_i hl
      cases e
      exact floordiv_int hl (hp _ _ _ (I.toks _) (.int _ _)) (.inr (PylongRoom.of (B.nolimit.keeps I.base) (by have := R.depth; unfold Builtin.pylongFrames; omega) (K.seer ne B I)))
  | mod =>
    obtain ⟨i, t, j, t', rfl, rfl, e⟩ := intOp_some vx vy hr
    split at e
    · cases e
    · rename_i hl
      cases e
      exact mod_int' hl (hp _ _ _ (I.toks _) (.int _ _))
  | pow =>
    obtain ⟨i, t, j, t', rfl, rfl, e⟩ := intOp_some vx vy hr
    split at e
    · rename_i hl
      cases e
      exact pow_int_small hl.1 (by omega) (by have := hl.2.2; omega) (hp _ _ _ (I.toks _) (.int _ _))
    · cases e
end
end Mine

namespace Mine
open PySem PyProof.Rows PySem.Calls PySem.SeqAt

section
variable {C : Cx} {n : Nat} {S : Sco} {β : List Addr} {s : Shared} {H : AH} {A : Around} {Q : Value → Shared → Prop} {E : Value → Shared → Prop}

theorem mapM_cons_some {α γ : Type} {f : α → Option γ} {x : α} {l : List α} {ys : List γ} (h : (x :: l).mapM f = some ys) : ∃ y r, f x = some y ∧ l.mapM f = some r ∧ ys = y :: r := by
  rw [List.mapM_cons] at h
  cases hx : f x with
  | none => rw [hx] at h; cases h
  | some y =>
    rw [hx] at h
    cases hl : l.mapM f with
    | none => rw [hl] at h; cases h
    | some r => rw [hl] at h; cases h; exact ⟨y, r, rfl, rfl, rfl⟩

theorem reads_all {h : Heap} {k : Nat} (ih : ∀ {v : Value} {d : AV} {x : PyData}, VR C β h v d → data H k d = some x → ∃ as, Reads h v x as) :
    ∀ {vs : List Value} {l : List AV} {xs : List PyData}, VRs C β h vs l → l.mapM (data H k) = some xs → ∃ as, ReadsAll h vs xs as
  | _, _, _, .nil, e => by cases e; exact ⟨[], .nil⟩
  | _, _, _, .cons a r, e => by
    obtain ⟨y, ys, h1, h2, rfl⟩ := mapM_cons_some e
    obtain ⟨as, ha⟩ := ih a h1
    obtain ⟨bs, hb⟩ := reads_all ih r h2
    exact ⟨as ++ bs, .cons ha hb⟩

theorem VR.reads {h : Heap} (I : Inv C β h H) : ∀ (k : Nat) {v : Value} {d : AV} {x : PyData}, VR C β h v d → data H k d = some x → ∃ as, Reads h v x as
  | 0, _, _, _, _, e => by cases e
  | k + 1, v, d, x, r, e => by
    have ih := fun {v : Value} {d : AV} {x : PyData} => VR.reads (v := v) (d := d) (x := x) I k
    cases r with
    | none => cases e; exact ⟨_, .none⟩
    | bool b => cases e; exact ⟨_, .bool b⟩
    | int i t => cases e; exact ⟨_, .int i t⟩
    | str y t => cases e; exact ⟨_, .str y t⟩
    | tup ht _ hv =>
      simp only [data] at e
      obtain ⟨xs, h1, rfl⟩ := Option.map_eq_some_iff.mp e
      obtain ⟨as, ha⟩ := reads_all (H := H) ih hv h1
      obtain ⟨o, ho, hc, n, hd⟩ := ht
      exact ⟨as, .tuple ho hc hd ha⟩
    | lst ht _ hv =>
      simp only [data] at e
      obtain ⟨xs, h1, rfl⟩ := Option.map_eq_some_iff.mp e
      obtain ⟨as, ha⟩ := reads_all (H := H) ih hv h1
      obtain ⟨o, ho, hc, n, hd⟩ := ht
      exact ⟨_, .list ho hc hd ha⟩
    | @ref a i hb =>
      simp only [data] at e
      cases q : H[i]? with
      | none => rw [q] at e; cases e
      | some o => cases o with
        | list l =>
          rw [q] at e
          obtain ⟨items, hpl, hv⟩ := I.obj i a _ hb q
          obtain ⟨o, ho, hc, n, hd⟩ := hpl.isList
          obtain ⟨xs, h1, rfl⟩ := Option.map_eq_some_iff.mp e
          obtain ⟨as, ha⟩ := reads_all (H := H) ih hv h1
          exact ⟨_, .list ho hc hd ha⟩
        | dict l => rw [q] at e; cases e
        | attrs l => rw [q] at e; cases e
    | rng _ _ => cases e
    | fn k => cases e
    | cls k => cases e
    | bi b _ => cases e

theorem eqD_some {a b : AV} {c : Bool} (h : eqD H a b = some c) : ∃ x y, data H 12 a = some x ∧ data H 12 b = some y ∧ shaped x = true ∧ shaped y = true ∧ c = PyData.eqv x y := by
  unfold eqD at h
  split at h
  · rename_i x y hx hy
    split at h
    · rename_i hs
      simp only [Bool.and_eq_true] at hs
      exact ⟨x, y, hx, hy, hs.1, hs.2, (Option.some.inj h).symm⟩
    · cases h
  · cases h

open Classical in
noncomputable def rd (h : Heap) (y : Value) : PyData := if q : ∃ d, (∃ as, Reads h y d as) ∧ shaped d = true then choose q else .none
theorem rd_is {h : Heap} {y : Value} {d : PyData} {as : List Addr} (r : Reads h y d as) (hs : shaped d = true) : rd h y = d := by
  have q : ∃ d, (∃ as, Reads h y d as) ∧ shaped d = true := ⟨d, ⟨as, r⟩, hs⟩
  unfold rd
  rw [dif_pos q]
  obtain ⟨⟨bs, hb⟩, hs'⟩ := Classical.choose_spec q
  exact Reads.unique _ _ _ _ _ (canLay_of_shaped hs') hb r

theorem anyEq_some (I : Inv C β s.heap H) (R : Room n A) {x : Value} {d : AV} (vx : VR C β s.heap x d) : ∀ {vs : List Value} {l : List AV} {b : Bool}, VRs C β s.heap vs l → anyEq H d l = some b →
    vs.any (fun y => PyData.eqv (rd s.heap y) (rd s.heap x)) = b ∧ ∀ y ∈ vs, EqAt A.in1 s y x (PyData.eqv (rd s.heap y) (rd s.heap x))
  | _, _, _, .nil, e => by cases e; exact ⟨rfl, fun _ hy => nomatch hy⟩
  | _, _, b, @VRs.cons _ _ _ v vs u us a r, e => by
    simp only [anyEq] at e
    cases h1 : eqD H u d with
    | none => rw [h1] at e; cases e
    | some c => cases h2 : anyEq H d us with
      | none => rw [h1, h2] at e; cases e
      | some c' =>
        rw [h1, h2] at e
        cases e
        obtain ⟨dx, dy, e1, e2, s1, s2, rfl⟩ := eqD_some h1
        obtain ⟨as, ra⟩ := a.reads I 12 e1
        obtain ⟨bs, rb⟩ := vx.reads I 12 e2
        obtain ⟨h3, h4⟩ := anyEq_some I R vx r h2
        refine ⟨by rw [List.any_cons, h3, rd_is ra s1, rd_is rb s2], fun y hy => ?_⟩
        rcases List.mem_cons.mp hy with rfl | hy
        · rw [rd_is ra s1, rd_is rb s2]
          refine eqAt_reads _ _ _ _ _ _ _ _ ra rb (canLay_of_shaped s1) (canLay_of_shaped s2) (room_of_shaped s1 ?_)
          have := R.units
          show A.units + 1 + 64 < cLine; omega
        · exact h4 y hy

noncomputable def COp.op : COp → CmpOp
  | .eq => .Eq | .ne => .NotEq | .lt => .Lt | .le => .LtE | .gt => .Gt | .ge => .GtE | .is => .Is | .isNot => .IsNot | .isIn => .In | .notIn => .NotIn

theorem isOp_some {h : Heap} {x y : Value} {v u : AV} {c : Bool} (vx : VR C β h x v) (vy : VR C β h y u) (e : isOp v u = some c) : y = .none ∧ plainIs x .none = true ∧ ((c = true ∧ x = .none) ∨ (c = false ∧ x ≠ .none)) := by
  have hu : u = .none := by
    unfold isOp at e
    split at e
    · cases e
    · rfl
    · rfl
    · cases e
  subst hu
  have hy : y = .none := by
    cases vy; rfl
  refine ⟨hy, ?_⟩
  cases vx with
  | none => cases e; exact ⟨rfl, .inl ⟨rfl, rfl⟩⟩
  | bi _ _ => cases e
  | _ => cases e; exact ⟨rfl, .inr ⟨rfl, by intro q; cases q⟩⟩
theorem cmpI_some {f : Int → Int → Bool} {x y : Value} {v u : AV} (vx : VR C β s.heap x v) (vy : VR C β s.heap y u) {r : Bool} (h : cmpI f v u = some r) : ∃ i t j t', x = .int i t ∧ y = .int j t' ∧ f i j = r := by
  cases v <;> first | cases h | (cases u <;> first | (cases h; done) | skip)
  obtain ⟨t, rfl⟩ := vx.int_inv
  obtain ⟨t', rfl⟩ := vy.int_inv
  exact ⟨_, t, _, t', rfl, rfl, Option.some.inj h⟩
theorem inOp_some (I : Inv C β s.heap H) (R : Room n A) {x y : Value} {v u : AV} {c : Bool} (vx : VR C β s.heap x v) (vy : VR C β s.heap y u) (h : inOp H v u = some c) :
    ∃ a items, y = .ref a ∧ (s.heap.IsTuple a items ∨ s.heap.IsList a items) ∧ items.any (fun z => PyData.eqv (rd s.heap z) (rd s.heap x)) = c ∧ ∀ z ∈ items, EqAt A.in1 s z x (PyData.eqv (rd s.heap z) (rd s.heap x)) := by
  unfold inOp at h
  split at h
  · cases vy with
    | tup ht _ hv =>
      obtain ⟨q1, q2⟩ := anyEq_some I R vx hv h
      exact ⟨_, _, rfl, .inl ht, by rw [← Array.any_toList]; exact q1, fun z hz => q2 z (by simpa using hz)⟩
  · split at h
    · rename_i l hl
      obtain ⟨a, items, rfl, hl, hv⟩ := list_at I vy hl
      obtain ⟨q1, q2⟩ := anyEq_some I R vx hv h
      exact ⟨a, items, rfl, .inr hl, by rw [← Array.any_toList]; exact q1, fun z hz => q2 z (by simpa using hz)⟩
    · cases h

theorem cmpop_ok (I : Inv C β s.heap H) (R : Room n A) {op : COp} {x y : Value} {v u : AV} {c : Bool} (vx : VR C β s.heap x v) (vy : VR C β s.heap y u) (h : cmpop H op v u = some c)
    (hp : Q (.bool c) s) : wpAny (model C.prog C.w) A (compareOp op.op x y) Q E s := by
  have hu : A.units + 64 < cLine := by have := R.units; omega
  cases op with
  | eq =>
    obtain ⟨dx, dy, e1, e2, s1, s2, rfl⟩ := eqD_some h
    obtain ⟨as, ra⟩ := vx.reads I 12 e1
    obtain ⟨bs, rb⟩ := vy.reads I 12 e2
    exact compareEq_shaped ra rb s1 s2 hu hp
  | ne =>
    obtain ⟨b, hb, rfl⟩ := Option.map_eq_some_iff.mp h
    obtain ⟨dx, dy, e1, e2, s1, s2, rfl⟩ := eqD_some hb
    obtain ⟨as, ra⟩ := vx.reads I 12 e1
    obtain ⟨bs, rb⟩ := vy.reads I 12 e2
    exact compareNe_shaped ra rb s1 s2 hu hp
  | lt => obtain ⟨i, t, j, t', rfl, rfl, rfl⟩ := cmpI_some vx vy h; exact P.lt_int hp
  | le => obtain ⟨i, t, j, t', rfl, rfl, rfl⟩ := cmpI_some vx vy h; exact P.le_int hp
  | gt => obtain ⟨i, t, j, t', rfl, rfl, rfl⟩ := cmpI_some vx vy h; exact P.gt_int hp
  | ge => obtain ⟨i, t, j, t', rfl, rfl, rfl⟩ := cmpI_some vx vy h; exact P.ge_int hp
  | is =>
    obtain ⟨rfl, h1, ⟨rfl, rfl⟩ | ⟨rfl, h3⟩⟩ := isOp_some vx vy h
    · exact wpAny_is_self h1 hp
    · exact wpAny_is_other h1 h3 hp
  | isNot =>
    obtain ⟨b, hb, rfl⟩ := Option.map_eq_some_iff.mp h
    obtain ⟨rfl, h1, ⟨rfl, rfl⟩ | ⟨rfl, h3⟩⟩ := isOp_some vx vy hb
    · exact wpAny_isNot_self h1 hp
    · exact wpAny_isNot_other h1 h3 hp
  | isIn =>
    obtain ⟨a, items, rfl, ht | hl, q1, q2⟩ := inOp_some I R vx vy h
    · exact in_tupleAt _ ht q2 (by rw [q1]; exact hp)
    · exact in_listAt _ hl q2 (by rw [q1]; exact hp)
  | notIn =>
    obtain ⟨b, hb, rfl⟩ := Option.map_eq_some_iff.mp h
    obtain ⟨a, items, rfl, ht | hl, q1, q2⟩ := inOp_some I R vx vy hb
    · exact notIn_tupleAt _ ht q2 (by rw [q1]; exact hp)
    · exact notIn_listAt _ hl q2 (by rw [q1]; exact hp)
end
end Mine

namespace Mine
open PySem PyProof.Rows PySem.Calls PySem.SeqAt

section
variable {C : Cx} {n : Nat} {S : Sco} {β : List Addr} {s : Shared} {H : AH} {A : Around} {Q : Value → Shared → Prop} {E : Value → Shared → Prop} {mg mb : Str → Option Value}

theorem SE.bin (B : Base C mg mb) {op : BOp} {o : Operator} {l r : Expr} {pos : Pos} {a b : DE} (hl : SE C n S l a) (hr : SE C n S r b) (ho : op.op = o := by rfl) : SE C n S (.BinOp l o r pos) (dBin op a b) := by
  subst ho
  intro A env σ H β s Q E P hp
  refine wpAny_BinOp (wpAny_mono (hl A env σ H β s _ E P (Pst.bind hp)) ?_ fun _ _ e => e)
  rintro x s₁ ⟨v, H₁, β₁, _, a₁, vx, hp₁⟩
  refine wpAny_mono (hr A env σ H₁ β₁ s₁ _ E (P.after a₁) (Pst.bind hp₁)) ?_ fun _ _ e => e
  rintro y s₂ ⟨u, H₂, β₂, _, a₂, vy, hp₂⟩
  exact binop_ok B a₂.inv P.room (((P.after a₁).after a₂).stk) P.ne (vx.mono a₂.grow) vy hp₂

theorem pst_bool {r : Option Bool} (I : Inv C β s.heap H) (hp : Pst C Nix (VR C) β s (toR H (r.map .bool)) Q E) : ∃ b, r = some b ∧ Q (.bool b) s := by
  cases r with
  | none => exact hp.elim
  | some b => exact ⟨b, rfl, hp.ok_here I (.bool b)⟩

theorem SE.cmp {op : COp} {o : CmpOp} {l r : Expr} {pos : Pos} {a b : DE} (hl : SE C n S l a) (hr : SE C n S r b) (ho : op.op = o := by rfl) (hm : behindInMarks o r = false := by with_unfolding_all rfl) : SE C n S (.Compare l [o] [r] pos) (dCmp op a b) := by
  subst ho
  intro A env σ H β s Q E P hp
  refine wpAny_Compare1 (wpAny_mono (hl A env σ H β s _ E P (Pst.bind hp)) ?_ fun _ _ e => e) hm
  rintro x s₁ ⟨v, H₁, β₁, _, a₁, vx, hp₁⟩
  refine wpAny_mono (hr A env σ H₁ β₁ s₁ _ E (P.after a₁) (Pst.bind hp₁)) ?_ fun _ _ e => e
  rintro y s₂ ⟨u, H₂, β₂, _, a₂, vy, hp₂⟩
  obtain ⟨c, hc, hq⟩ := pst_bool a₂.inv hp₂
  exact cmpop_ok a₂.inv P.room (vx.mono a₂.grow) vy hc hq

theorem ST.cmp {op : COp} {o : CmpOp} {l r : Expr} {pos : Pos} {a b : DE} (hl : SE C n S l a) (hr : SE C n S r b) (ho : op.op = o := by rfl) (hm : behindInMarks o r = false := by with_unfolding_all rfl) : ST C n S (.Compare l [o] [r] pos) (tVal (dCmp op a b)) := by
  subst ho
  intro A env σ H β s Q E P hp
  have hp := Pst.bind (R := VR C) hp
  refine wpAny_isTrue_Compare1 (wpAny_mono (hl A env σ H β s _ E P (Pst.bind hp)) ?_ fun _ _ e => e) hm
  rintro x s₁ ⟨v, H₁, β₁, _, a₁, vx, hp₁⟩
  refine wpAny_mono (hr A env σ H₁ β₁ s₁ _ E (P.after a₁) (Pst.bind hp₁)) ?_ fun _ _ e => e
  rintro y s₂ ⟨u, H₂, β₂, _, a₂, vy, hp₂⟩
  obtain ⟨c, hc, hq⟩ := pst_bool a₂.inv hp₂
  refine cmpop_ok a₂.inv P.room (vx.mono a₂.grow) vy hc (wpAny_truthy_bool ?_)
  obtain ⟨v', H', β', _, a', vr', hp'⟩ := hq
  cases vr' with
  | bool _ => exact hp'.ok_here a'.inv rfl
  | bi k e => cases k <;> cases e

theorem truthy_ok {x : Value} {b : Bool} {Q : Bool → Shared → Prop} (vx : VR C β s.heap x (.bool b)) (h : Q b s) : wpAny (model C.prog C.w) A (truthy x) Q E s := by
  cases vx; exact wpAny_truthy_bool h
/-- a test by its value -/
theorem ST.val {e : Expr} {a : DE} (h : SE C n S e a) (he : ∀ env whole, isTrue e env whole = (do let v ← whole; standAt e.pos; holding [v] (truthy v)) := by intro _ _; rfl) : ST C n S e (tVal a) := by
  intro A env σ H β s Q E P hp
  refine wpAny_isTrue_value (wpAny_mono (h A env σ H β s _ E P (Pst.bind hp)) ?_ fun _ _ e => e) (he _ _)
  rintro x s₁ ⟨v, H₁, β₁, _, a₁, vx, hp₁⟩
  cases v with
  | bool b => exact truthy_ok vx (hp₁.ok_here a₁.inv rfl)
  | _ => exact hp₁.elim
theorem ST.not {e : Expr} {pos : Pos} {t : DT} (h : ST C n S e t) : ST C n S (.UnaryOp .Not e pos) (tNot t) := by
  intro A env σ H β s Q E P hp
  refine wpAny_isTrue_Not (wpAny_mono (h A env σ H β s _ E P (Pst.bind hp)) ?_ fun _ _ e => e)
  rintro x s₁ ⟨v, H₁, β₁, _, a₁, vx, hp₁⟩
  cases vx
  exact hp₁.ok_here a₁.inv rfl
theorem SE.not {e : Expr} {pos : Pos} {a : DE} (h : SE C n S e a) : SE C n S (.UnaryOp .Not e pos) (dNot (tVal a)) := by
  intro A env σ H β s Q E P hp
  have hp := Pst.bind (R := BR) hp
  refine wpAny_UnaryOp (wpAny_mono (h A env σ H β s _ E P (Pst.bind hp)) ?_ fun _ _ e => e)
  rintro x s₁ ⟨v, H₁, β₁, _, a₁, vx, hp₁⟩
  cases v with
  | bool b =>
    obtain ⟨v', H', β', _, a', vr', hp'⟩ := hp₁.ok_here a₁.inv rfl
    cases vr'
    exact not_of (truthy_ok vx (hp'.ok_here a'.inv (.bool _)))
  | _ => exact hp₁.elim
theorem SE.neg {e : Expr} {pos : Pos} {a : DE} (h : SE C n S e a) : SE C n S (.UnaryOp .USub e pos) (dNeg a) := by
  intro A env σ H β s Q E P hp
  refine wpAny_UnaryOp (wpAny_mono (h A env σ H β s _ E P (Pst.bind hp)) ?_ fun _ _ e => e)
  rintro x s₁ ⟨v, H₁, β₁, _, a₁, vx, hp₁⟩
  cases v with
  | int i =>
    obtain ⟨t, rfl⟩ := vx.int_inv
    exact PySem.P.neg_int (hp₁ _ _ _ (a₁.inv.toks _) (.int _ _))
  | _ => exact hp₁.elim

/-- and, or as values: the rest of the operands as one -/
noncomputable def SBs (C : Cx) (n : Nat) (S : Sco) (op : BoolOp) (es : List Expr) (d : DE) : Prop :=
  ∀ A env σ H β s Q E pos, Pre C n A S env β s σ H → Pst C Nix (VR C) β s (d σ H) Q E → wpAny (model C.prog C.w) A (boolOp pos op (evalEach es env)) Q E s
theorem SBs.one {op : BoolOp} {e : Expr} {a : DE} (h : SE C n S e a) : SBs C n S op [e] a := by
  intro A env σ H β s Q E pos P hp
  exact h A env σ H β s Q E P hp
theorem boolOp_cons {env : Env} {pos : Pos} {op : BoolOp} {e e' : Expr} {es : List Expr} : boolOp pos op (evalEach (e :: e' :: es) env) = (do
    let v ← eval e env
    standAt pos
    let t ← holding [v] (truthy v)
    match op, t with
    | .And, false | .Or, true => pure v
    | _, _ => boolOp pos op (evalEach (e' :: es) env)) := rfl
theorem SBs.and {e e' : Expr} {es : List Expr} {a b : DE} (h : SE C n S e a) (r : SBs C n S .And (e' :: es) b) : SBs C n S .And (e :: e' :: es) (dAnd a b) := by
  intro A env σ H β s Q E pos P hp
  rw [boolOp_cons]
  refine wpAny_bind (wpAny_mono (h A env σ H β s _ E P (Pst.bind hp)) ?_ fun _ _ e => e)
  rintro x s₁ ⟨v, H₁, β₁, _, a₁, vx, hp₁⟩
  refine wpAny_bind (wpAny_standAt (wpAny_bind (wpAny_holding ?_)))
  cases v with
  | bool c =>
    refine truthy_ok vx ?_
    cases c with
    | true => exact r A env σ H₁ β₁ s₁ Q E pos (P.after a₁) hp₁
    | false => exact wpAny_pure (hp₁.ok_here a₁.inv vx)
  | _ => exact hp₁.elim
theorem SBs.or {e e' : Expr} {es : List Expr} {a b : DE} (h : SE C n S e a) (r : SBs C n S .Or (e' :: es) b) : SBs C n S .Or (e :: e' :: es) (dOr a b) := by
  intro A env σ H β s Q E pos P hp
  rw [boolOp_cons]
  refine wpAny_bind (wpAny_mono (h A env σ H β s _ E P (Pst.bind hp)) ?_ fun _ _ e => e)
  rintro x s₁ ⟨v, H₁, β₁, _, a₁, vx, hp₁⟩
  refine wpAny_bind (wpAny_standAt (wpAny_bind (wpAny_holding ?_)))
  cases v with
  | bool c =>
    refine truthy_ok vx ?_
    cases c with
    | false => exact r A env σ H₁ β₁ s₁ Q E pos (P.after a₁) hp₁
    | true => exact wpAny_pure (hp₁.ok_here a₁.inv vx)
  | _ => exact hp₁.elim
theorem SE.boolOp {op : BoolOp} {es : List Expr} {pos : Pos} {d : DE} (h : SBs C n S op es d) : SE C n S (.BoolOp op es pos) d := by
  intro A env σ H β s Q E P hp
  exact h A env σ H β s Q E pos P hp

/-- and, or as tests -/
noncomputable def STs (C : Cx) (n : Nat) (S : Sco) (op : BoolOp) (es : List Expr) (d : DT) : Prop :=
  ∀ A env σ H β s Q E, Pre C n A S env β s σ H → Pst C Nix BR β s (d σ H) Q E → wpAny (model C.prog C.w) A (allTrue op es env) Q E s
theorem STs.andOne {e : Expr} {a : DT} (h : ST C n S e a) : STs C n S .And [e] a := by
  intro A env σ H β s Q E P hp
  refine wpAny_allTrue_And_cons (h A env σ H β s _ E P ?_)
  cases hd : a σ H with
  | ok v K =>
    rw [hd] at hp
    intro x s' β' af hx
    have hq := hp x s' β' af hx
    cases x with
    | true => exact wpAny_allTrue_And_nil hq
    | false => exact hq
  | err _ _ => rw [hd] at hp; exact hp
  | bad => rw [hd] at hp; exact hp
theorem STs.orOne {e : Expr} {a : DT} (h : ST C n S e a) : STs C n S .Or [e] a := by
  intro A env σ H β s Q E P hp
  refine wpAny_allTrue_Or_cons (h A env σ H β s _ E P ?_)
  cases hd : a σ H with
  | ok v K =>
    rw [hd] at hp
    intro x s' β' af hx
    have hq := hp x s' β' af hx
    cases x with
    | false => exact wpAny_allTrue_Or_nil hq
    | true => exact hq
  | err _ _ => rw [hd] at hp; exact hp
  | bad => rw [hd] at hp; exact hp
theorem STs.and {e : Expr} {es : List Expr} {a b : DT} (h : ST C n S e a) (r : STs C n S .And es b) : STs C n S .And (e :: es) (tAnd a b) := by
  intro A env σ H β s Q E P hp
  refine wpAny_allTrue_And_cons (wpAny_mono (h A env σ H β s _ E P (Pst.bind hp)) ?_ fun _ _ e => e)
  rintro x s₁ ⟨v, H₁, β₁, _, a₁, vx, hp₁⟩
  cases vx
  cases x with
  | true => exact r A env σ H₁ β₁ s₁ Q E (P.after a₁) hp₁
  | false => exact hp₁.ok_here a₁.inv rfl
theorem STs.or {e : Expr} {es : List Expr} {a b : DT} (h : ST C n S e a) (r : STs C n S .Or es b) : STs C n S .Or (e :: es) (tOr a b) := by
  intro A env σ H β s Q E P hp
  refine wpAny_allTrue_Or_cons (wpAny_mono (h A env σ H β s _ E P (Pst.bind hp)) ?_ fun _ _ e => e)
  rintro x s₁ ⟨v, H₁, β₁, _, a₁, vx, hp₁⟩
  cases vx
  cases x with
  | false => exact r A env σ H₁ β₁ s₁ Q E (P.after a₁) hp₁
  | true => exact hp₁.ok_here a₁.inv rfl
theorem ST.boolOp {op : BoolOp} {es : List Expr} {pos : Pos} {d : DT} (h : STs C n S op es d) : ST C n S (.BoolOp op es pos) d := by
  intro A env σ H β s Q E P hp
  exact wpAny_isTrue_BoolOp (h A env σ H β s Q E P hp)

/-- an item -/
theorem subTail {value slice : Expr} {o i : Value} {T id : String} (hT : s.TypeIs o T) (hl : typeLookup (.type T) "__getitem__" = pure (some (.builtin id))) (h : wpAny (model C.prog C.w) A (getItem o i) Q E s)
    (hs : subscripted slice false o i = operate [o, i] (getItem o i)) : wpAny (model C.prog C.w) A (subscriptTail value slice o i) Q E s := by
  unfold subscriptTail
  refine wpAny_bind ?_
  rw [getitemInPython_of_ne hT.not_modules]
  refine wpAny_bind (wpAny_specialOf hT hl ?_)
  have fin : wpAny (model C.prog C.w) A (subscripted slice false o i) (fun r s₃ => wpAny (model C.prog C.w) A (letTemporaryGo value o r >>= fun _ => pure r) Q E s₃) E s := by
    rw [hs]
    exact wpAny_operating (wpAny_mono h (fun r s₃ h₃ => wpAny_bind (wpAny_letTemporaryGo (wpAny_pure h₃))) fun _ _ x => x)
  first
    | exact wpAny_pure (wpAny_bind fin)
    | exact wpAny_bind (wpAny_pure (wpAny_bind fin))
    | exact wpAny_bind fin
theorem itemAt_some {l : List AV} {k : Int} {v : AV} (h : itemAt l k = some v) : -1048576 ≤ k ∧ k ≤ 1048576 ∧ ∃ j, seqIndex? k l.length = some j ∧ l[j]? = some v := by
  unfold itemAt at h
  split at h
  · rename_i hk
    refine ⟨hk.1, hk.2, ?_⟩
    split at h
    · rename_i h0
      have := (List.getElem?_eq_some_iff.mp h).1
      refine ⟨k.toNat, ?_, h⟩
      unfold seqIndex?
      simp only [show ¬ k < 0 by omega, if_false, h0, decide_true, Bool.true_and, decide_eq_true_eq]
      rw [if_pos (by omega)]
    · split at h
      · rename_i h0 h1
        have := (List.getElem?_eq_some_iff.mp h).1
        refine ⟨(k + l.length).toNat, ?_, h⟩
        unfold seqIndex?
        simp only [show k < 0 by omega, if_true, h1, decide_true, Bool.true_and, decide_eq_true_eq]
        rw [if_pos (by omega)]
      · cases h
  · cases h
theorem getItemT {a : Addr} {items : Array Value} {l : List AV} {k : Int} {t : Tok} {v : AV} (ht : s.heap.IsTuple a items) (hv : VRs C β s.heap items.toList l) (h : itemAt l k = some v) (hq : ∀ x, VR C β s.heap x v → Q x s) :
    wpAny (model C.prog C.w) A (getItem (.ref a) (.int k t)) Q E s := by
  obtain ⟨h1, h2, j, hj, hx⟩ := itemAt_some h
  obtain ⟨x, hx', hr⟩ := hv.get hx
  have hlen := hv.length
  rw [Array.length_toList] at hlen
  exact PyProof.Rows.getItem_tuple ht (by omega) (by omega) (by rw [hlen]; exact hj) (by simpa using hx') (hq x hr)
theorem getItemL {a : Addr} {items : Array Value} {l : List AV} {k : Int} {t : Tok} {v : AV} (ht : s.heap.IsList a items) (hv : VRs C β s.heap items.toList l) (h : itemAt l k = some v) (hq : ∀ x, VR C β s.heap x v → Q x s) :
    wpAny (model C.prog C.w) A (getItem (.ref a) (.int k t)) Q E s := by
  have hlen := hv.length
  rw [Array.length_toList] at hlen
  unfold itemAt at h
  split at h
  · rename_i hk
    split at h
    · rename_i h0
      obtain ⟨x, hx', hr⟩ := hv.get h
      exact wpAny_getItem_list ht h0 (by omega) (by simpa using hx') (hq x hr)
    · split at h
      · rename_i h0 h1
        obtain ⟨x, hx', hr⟩ := hv.get h
        exact wpAny_getItem_list_neg ht (by omega) (by rw [hlen]; omega) (by omega) (by rw [hlen]; simpa using hx') (hq x hr)
      · cases h
  · cases h
theorem SE.sub {e i : Expr} {pos : Pos} {a b : DE} (h : SE C n S e a) (k : SE C n S i b) (hs : ∀ o v, subscripted i false o v = operate [o, v] (getItem o v) := by intro _ _; rfl) : SE C n S (.Subscript e i pos) (dSub a b) := by
  intro A env σ H β s Q E P hp
  refine Subscript_ (wpAny_mono (h A env σ H β s _ E P (Pst.bind hp)) ?_ fun _ _ e => e)
  rintro x s₁ ⟨v, H₁, β₁, _, a₁, vx, hp₁⟩
  refine wpAny_mono (k A env σ H₁ β₁ s₁ _ E (P.after a₁) (Pst.bind hp₁)) ?_ fun _ _ e => e
  rintro y s₂ ⟨u, H₂, β₂, _, a₂, vy, hp₂⟩
  have vx := vx.mono a₂.grow
  obtain ⟨r, hr, hp₃⟩ := pst_some hp₂
  unfold subop at hr
  split at hr
  · obtain ⟨t, rfl⟩ := vy.int_inv
    split at hr
    · cases vx with
      | tup ht _ hv => exact subTail (Heap.IsTuple.typeIs' ht) slot_tuple_getitem.lookup (getItemT ht hv hr fun x hx => hp₃.ok_here a₂.inv hx) (hs _ _)
    · split at hr
      · rename_i l hl
        obtain ⟨ad, items, rfl, hl, hv⟩ := list_at a₂.inv vx hl
        exact subTail hl.typeIs slot_list_getitem.lookup (getItemL hl hv hr fun x hx => hp₃.ok_here a₂.inv hx) (hs _ _)
      · cases hr
  · cases hr
end
end Mine

namespace Mine
open PySem PyProof.Rows PySem.Calls PySem.SeqAt

section
variable {C : Cx} {n : Nat} {S : Sco} {β : List Addr} {s : Shared} {H : AH} {A : Around} {Q : Value → Shared → Prop} {E : Value → Shared → Prop} {mg mb : Str → Option Value}

/-- the heap has grown, nothing of it has changed -/
theorem Inv.keeps (I : Inv C β s.heap H) {h' : Heap} (tk : Nat) (hk : ∀ b o, s.heap.get? b = some o → h'.get? b = some o) : After C Nix β s β { s with heap := h', toks := tk } H := by
  have g : Grow Nix β s.heap β h' := ⟨⟨⟨[], by simp, fun _ ha => nomatch ha⟩, fun a o e _ _ => ⟨o, hk a o e, .refl _⟩, fun _ h => h.elim⟩, fun _ h => h.elim⟩
  refine ⟨g, ⟨I.len, I.nodup, fun i a ao h1 h2 => ?_, fun a o e => hk _ _ (I.base a o e), I.fresh⟩, h', tk, rfl⟩
  have := I.obj i a ao h1 h2
  cases ao with
  | list l =>
    obtain ⟨items, ⟨m, hob⟩, hv⟩ := this
    exact ⟨items, ⟨m, hk _ _ hob⟩, hv.mono g⟩
  | dict l => exact this.elim
  | attrs l => exact this.elim

theorem isi_ok (I : Inv C β s.heap H) {x : Value} {v : AV} {t : BI} {b : Bool} (vx : VR C β s.heap x v) (h : isiOp H v t = some b) (hp : ∀ tk, Q (.bool b) { s with toks := tk }) :
    wpAny (model C.prog C.w) A (call (.builtin "isinstance") [x, t.val]) Q E s := by
  have hp0 : Q (.bool b) s := hp s.toks
  have hp1 := hp (s.toks + 1)
  have lst : ∀ {l : List AV}, listOf? H v = some l → isiL t = some b → wpAny (model C.prog C.w) A (call (.builtin "isinstance") [x, t.val]) Q E s := by
    intro l hl h
    obtain ⟨a, items, rfl, hl, _⟩ := list_at I vx hl
    cases t <;> first | (cases h; done) | skip
    · cases h; exact IsiPair.isList_int hl (fun _ _ e => e) hp1
    · cases h; exact IsiPair.isList_str hl (fun _ _ e => e) hp1
    · cases h; exact IsiPair.isList_list hl (fun _ _ e => e) hp0
    · cases h; exact IsiPair.isList_tuple hl (fun _ _ e => e) hp1
    · cases h; exact IsiPair.isList_bool hl (fun _ _ e => e) hp1
  cases vx with
  | none =>
    cases t <;> first | (cases h; done) | skip
    · cases h; exact IsiPair.NoneType_int hp1
    · cases h; exact IsiPair.NoneType_str hp1
    · cases h; exact IsiPair.NoneType_list hp1
    · cases h; exact IsiPair.NoneType_tuple hp1
    · cases h; exact IsiPair.NoneType_bool hp1
  | bool c =>
    cases t <;> first | (cases h; done) | skip
    · cases h; exact IsiPair.bool_int hp0
    · cases h; exact IsiPair.bool_str hp1
    · cases h; exact IsiPair.bool_list hp1
    · cases h; exact IsiPair.bool_tuple hp1
    · cases h; exact IsiPair.bool_bool hp0
  | int i t' =>
    cases t <;> first | (cases h; done) | skip
    · cases h; exact IsiPair.int_int hp0
    · cases h; exact IsiPair.int_str hp1
    · cases h; exact IsiPair.int_list hp1
    · cases h; exact IsiPair.int_tuple hp1
    · cases h; exact IsiPair.int_bool hp1
  | str y t' =>
    cases t <;> first | (cases h; done) | skip
    · cases h; exact IsiPair.str_int hp1
    · cases h; exact IsiPair.str_str hp0
    · cases h; exact IsiPair.str_list hp1
    · cases h; exact IsiPair.str_tuple hp1
    · cases h; exact IsiPair.str_bool hp1
  | tup ht _ _ =>
    cases t <;> first | (cases h; done) | skip
    · cases h; exact IsiPair.isTuple_int ht (fun _ _ e => e) hp1
    · cases h; exact IsiPair.isTuple_str ht (fun _ _ e => e) hp1
    · cases h; exact IsiPair.isTuple_list ht (fun _ _ e => e) hp1
    · cases h; exact IsiPair.isTuple_tuple ht (fun _ _ e => e) hp0
    · cases h; exact IsiPair.isTuple_bool ht (fun _ _ e => e) hp1
  | lst hl _ _ => exact lst rfl h
  | ref hb =>
    simp only [isiOp] at h
    split at h
    · rename_i l hl; exact lst hl h
    · cases h
  | _ => cases h

theorem allTrue_some : ∀ {l : List AV} {b : Bool}, allTrue? l = some b → ∃ bs : List Bool, l = bs.map .bool ∧ b = bs.all id
  | [], b, h => by cases h; exact ⟨[], rfl, rfl⟩
  | v :: r, b, h => by
    cases v with
    | bool c =>
      simp only [allTrue?] at h
      obtain ⟨d, hd, rfl⟩ := Option.map_eq_some_iff.mp h
      obtain ⟨bs, rfl, rfl⟩ := allTrue_some hd
      exact ⟨c :: bs, rfl, rfl⟩
    | _ => cases h
theorem bools_get {h : Heap} : ∀ {vs : List Value} {bs : List Bool}, VRs C β h vs (bs.map .bool) → ∀ (i : Nat) (v : Value), vs[i]? = some v → ∃ b, bs[i]? = some b ∧ v = .bool b
  | [], _, _, i, v, e => by simp at e
  | x :: vs, [], r, i, v, e => by cases r
  | x :: vs, b :: bs, r, i, v, e => by
    cases r with
    | cons a r =>
      cases i with
      | zero => simp at e; subst e; cases a with | bool _ => exact ⟨b, rfl, rfl⟩
      | succ i => simpa using bools_get r i v (by simpa using e)
theorem range_all (bs : List Bool) : ((List.range bs.length).all fun i => (bs[i]?).getD true) = bs.all id := by
  rw [Bool.eq_iff_iff, List.all_eq_true, List.all_eq_true]
  constructor
  · intro h b hb
    obtain ⟨i, hi, rfl⟩ := List.getElem_of_mem hb
    have := h i (List.mem_range.mpr hi)
    simpa [hi] using this
  · intro h i hi
    have hi := List.mem_range.mp hi
    have := h bs[i] (List.getElem_mem hi)
    simpa [hi] using this
theorem kept_iter {h' : Heap} {o : Obj} (hk : ∀ b x, b ∉ [s.heap.objs.size] → (s.heap.push o).get? b = some x → h'.get? b = some x) : ∀ b x, s.heap.get? b = some x → h'.get? b = some x :=
  fun b x e => hk b x (fun hm => by rw [List.mem_singleton.mp hm] at e; exact Nat.lt_irrefl _ (Heap.lt_size e)) (Heap.get?_push_of_some _ e)

theorem range_size (b : Int) : Builtin.Range.rangeSize 0 b 1 = (b.toNat : Int) := by
  unfold Builtin.Range.rangeSize
  simp only [show (1 : Int) > 0 by decide, if_true, Int.ediv_one]
  split <;> omega
theorem range_small {b : Int} (h : -1048576 ≤ b ∧ b ≤ 1048576) : Builtin.Range.small 0 b 1 = true := by
  have hs := range_size b
  have f : ∀ i : Int, -2000000 ≤ i → i ≤ 2000000 → Builtin.Range.rangeFitsLong i = true := by
    intro i h1 h2
    simp only [Builtin.Range.rangeFitsLong, Bool.and_eq_true, decide_eq_true_eq]
    omega
  unfold Builtin.Range.small
  rw [hs, f 0 (by omega) (by omega), f b (by omega) (by omega), f 1 (by omega) (by omega), f (b.toNat : Int) (by omega) (by omega), if_pos (by decide), f (b + (1 - 1)) (by omega) (by omega)]
  simp
theorem vrs_of_get {h : Heap} : ∀ {vs : List Value} {l : List AV}, vs.length = l.length → (∀ (i : Nat) v d, vs[i]? = some v → l[i]? = some d → VR C β h v d) → VRs C β h vs l
  | [], [], _, _ => .nil
  | [], _ :: _, e, _ => by simp at e
  | _ :: _, [], e, _ => by simp at e
  | v :: vs, d :: l, e, k => .cons (k 0 v d rfl rfl) (vrs_of_get (by simpa using e) fun i x y h1 h2 => k (i + 1) x y (by simpa using h1) (by simpa using h2))
theorem range_items {β : List Addr} {h : Heap} {acc : Array Value} {b : Int} (hit : ItemsOf (fun i v => ∃ t, v = .int (0 + i * 1) t) acc b.toNat) : VRs C β h acc.toList (rangeL b) := by
  refine vrs_of_get (by simp [rangeL, hit.1]) fun i v d h1 h2 => ?_
  obtain ⟨t, rfl⟩ := hit.2 i v (by simpa using h1)
  have hi : i < b.toNat := by have := (List.getElem?_eq_some_iff.mp h2).1; simpa [rangeL] using this
  simp [rangeL, hi] at h2
  subst h2
  have : (0 : Int) + (i : Int) * 1 = (i : Int) := by omega
  rw [this]; exact .int _ _

theorem appBI_ok (I : Inv C β s.heap H) (R : Room n A) {k : BI} {xs : List Value} {vs : List AV} (vx : VRs C β s.heap xs vs)
    (hp : Pst C Nix (VR C) β s (toR H (appBI H k vs)) Q E) : wpAny (model C.prog C.w) A (call k.val xs) Q E s := by
  obtain ⟨r, hr, hp⟩ := pst_some hp
  unfold appBI at hr
  split at hr
  · rename_i v
    obtain ⟨x, rfl, hx⟩ : ∃ x, xs = [x] ∧ VR C β s.heap x v := by
      cases vx with
      | cons a r => cases r; exact ⟨_, rfl, a⟩
    split at hr
    · -- len
      unfold lenOp at hr
      split at hr
      · split at hr
        · rename_i l hl
          cases hr
          cases hx with
          | tup ht _ hv =>
            have hlen := hv.length
            rw [Array.length_toList] at hlen
            exact len_tuple ht (by rw [hlen]; omega) (hp _ _ _ (I.toks _) (by rw [hlen]; exact .int _ _))
        · cases hr
      · split at hr
        · rename_i l hl
          split at hr
          · cases hr
            obtain ⟨a, items, rfl, hl, hv⟩ := list_at I hx hl
            have hlen := hv.length
            rw [Array.length_toList] at hlen
            exact len_list hl (by rw [hlen]; omega) (hp _ _ _ (I.toks _) (by rw [hlen]; exact .int _ _))
          · cases hr
        · cases hr
    · -- range
      unfold rangeOp at hr
      split at hr
      · split at hr
        · cases hr
          obtain ⟨t, rfl⟩ := hx.int_inv
          exact call_range_1 (hp _ _ _ (I.push _ _) (.rng (Heap.get?_push_size _ rfl) I.new_notin))
        · cases hr
      · cases hr
    · -- all
      unfold allOp at hr
      split at hr
      · rename_i l hl
        obtain ⟨b, hb, rfl⟩ := Option.map_eq_some_iff.mp hr
        obtain ⟨bs, rfl, rfl⟩ := allTrue_some hb
        obtain ⟨a, items, rfl, hl, hv⟩ := list_at I hx hl
        have hlt : a < s.heap.objs.size := by obtain ⟨_, e, _⟩ := hl; exact Heap.lt_size e
        refine call_all_walk (wpAny_pyIter_list hl ?_)
        refine ⟨s.heap.objs.size, [s.heap.objs.size, a], [s.heap.objs.size], items.size, _, _, fun i => (bs[i]?).getD true, rfl, Walks.list (A := A.in1) R.handled _ a (Nat.ne_of_lt hlt) items,
          ⟨⟨_, Heap.get?_push_size _ rfl, rfl, rfl⟩, hl.push _⟩, fun i v s' Q' E' hP hQ => ?_, fun h' tk hk => ?_⟩
        · obtain ⟨b, e, rfl⟩ := bools_get hv i v (by simpa using hP)
          simp only [e, Option.getD_some] at hQ
          exact wpAny_truthy_bool hQ
        · have e : ((List.range items.size).all fun i => (bs[i]?).getD true) = bs.all id := by
            rw [← Array.length_toList, hv.length, List.length_map]; exact range_all bs
          rw [e]
          exact hp _ _ _ (I.keeps tk (kept_iter hk)) (.bool _)
      · cases hr
    · -- int
      unfold intOf at hr
      split at hr
      · cases hr
        cases hx
        exact call_int_bool (hp _ _ _ (I.toks _) (.int _ _))
      · cases hr
    · -- list
      have copy : ∀ {a : Addr} {T : String} {o : Obj} {items : Array Value} {m : Nat} {l : List AV}, (T = "list" ∨ T = "tuple") → s.heap.get? a = some o → o.cls = .type T → o.data = .seq items m → VRs C β s.heap items.toList l → l.length ≤ 1048576 →
          Pst C Nix (VR C) β s (.ok (.lst l) H) Q E → wpAny (model C.prog C.w) A (call (.type "list") [.ref a]) Q E s := by
        intro a T o items m l hT ho hc hd hv hl hp
        have hlen := hv.length
        rw [Array.length_toList] at hlen
        refine call_list_seq a hT ho hc hd (fun h' c' hk hnew => ?_) (by rw [hlen]; exact Nat.le_trans hl (by decide))
        have af := I.keeps s.toks hk
        exact hp _ _ _ af (.lst (items := items) ⟨_, hnew, rfl, _, rfl⟩ I.new_notin (hv.mono af.grow))
      unfold listOp at hr
      split at hr
      · split at hr
        · rename_i hl
          cases hr
          cases hx with
          | tup ht _ hv =>
            obtain ⟨o, ho, hc, m, hd⟩ := ht
            exact copy (.inr rfl) ho hc hd hv hl hp
        · cases hr
      · split at hr
        · rename_i b hl
          cases hr
          cases hx with
          | rng hr' _ =>
            refine call_list_range (n := b.toNat) R.handled hr' ?_ ?_ ?_ (fun h' tk acc' c' hk hnew hit => ?_)
            · exact range_small hl
            · exact range_size b
            · have := hl.2; omega
            · have af := I.keeps tk hk
              exact hp _ _ _ af (.lst (items := acc') ⟨_, hnew, rfl, _, rfl⟩ I.new_notin (range_items hit))
        · cases hr
      · split at hr
        · rename_i l hl
          split at hr
          · rename_i hle
            cases hr
            obtain ⟨a, items, rfl, hl, hv⟩ := list_at I hx hl
            obtain ⟨o, ho, hc, m, hd⟩ := hl
            exact copy (.inl rfl) ho hc hd hv hle hp
          · cases hr
        · cases hr
    · -- tuple
      unfold tupOp at hr
      split at hr
      · rename_i l hl
        split at hr
        · rename_i hle
          cases hr
          obtain ⟨a, items, rfl, hl, hv⟩ := list_at I hx hl
          have hlen := hv.length
          rw [Array.length_toList] at hlen
          refine call_tuple_list hl (fun h' hk => ?_) (by rw [hlen]; exact Nat.le_trans hle (by decide))
          have af := I.keeps s.toks hk
          have af2 := af.inv.push (s := { s with heap := h' }) { cls := .type "tuple", data := .seq items } s.toks
          exact hp _ _ _ (af.trans af2) (.tup (items := items) ⟨_, Heap.get?_push_size _ rfl, rfl, _, rfl⟩ af.inv.new_notin ((hv.mono af.grow).mono af2.grow))
        · cases hr
      · cases hr
    · cases hr
  · rename_i v t
    obtain ⟨x, rfl, hx⟩ : ∃ x, xs = [x, t.val] ∧ VR C β s.heap x v := by
      cases vx with
      | cons a r => cases r with
        | cons b r => cases r; cases b with | bi _ e => subst e; exact ⟨_, rfl, a⟩
    split at hr
    · obtain ⟨b, hb, rfl⟩ := Option.map_eq_some_iff.mp hr
      exact isi_ok I hx hb fun tk => hp _ _ _ (I.toks tk) (.bool b)
    · cases hr
  · cases hr
end
end Mine

namespace Mine
open PySem PyProof.Rows PySem.Calls PySem.SeqAt

/-- a flow, and the frame behind it -/
noncomputable def FlR (C : Cx) (β : List Addr) (h : Heap) : Flow → Fl → Prop
  | .next, .next => True
  | .ret x, .ret v => VR C β h x v
  | _, _ => False
noncomputable def FR (C : Cx) (S : Sco) (env : Env) (β : List Addr) (h : Heap) (f : Flow) (p : Fl × Loc) : Prop := FlR C β h f p.1 ∧ ER C S env β h p.2
/-- the frame of a def: no name of it is free -/
noncomputable def NoFree (env : Env) : Prop := ∀ x, env.kindOf x ≠ some .free
noncomputable def SS (C : Cx) (n : Nat) (S : Sco) (st : Stmt) (d : DS) : Prop :=
  ∀ A env σ H β s Q E, NoFree env → Pre C n A S env β s σ H → Pst C (Own env) (FR C S env) β s (d σ H) Q E → wpAny (model C.prog C.w) A (exec st env) Q E s
noncomputable def SSs (C : Cx) (n : Nat) (S : Sco) (sts : List Stmt) (d : DS) : Prop :=
  ∀ A env σ H β s Q E, NoFree env → Pre C n A S env β s σ H → Pst C (Own env) (FR C S env) β s (d σ H) Q E → wpAny (model C.prog C.w) A (execs sts env) Q E s

section
variable {C : Cx} {n : Nat} {S : Sco} {env : Env} {β β' : List Addr} {s s' : Shared} {σ σ' : Loc} {H H' : AH} {A : Around} {Q : Flow → Shared → Prop} {E : Value → Shared → Prop} {mg mb : Str → Option Value}

theorem Stk.monoS {h h' : Heap} (K : Stk C A β h) (g : Grow (Own env) β h β' h') (e : ER C S env β h σ) (e' : ER C S env β' h' σ') : Stk C A β' h' := by
  obtain ⟨l, hl, k⟩ := K
  refine ⟨l, hl, fun x hx => (k x hx).mono g fun hq => ?_⟩
  rcases hq with hq | ⟨z, hz⟩
  · rw [hq]; obtain ⟨m, hm, _⟩ := e'.vars; exact ⟨m, hm⟩
  · obtain ⟨m, o, es, ep, ho, hd, _⟩ := (k x hx).ns
    obtain ⟨⟨v, o', ho', hd'⟩, _⟩ := e.cell z _ hz
    rw [ho] at ho'; cases ho'
    rw [hd] at hd'; cases hd'
theorem Pre.afterS (p : Pre C n A S env β s σ H) (a : After C (Own env) β s β' s' H') (e : ER C S env β' s'.heap σ') : Pre C n A S env β' s' σ' H' :=
  ⟨a.inv, e, p.room, p.stk.monoS a.grow p.env e, p.ne⟩
theorem Pre.own (p : Pre C n A S env β s σ H) : ∀ a, Own env a → a ∉ β ∧ ∃ o, s.heap.get? a = some o ∧ Slotty o := p.env.own

theorem SSs.nil : SSs C n S [] sNil := by
  intro A env σ H β s Q E F P hp
  exact wpAny_execs_nil (hp _ s β ((After.refl P.inv).weaken P.own) ⟨trivial, P.env⟩)
theorem SSs.cons {st : Stmt} {sts : List Stmt} {a b : DS} (h : SS C n S st a) (r : SSs C n S sts b) : SSs C n S (st :: sts) (sSeq a b) := by
  intro A env σ H β s Q E F P hp
  refine wpAny_execs_cons (wpAny_mono (h A env σ H β s _ E F P (Pst.bind hp)) ?_ fun _ _ e => e)
  rintro f s₁ ⟨⟨fl, σ₁⟩, H₁, β₁, _, a₁, ⟨hf, he⟩, hp₁⟩
  cases fl with
  | next =>
    cases f with
    | next => exact r A env σ₁ H₁ β₁ s₁ Q E F (P.afterS a₁ he) hp₁
    | _ => exact hf.elim
  | ret v =>
    cases f with
    | ret x => exact hp₁ _ s₁ β₁ ((After.refl a₁.inv).weaken he.own) ⟨hf, he⟩
    | _ => exact hf.elim
theorem SSs.one {st : Stmt} {a : DS} (h : SS C n S st a) : SSs C n S [st] a := by
  intro A env σ H β s Q E F P hp
  refine wpAny_execs_cons (h A env σ H β s _ E F P ?_)
  cases hd : a σ H with
  | ok p K =>
    rw [hd] at hp
    intro f s' β' af hr
    have hq := hp f s' β' af hr
    cases f with
    | next => exact wpAny_execs_nil hq
    | _ => exact hq
  | err _ _ => rw [hd] at hp; exact hp
  | bad => rw [hd] at hp; exact hp

theorem SS.ret {e : Expr} {pos : Pos} {a : DE} (h : SE C n S e a) : SS C n S (.Return (some e) pos) (sRet a) := by
  intro A env σ H β s Q E F P hp
  refine wpAny_Return_some (wpAny_mono (h A env σ H β s _ E P (Pst.bindE P.own hp)) ?_ fun _ _ e => e)
  rintro x s₁ ⟨v, H₁, β₁, _, a₁, vx, hp₁⟩
  exact hp₁ _ s₁ β₁ ((After.refl a₁.inv).weaken (P.after a₁).own) ⟨vx, (P.after a₁).env⟩
theorem SS.ifs {t : Expr} {b o : List Stmt} {pos : Pos} {c : DT} {x y : DS} (ht : ST C n S t c) (hb : SSs C n S b x) (ho : SSs C n S o y) : SS C n S (.If t b o pos) (sIf c x y) := by
  intro A env σ H β s Q E F P hp
  refine wpAny_If (wpAny_mono (ht A env σ H β s _ E P (Pst.bindE P.own hp)) ?_ fun _ _ e => e)
  rintro b' s₁ ⟨v, H₁, β₁, _, a₁, vx, hp₁⟩
  cases vx
  cases b' with
  | true => exact hb A env σ H₁ β₁ s₁ Q E F (P.after a₁) hp₁
  | false => exact ho A env σ H₁ β₁ s₁ Q E F (P.after a₁) hp₁
theorem SS.expr {e : Expr} {pos : Pos} {a : DE} (h : SE C n S e a) (hs : ∀ env, swapsWith e none pos.line env = pure false := by intro _; rfl) : SS C n S (.Expr e pos) (sExpr a) := by
  intro A env σ H β s Q E F P hp
  refine wpAny_Expr_any (wpAny_mono (h A env σ H β s _ E P (Pst.bindE P.own hp)) ?_ fun _ _ e => e) ?_ (hs env)
  · rintro x s₁ ⟨v, H₁, β₁, _, a₁, vx, hp₁⟩
    exact hp₁ _ s₁ β₁ ((After.refl a₁.inv).weaken (P.after a₁).own) ⟨trivial, (P.after a₁).env⟩
  · unfold interactive
    simp [P.env.kind]

/-- a part of the frame's own storage has changed -/
theorem Inv.ownStore {h' : Heap} {a : Addr} (I : Inv C β s.heap H) (e : ER C S env β s.heap σ) (ha : Own env a) (hs : Heap.SameBut a s.heap h') (hl : ∃ o, h'.get? a = some o ∧ Slotty o) (tk : Nat) :
    After C (Own env) β s β { s with heap := h', toks := tk } H := by
  have hna : a ∉ β := (e.own a ha).1
  have hba : C.base.get? a = none := by
    rcases ha with rfl | ⟨x, hx⟩
    · exact e.locB
    · exact (e.cell x a hx).2.2.1
  have g : Grow (Own env) β s.heap β h' := ⟨⟨⟨[], by simp, fun _ h => nomatch h⟩, fun b o ho _ hx => ⟨o, by rw [hs.2 b (fun q => hx (q ▸ ha))]; exact ho, .refl _⟩, fun b hb => (e.own b hb).2⟩, fun b hb => by
    by_cases q : b = a
    · rw [q]; exact hl
    · rw [hs.2 b q]; exact (e.own b hb).2⟩
  refine ⟨g, ⟨I.len, I.nodup, fun i b ao h1 h2 => ?_, fun b o hb => ?_, I.fresh⟩, h', tk, rfl⟩
  · have hne : b ≠ a := fun q => hna (q ▸ List.mem_of_getElem? h1)
    have := I.obj i b ao h1 h2
    cases ao with
    | list l =>
      obtain ⟨items, ⟨m, hob⟩, hv⟩ := this
      exact ⟨items, ⟨m, by rw [hs.2 b hne]; exact hob⟩, hv.mono g⟩
    | dict l => exact this.elim
    | attrs l => exact this.elim
  · have hne : b ≠ a := fun q => by rw [q, hba] at hb; cases hb
    rw [hs.2 b hne]; exact I.base b o hb

theorem store_ok {x : Str} {i : Nat} {y : Value} {v : AV} {Q : Unit → Shared → Prop} (I : Inv C β s.heap H) (e : ER C S env β s.heap σ) (hx : S.Γ.lookup x = some i) (hk : env.kindOf x ≠ some .free) (vx : VR C β s.heap y v)
    (hq : ∀ s', After C (Own env) β s β s' H → ER C S env β s'.heap (upd σ i v) → Q () s') : wpAny (model C.prog C.w) A (storeName env x y) Q E s := by
  obtain ⟨m, hm, hv⟩ := e.vars
  have hji : ∀ {z : Str} {j : Nat}, z ≠ x → S.Γ.lookup z = some j → j ≠ i := fun q hz q' => q (e.slots _ x i (by rw [← q']; exact hz) hx)
  rcases hv x i hx with ⟨hl, r⟩ | ⟨hc, c, w, hcl, hcw, r⟩
  · refine wpAny_storeName_local hl hm (fun h' hn hs => ?_) (by rw [e.kind]; rfl)
    have af := I.ownStore e (.inl rfl) hs (by obtain ⟨o, es, ep, ho, hd, _⟩ := hn; exact ⟨o, ho, .inl ⟨es, ep, hd⟩⟩) (s.toks + 1)
    refine hq _ af ⟨e.kind, e.globals, e.builtins, e.notL, e.locB, e.glo, e.cap, fun z c hz => ?_, e.apart, e.slots, _, hn, fun z j hz => ?_⟩
    · obtain ⟨⟨w, o, ho, hd⟩, h1, h2, h3⟩ := e.cell z c hz
      exact ⟨⟨w, o, by show h'.get? c = _; rw [hs.2 c h3]; exact ho, hd⟩, h1, h2, h3⟩
    · rcases hv z j hz with ⟨hl', r'⟩ | ⟨hc', c', w', hcl', hcw', r'⟩
      · refine .inl ⟨hl', ?_⟩
        by_cases q : z = x
        · subst q
          rw [hx] at hz; cases hz
          rw [upd_self, if_pos rfl]
          exact ⟨y, rfl, vx.mono af.grow⟩
        · rw [if_neg q, upd_ne _ _ (hji q hz)]
          exact r'.mono af.grow
      · have q : z ≠ x := fun q => by subst q; rw [hl] at hc'; rcases hc' with h | h <;> cases h
        refine .inr ⟨hc', c', w', hcl', ?_, ?_⟩
        · obtain ⟨o, ho, hd⟩ := hcw'
          exact ⟨o, by show h'.get? c' = _; rw [hs.2 c' (e.cell z c' hcl').2.2.2]; exact ho, hd⟩
        · rw [upd_ne _ _ (hji q hz)]
          exact r'.mono af.grow
  · rcases hc with hc | hc
    · refine wpAny_storeName_cell e.kind hc hcl hcw fun h' hn hs => ?_
      have hcL := (e.cell x c hcl).2.2.2
      have af := I.ownStore e (.inr ⟨x, hcl⟩) hs (by obtain ⟨o, ho, hd⟩ := hn; exact ⟨o, ho, .inr (.inl ⟨_, hd⟩)⟩) s.toks
      have hm' : h'.Ns env.locals m := by
        obtain ⟨o, es, ep, ho, hr⟩ := hm
        exact ⟨o, es, ep, by rw [hs.2 _ (Ne.symm hcL)]; exact ho, hr⟩
      refine hq _ af ⟨e.kind, e.globals, e.builtins, e.notL, e.locB, e.glo, e.cap, fun z c' hz => ?_, e.apart, e.slots, m, hm', fun z j hz => ?_⟩
      · obtain ⟨⟨w, o, ho, hd⟩, h1, h2, h3⟩ := e.cell z c' hz
        by_cases q : c' = c
        · subst q; exact ⟨⟨_, hn⟩, h1, h2, h3⟩
        · exact ⟨⟨w, o, by show h'.get? c' = _; rw [hs.2 c' q]; exact ho, hd⟩, h1, h2, h3⟩
      · rcases hv z j hz with ⟨hl', r'⟩ | ⟨hc', c', w', hcl', hcw', r'⟩
        · have q : z ≠ x := fun q => by subst q; rw [hc] at hl'; cases hl'
          rw [upd_ne _ _ (hji q hz)]
          exact .inl ⟨hl', r'.mono af.grow⟩
        · by_cases q : z = x
          · subst q
            rw [hx] at hz; cases hz
            rw [hcl] at hcl'; cases hcl'
            rw [upd_self]
            exact .inr ⟨hc', c, _, hcl, hn, y, rfl, vx.mono af.grow⟩
          · rw [upd_ne _ _ (hji q hz)]
            refine .inr ⟨hc', c', w', hcl', ?_, r'.mono af.grow⟩
            obtain ⟨o, ho, hd⟩ := hcw'
            exact ⟨o, by show h'.get? c' = _; rw [hs.2 c' (fun q' => q (e.apart z x c (q' ▸ hcl') hcl))]; exact ho, hd⟩
    · exact absurd hc hk

theorem SS.asg {x : Str} {p : Pos} {e : Expr} {pos : Pos} {i : Nat} {a : DE} (h : SE C n S e a) (hx : S.Γ.lookup x = some i) (hs : ∀ env, swapsWith e (some (.Name x p)) pos.line env = pure false := by intro _; rfl) : SS C n S (.Assign [.Name x p] e pos) (sAsg i a) := by
  intro A env σ H β s Q E F P hp
  refine wpAny_Assign_Name (wpAny_mono (h A env σ H β s _ E P (Pst.bindE P.own hp)) ?_ fun _ _ e => e) (hs env)
  rintro y s₁ ⟨v, H₁, β₁, _, a₁, vx, hp₁⟩
  exact store_ok a₁.inv (P.after a₁).env hx (F x) vx fun s' af er => hp₁ _ s' β₁ af ⟨trivial, er⟩
end
end Mine

namespace Mine
open PySem PyProof.Rows PySem.Calls PySem.SeqAt

section
variable {C : Cx} {n : Nat} {S : Sco} {env : Env} {β β' : List Addr} {s s' : Shared} {σ σ' : Loc} {H H' : AH} {A : Around} {E : Value → Shared → Prop} {mg mb : Str → Option Value}

/-- an iterator over what src reads, made new over h -/
structure Itr (C : Cx) (A : Around) (β : List Addr) (h : Heap) (src : AH → Option (List AV)) (I : Addr) (fp : List Addr) (St : Nat → Heap → Prop) : Prop where
  item : ∀ i (s : Shared) (X : Addr → Prop) β' H l d (Q : Option Value → Shared → Prop) (E : Value → Shared → Prop), Inv C β' s.heap H → Grow X β h β' s.heap → St i s.heap → src H = some l → l[i]? = some d →
    (∀ v h' tk, VR C β' s.heap v d → St (i + 1) h' → (∀ b o, b ∉ [I] → s.heap.get? b = some o → h'.get? b = some o) → Q (some v) { s with heap := h', toks := tk }) → wpAny (model C.prog C.w) A (pyNext (.ref I)) Q E s
  done : ∀ i (s : Shared) (X : Addr → Prop) β' H l (Q : Option Value → Shared → Prop) (E : Value → Shared → Prop), Inv C β' s.heap H → Grow X β h β' s.heap → St i s.heap → src H = some l → l.length = i →
    (∀ h' tk, (∀ b o, b ∉ [I] → s.heap.get? b = some o → h'.get? b = some o) → Q none { s with heap := h', toks := tk }) → wpAny (model C.prog C.w) A (pyNext (.ref I)) Q E s
  self : ∀ i (s : Shared) (Q : Value → Shared → Prop) (E : Value → Shared → Prop), St i s.heap → Q (.ref I) s → wpAny (model C.prog C.w) A (pyIter (.ref I)) Q E s
  frame : ∀ i h h', St i h → (∀ b ∈ fp, ∀ o, h.get? b = some o → h'.get? b = some o) → St i h'
  new : h.get? I = none
  foot : ∀ b ∈ fp, b ≠ I → b ∉ β ∧ (∃ o, h.get? b = some o) ∧ ∀ i h' o, St i h' → h'.get? b = some o → ∃ vs m, o.data = .seq vs m
  obj : ∀ i h', St i h' → ∃ o T, h'.get? I = some o ∧ o.cls = .type T ∧ (∃ vs, o.data = .fields vs) ∧ T ∈ ["list_iterator", "tuple_iterator", "range_iterator"]
theorem Itr.of {β : List Addr} {h : Heap} {l : List AV} {J : Addr} {fp : List Addr} {P : Nat → Value → Prop} {St : Nat → Heap → Prop} (walks : Walks C.prog C.w A J fp [J] l.length P St) (new : h.get? J = none) (vals : ∀ i v d, P i v → l[i]? = some d → VR C β h v d)
    (foot : ∀ b ∈ fp, b ≠ J → b ∉ β ∧ (∃ o, h.get? b = some o) ∧ ∀ i h' o, St i h' → h'.get? b = some o → ∃ vs m, o.data = .seq vs m)
    (obj : ∀ i h', St i h' → ∃ o T, h'.get? J = some o ∧ o.cls = .type T ∧ (∃ vs, o.data = .fields vs) ∧ T ∈ ["list_iterator", "tuple_iterator", "range_iterator"]) : Itr C A β h (fun _ => some l) J fp St where
  item := fun i s X β' H l' d Q E _ g st hl hd hq => by
    cases hl
    exact walks.item i s Q E (List.getElem?_eq_some_iff.mp hd).1 st fun v h' tk hP st' hk => hq v h' tk ((vals i v d hP hd).mono g) st' hk
  done := fun i s X β' H l' Q E _ g st hl hi hq => by
    cases hl
    subst hi
    exact walks.done s Q E st hq
  self := walks.self
  frame := walks.frame
  new := new
  foot := foot
  obj := obj
theorem iter_ok {x : Value} {v : AV} {l : List AV} {Q : Value → Shared → Prop} (I : Inv C β s.heap H) (R : Room n A) (vx : VR C β s.heap x v) (hi : iter? v = some l)
    (hq : ∀ J fp St s₂, After C Nix β s β s₂ H → Itr C A β s.heap (fun _ => some l) J fp St → St 0 s₂.heap → J ∉ β → Q (.ref J) s₂) : wpAny (model C.prog C.w) A (pyIter x) Q E s := by
  have hnew : s.heap.get? s.heap.objs.size = none := by
    cases q : s.heap.get? s.heap.objs.size with
    | none => rfl
    | some o' => exact absurd (Heap.lt_size q) (Nat.lt_irrefl _)
  cases vx with
  | @tup a items l' ht hn hv =>
    cases hi
    have hlen := hv.length
    rw [Array.length_toList] at hlen
    have hne : a ≠ s.heap.objs.size := by obtain ⟨o, ho, _⟩ := ht; exact Nat.ne_of_lt (Heap.lt_size ho)
    refine wpAny_pyIter_tuple ht ?_
    have af := I.push (s := s) { cls := .type "tuple_iterator", data := .fields #[.ref a, .int 0 0] } s.toks
    refine hq _ _ _ _ af (Itr.of (hlen ▸ Walks.tuple R.handled s.heap.objs.size a hne items) hnew (fun i v d h1 h2 => ?_) (fun b hb hbI => ?_) (fun i h' st => ?_)) ⟨⟨_, Heap.get?_push_size _ rfl, rfl, rfl⟩, ?_⟩ I.new_notin
    · obtain ⟨v', h3, h4⟩ := hv.get h2
      rw [Array.getElem?_toList, h1] at h3; cases h3; exact h4
    · simp only [List.mem_cons, List.not_mem_nil, or_false] at hb
      rcases hb with rfl | rfl
      · exact absurd rfl hbI
      · exact ⟨hn, (by obtain ⟨o, ho, _⟩ := ht; exact ⟨o, ho⟩), fun i h' o st ho => by obtain ⟨_, o', ho', _, m, hd⟩ := st; rw [ho] at ho'; cases ho'; exact ⟨_, m, hd⟩⟩
    · obtain ⟨⟨o, ho, hc, hd⟩, _⟩ := st; exact ⟨o, _, ho, hc, ⟨_, hd⟩, by simp⟩
    · obtain ⟨o, ho, r⟩ := ht; exact ⟨o, Heap.get?_push_of_some _ ho, r⟩
  | @lst a items l' ht hn hv =>
    cases hi
    have hlen := hv.length
    rw [Array.length_toList] at hlen
    have hne : a ≠ s.heap.objs.size := by obtain ⟨o, ho, _⟩ := ht; exact Nat.ne_of_lt (Heap.lt_size ho)
    refine wpAny_pyIter_list ht ?_
    have af := I.push (s := s) { cls := .type "list_iterator", data := .fields #[.ref a, .int 0 0] } s.toks
    refine hq _ _ _ _ af (Itr.of (hlen ▸ Walks.list R.handled s.heap.objs.size a hne items) hnew (fun i v d h1 h2 => ?_) (fun b hb hbI => ?_) (fun i h' st => ?_)) ⟨⟨_, Heap.get?_push_size _ rfl, rfl, rfl⟩, ?_⟩ I.new_notin
    · obtain ⟨v', h3, h4⟩ := hv.get h2
      rw [Array.getElem?_toList, h1] at h3; cases h3; exact h4
    · simp only [List.mem_cons, List.not_mem_nil, or_false] at hb
      rcases hb with rfl | rfl
      · exact absurd rfl hbI
      · exact ⟨hn, (by obtain ⟨o, ho, _⟩ := ht; exact ⟨o, ho⟩), fun i h' o st ho => by obtain ⟨_, o', ho', _, m, hd⟩ := st; rw [ho] at ho'; cases ho'; exact ⟨_, m, hd⟩⟩
    · obtain ⟨⟨o, ho, hc, hd⟩, _⟩ := st; exact ⟨o, _, ho, hc, ⟨_, hd⟩, by simp⟩
    · obtain ⟨o, ho, r⟩ := ht; exact ⟨o, Heap.get?_push_of_some _ ho, r⟩
  | @rng a b t u w hr hn =>
    simp only [iter?] at hi
    split at hi
    · rename_i hb
      cases hi
      have hsz := range_size b
      refine wpAny_pyIter_range hr (range_small hb) ?_
      have af := I.push (s := s) { cls := .type "range_iterator", data := .fields #[rawInt 0, rawInt (Builtin.Range.rangeSize 0 b 1), rawInt 1] } s.toks
      have hlen : (rangeL b).length = b.toNat := by simp [rangeL]
      refine hq _ _ _ _ af (Itr.of (Walks.range R.handled s.heap.objs.size 0 1 (rangeL b).length) hnew (fun i v d h1 h2 => ?_) (fun b' hb' hbI => ?_) (fun i h' st => ?_)) ?_ I.new_notin
      · obtain ⟨t, rfl⟩ := h1
        have hi : i < b.toNat := by have := (List.getElem?_eq_some_iff.mp h2).1; simpa [rangeL] using this
        simp [rangeL, hi] at h2
        subst h2
        have : (0 : Int) + (i : Int) * 1 = (i : Int) := by omega
        rw [this]; exact .int _ _
      · simp only [List.mem_cons, List.not_mem_nil, or_false] at hb'
        exact absurd hb' hbI
      · exact ⟨_, _, st, rfl, ⟨_, rfl⟩, by simp⟩
      · show IsRangeIter _ _ _ _ _
        rw [hlen, show ((0 : Int) + ((0 : Nat) : Int) * 1) = 0 by simp, show ((b.toNat : Int) - ((0 : Nat) : Int)) = (b.toNat : Int) by simp, ← hsz]
        exact Heap.get?_push_size _ rfl
    · cases hi
  | _ => cases hi

/-- an iterator over a list that may change -/
theorem iterRef_ok {x : Value} {k : Nat} {l : List AV} {Q : Value → Shared → Prop} (I : Inv C β s.heap H) (R : Room n A) (vx : VR C β s.heap x (.ref k)) (hl : listOf? H (.ref k) = some l)
    (hq : ∀ J fp St s₂, After C Nix β s β s₂ H → Itr C A β s.heap (fun H => listOf? H (.ref k)) J fp St → St 0 s₂.heap → J ∉ β → Q (.ref J) s₂) : wpAny (model C.prog C.w) A (pyIter x) Q E s := by
  have hnew : s.heap.get? s.heap.objs.size = none := by
    cases q : s.heap.get? s.heap.objs.size with
    | none => rfl
    | some o' => exact absurd (Heap.lt_size q) (Nat.lt_irrefl _)
  obtain ⟨a, items, rfl, ht, hv⟩ := list_at I vx hl
  have hka : β[k]? = some a := by
    cases vx with
    | ref h => exact h
  have hne : a ≠ s.heap.objs.size := by obtain ⟨o, ho, _⟩ := ht; exact Nat.ne_of_lt (Heap.lt_size ho)
  refine wpAny_pyIter_list ht ?_
  have af := I.push (s := s) { cls := .type "list_iterator", data := .fields #[.ref a, .int 0 0] } s.toks
  refine hq _ [s.heap.objs.size] (fun i h => h.IsListIter s.heap.objs.size a i) _ af ⟨?_, ?_, ?_, ?_, hnew, ?_, ?_⟩ ⟨_, Heap.get?_push_size _ rfl, rfl, rfl⟩ I.new_notin
  · intro i s' X β' H' l' d Q E I' g st hl' hd hq
    have vx' : VR C β' s'.heap (.ref a) (.ref k) := (VR.ref hka).mono g
    obtain ⟨a', items', e, ht', hv'⟩ := list_at I' vx' hl'
    cases e
    obtain ⟨v, hv1, hv2⟩ := hv'.get hd
    refine wpAny_pyNext_list_item st ht' (x := v) (by simpa using hv1) fun h' hit' hs' => ?_
    exact hq v h' s'.toks hv2 hit' fun b o hb e => hs'.extBut b o (fun h => hb (by simp [h])) e
  · intro i s' X β' H' l' Q E I' g st hl' hi hq
    have vx' : VR C β' s'.heap (.ref a) (.ref k) := (VR.ref hka).mono g
    obtain ⟨a', items', e, ht', hv'⟩ := list_at I' vx' hl'
    cases e
    have hlen := hv'.length
    rw [Array.length_toList] at hlen
    exact wpAny_pyNext_list_end R.handled st ht' (by simp; omega) fun h' he' => hq h' s'.toks fun b o hb e => he' b o (fun h => hb (by simp [h])) e
  · intro i s' Q E st hQ
    exact wpAny_pyIter_listiter st hQ
  · intro i h h' st hk
    exact st.at fun o e => hk _ (by simp) o e
  · intro b hb hbI
    simp only [List.mem_cons, List.not_mem_nil, or_false] at hb
    exact absurd hb hbI
  · intro i h' st
    obtain ⟨o, ho, hc, hd⟩ := st
    exact ⟨o, _, ho, hc, ⟨_, hd⟩, by simp⟩

/-- an iterator goes on: it alone changes -/
theorem Itr.grow {src : AH → Option (List AV)} {J : Addr} {fp : List Addr} {St : Nat → Heap → Prop} {h₀ h h' : Heap} {β₀ : List Addr} {i j : Nat} (T : Itr C A β₀ h₀ src J fp St) (h1 : St i h) (h2 : St j h') (hk : ∀ b o, b ∉ [J] → h.get? b = some o → h'.get? b = some o) :
    Grow (fun a => a = J) β h β h' := by
  have sl : ∀ {i h}, St i h → ∃ o, h.get? J = some o ∧ Slotty o := fun st => by
    obtain ⟨o, T', ho, hc, ⟨vs, hd⟩, hT⟩ := T.obj _ _ st
    refine ⟨o, ho, .inr (.inr ⟨vs, hd, ?_⟩)⟩
    rw [hc]
    simp only [List.mem_cons, List.not_mem_nil, or_false] at hT
    rcases hT with rfl | rfl | rfl <;> decide
  exact ⟨⟨⟨[], by simp, fun _ h => nomatch h⟩, fun a o ho _ hx => ⟨o, hk a o (by simpa using hx) ho, .refl _⟩, fun a ha => by rw [ha]; exact sl h1⟩, fun a ha => by rw [ha]; exact sl h2⟩
theorem Itr.grow0 {src : AH → Option (List AV)} {J : Addr} {fp : List Addr} {St : Nat → Heap → Prop} {h₀ h h' : Heap} {β₀ : List Addr} {i : Nat} (T : Itr C A β₀ h₀ src J fp St) (h1 : St i h) (hk : ∀ b o, b ∉ [J] → h.get? b = some o → h'.get? b = some o) :
    Grow0 (fun a => a = J) β h β h' :=
  ⟨⟨[], by simp, fun _ h => nomatch h⟩, fun a o ho _ hx => ⟨o, hk a o (by simpa using hx) ho, .refl _⟩, fun a ha => by rw [ha]; exact (T.grow (β := β) h1 h1 fun _ _ _ e => e).xs J rfl⟩

theorem Inv.grow {X : Addr → Prop} {h h' : Heap} (I : Inv C β h H) (g : Grow0 X β h β h') (hb : ∀ a ∈ β, ∀ o, h.get? a = some o → h'.get? a = some o) (hbase : ∀ a o, C.base.get? a = some o → h.get? a = some o → h'.get? a = some o) : Inv C β h' H :=
  ⟨I.len, I.nodup, fun i a ao h1 h2 => by
    have := I.obj i a ao h1 h2
    cases ao with
    | list l =>
      obtain ⟨items, ⟨m, hob⟩, hv⟩ := this
      exact ⟨items, ⟨m, hb a (List.mem_of_getElem? h1) _ hob⟩, hv.mono0 g⟩
    | dict l => exact this.elim
    | attrs l => exact this.elim, fun a o e => hbase a o e (I.base a o e), I.fresh⟩

/-- targets -/
noncomputable def TG (C : Cx) (S : Sco) (e : Expr) (t : Tg) : Prop :=
  ∀ (A : Around) (env : Env) (σ σ' : Loc) (H : AH) (β : List Addr) (s : Shared) (y : Value) (v : AV) (Q : Unit → Shared → Prop) (E : Value → Shared → Prop), A.handled = none → NoFree env → Inv C β s.heap H → ER C S env β s.heap σ → VR C β s.heap y v → t.bind v σ = some σ' →
    (∀ s', After C (Own env) β s β s' H → ER C S env β s'.heap σ' → Q () s') → wpAny (model C.prog C.w) A (assign e env y) Q E s
/-- the target lets no tuple of an iterator's own go -/
noncomputable def LG (e : Expr) : Prop := ∀ (prog : Program) (w : World) (A : Around) (J : Addr) (y : Value) (s : Shared) (Q : Unit → Shared → Prop) (E : Value → Shared → Prop), (∃ o T, s.heap.get? J = some o ∧ o.cls = .type T ∧ (∃ vs, o.data = .fields vs) ∧ T ∈ ["list_iterator", "tuple_iterator", "range_iterator"]) → Q () s →
    wpAny (model prog w) A (letOwnedTupleGo e (.ref J) y) Q E s
theorem LG.name {x : Str} {p : Pos} : LG (.Name x p) := fun _ _ _ _ _ _ _ _ _ hq => wpAny_pure hq
theorem LG.tuple {es : List Expr} {k : Nat} {p : Pos} : LG (.Tuple es k p) := by
  intro prog w A J y s Q E hJ hq
  obtain ⟨o, T, ho, hc, ⟨vs, hd⟩, hT⟩ := hJ
  unfold letOwnedTupleGo
  cases y with
  | ref a =>
    refine wpAny_bind (wpAny_load ho ?_)
    rw [hc, hd]
    simp only [List.mem_cons, List.not_mem_nil, or_false] at hT
    rcases hT with rfl | rfl | rfl <;> exact wpAny_pure hq
  | _ => exact wpAny_pure hq

theorem TG.one {x : Str} {p : Pos} {i : Nat} (hx : S.Γ.lookup x = some i) : TG C S (.Name x p) (.one i) := by
  intro A env σ σ' H β s y v Q E _ F I er vx hb hq
  cases hb
  exact wpAny_assign_Name (store_ok I er hx (F x) vx hq)

/-- the iterator has gone on -/
theorem After.poke {X : Addr → Prop} {h' : Heap} {J : Addr} {tk : Nat} (af : After C X β s β' s' H') (g : Grow0 (fun a => a = J) β' s'.heap β' h') (hk : ∀ b o, b ∉ [J] → s'.heap.get? b = some o → h'.get? b = some o) (hJ : s.heap.get? J = none) (hJβ : J ∉ β')
    (hB : C.base.get? J = none) : After C X β s β' { s' with heap := h', toks := tk } H' := by
  have hXJ : ¬ X J := fun h => by obtain ⟨o, ho, _⟩ := af.grow.xs J h; rw [hJ] at ho; cases ho
  have ne : ∀ {a}, a ≠ J → a ∉ [J] := fun h => by simpa using h
  obtain ⟨hh, tk', e⟩ := af.same
  refine ⟨⟨⟨af.grow.ext, fun a o ho hn hx => ?_, af.grow.xs⟩, fun a ha => ?_⟩, ?_, h', tk, by rw [e]⟩
  · obtain ⟨o', ho', k⟩ := af.grow.keep a o ho hn hx
    exact ⟨o', hk a o' (ne (fun q => by rw [q, hJ] at ho; cases ho)) ho', k⟩
  · obtain ⟨o', ho', sl⟩ := af.grow.xlive a ha
    exact ⟨o', hk a o' (ne (fun q => hXJ (q ▸ ha))) ho', sl⟩
  · exact af.inv.grow g (fun a ha o ho => hk a o (ne (fun q => hJβ (q ▸ ha))) ho) fun a o hb ho => hk a o (ne (fun q => by rw [q, hB] at hb; cases hb)) ho

/-- the iterator stands through what leaves it alone -/
theorem Itr.stays {X : Addr → Prop} {src : AH → Option (List AV)} {J : Addr} {fp : List Addr} {St : Nat → Heap → Prop} {h₀ h h' : Heap} {β₀ β₁ : List Addr} {i : Nat} (T : Itr C A β₀ h₀ src J fp St) (st : St i h) (g : Grow0 X β h β₁ h') (hX : ¬ X J) (hJ : J ∉ β)
    (hl : ∀ b o, h₀.get? b = some o → b ∉ β₀ → b ∉ β) : St i h' := by
  refine T.frame i h h' st fun b hb o ho => ?_
  by_cases q : b = J
  · subst q
    obtain ⟨o', T', ho', _, ⟨vs, hd⟩, _⟩ := T.obj i h st
    rw [ho] at ho'; cases ho'
    exact g.fields ho hJ hd (.inr hX)
  · obtain ⟨h1, ⟨o', ho'⟩, h2⟩ := T.foot b hb q
    obtain ⟨vs, m, hd⟩ := h2 i h o st ho
    exact g.seq ho (hl b o' ho' h1) hd

theorem forSrc_none {t : Tg} {b : DS} {src : AH → Option (List AV)} {i : Nat} {σ : Loc} {H : AH} (h : src H = none) : ∀ {N : Nat}, forSrc t b src N i σ H = .bad
  | 0 => rfl
  | N + 1 => by unfold forSrc; rw [h]
theorem compSrc_none {elt : DE} {ifs : DT} {k : Nat} {σ : Loc} {m : Nat} {src : AH → Option (List AV)} {i : Nat} {H : AH} (h : src H = none) : ∀ {N : Nat}, compSrc elt ifs k σ m src N i H = .bad
  | 0 => rfl
  | N + 1 => by unfold compSrc; rw [h]
theorem forSrc_ok {target : Expr} {t : Tg} {body : List Stmt} {b : DS} {src : AH → Option (List AV)} {J : Addr} {fp : List Addr} {St : Nat → Heap → Prop} {Q : Flow → Shared → Prop}
    (ht : TG C S target t) (hlg : LG target) (hb : SSs C n S body b) (F : NoFree env) (P₁ : Pre C n A S env β s σ H) {s₂ : Shared} (a₂ : After C Nix β s β s₂ H) (T : Itr C A β s.heap src J fp St) (N : Nat) (st : St 0 s₂.heap) (hJ : J ∉ β)
    (hp : Pst C (Own env) (FR C S env) β s (forSrc t b src N 0 σ H) Q E) :
    codeAny (model C.prog C.w) A (.forLoop target (.ref J) body [] env) (fun r s' => match r with | .ok f => Q f s' | .error e => cameBackBy (model C.prog C.w) A env E e s') s₂ := by
  have hOJ : ¬ Own env J := fun h => by
    obtain ⟨_, o, ho, _⟩ := P₁.own J h
    rw [T.new] at ho; cases ho
  have hBJ : C.base.get? J = none := by
    cases q : C.base.get? J with
    | none => rfl
    | some o => have := P₁.inv.base J o q; rw [T.new] at this; cases this
  refine codeAny_forLoop_any (fun m s' => ∃ k σ' H' β', After C (Own env) β s β' s' H' ∧ ER C S env β' s'.heap σ' ∧ St k s'.heap ∧ J ∉ β' ∧ forSrc t b src N 0 σ H = forSrc t b src m k σ' H') ?_ N
    ⟨0, σ, H, β, a₂.weaken P₁.own, (P₁.after a₂).env, st, hJ, rfl⟩
  rintro m s' ⟨k, σ', H', β', af, er, stk, hJβ, heq⟩
  cases m with
  | zero => simp only [forSrc] at heq; rw [heq] at hp; exact hp.elim
  | succ m =>
  simp only [forSrc] at heq
  cases hsrc : src H' with
  | none => rw [hsrc] at heq; rw [heq] at hp; exact hp.elim
  | some l =>
  rw [hsrc] at heq
  dsimp only at heq
  cases hd : l[k]? with
  | some d =>
    rw [hd] at heq
    dsimp only at heq
    -- a turn
    refine T.item k s' _ _ _ _ d _ _ af.inv af.grow stk hsrc hd fun v h' tk hv st' hkeep => ?_
    have g₁ := T.grow0 (β := β') stk hkeep
    have af₁ := af.poke (tk := tk) g₁ hkeep T.new hJβ hBJ
    have er₁ := er.mono' g₁ fun a ha q => hOJ (q ▸ ha)
    have hv := hv.mono0 g₁
    refine hlg _ _ _ _ _ _ _ _ (T.obj _ _ st') ?_
    cases hbind : t.bind d σ' with
    | none => rw [hbind] at heq; rw [heq] at hp; exact hp.elim
    | some σ₁ =>
      rw [hbind] at heq
      dsimp only at heq
      refine ht A env σ' σ₁ H' β' _ v d _ _ P₁.room.handled F af₁.inv er₁ hv hbind fun s₃ af₃ er₃ => ?_
      have st₃ := T.stays st' af₃.grow.toGrow0 hOJ hJβ fun b o ho hn => af₁.grow.notin ho hn
      have pre₃ : Pre C n A S env β' s₃ σ₁ H' := P₁.afterS (af₁.trans af₃) er₃
      refine hb A env σ₁ H' β' s₃ _ _ F pre₃ ?_
      cases hr : b σ₁ H' with
      | ok p H₂ =>
        rw [hr] at heq
        obtain ⟨fl, σ₂⟩ := p
        intro f s₄ β₄ af₄ ⟨hf, er₄⟩
        have af₅ := (af₁.trans af₃).trans af₄
        cases fl with
        | next =>
          cases f with
          | next =>
            refine ⟨m, Nat.lt_succ_self _, k + 1, σ₂, H₂, β₄, af₅, er₄, T.stays st₃ af₄.grow.toGrow0 hOJ hJβ fun b o ho hn => (af₁.trans af₃).grow.notin ho hn, ?_, heq⟩
            obtain ⟨o, _, ho, _⟩ := T.obj _ _ st₃
            exact af₄.grow.notin ho hJβ
          | _ => exact hf.elim
        | ret w =>
          cases f with
          | ret x => rw [heq] at hp; exact hp _ s₄ β₄ af₅ ⟨hf, er₄⟩
          | _ => exact hf.elim
      | err x H₂ => rw [hr] at heq; rw [heq] at hp; exact hp
      | bad => rw [hr] at heq; rw [heq] at hp; exact hp
  | none =>
    rw [hd] at heq
    dsimp only at heq
    by_cases hlk : l.length = k
    case neg => rw [if_neg hlk] at heq; rw [heq] at hp; exact hp.elim
    rw [if_pos hlk] at heq
    refine T.done k s' _ _ _ _ _ _ af.inv af.grow stk hsrc hlk fun h' tk hkeep => ?_
    have g₁ := T.grow0 (β := β') stk hkeep
    have af₁ := af.poke (tk := tk) g₁ hkeep T.new hJβ hBJ
    have er₁ := er.mono' g₁ fun a ha q => hOJ (q ▸ ha)
    rw [heq] at hp
    exact wpAny_execs_nil (hp _ _ β' af₁ ⟨trivial, er₁⟩)

theorem SS.for_ {target iter : Expr} {body : List Stmt} {pos : Pos} {t : Tg} {d : DE} {b : DS} (ht : TG C S target t) (hlg : LG target) (hi : SE C n S iter d) (hb : SSs C n S body b) (hs : ∀ env x, foldedSetIterable iter env x = pure x := by intro _ _; rfl) :
    SS C n S (.For target iter body [] pos) (sFor t d b) := by
  intro A env σ H β s Q E F P hp
  refine wpAny_For (wpAny_mono (hi A env σ H β s _ E P (Pst.bindE P.own hp)) ?_ fun _ _ e => e) (hs env)
  rintro x s₁ ⟨v, H₁, β₁, _, a₁, vx, hp₁⟩
  cases hl : iter? v with
  | none =>
    rw [hl] at hp₁
    dsimp only at hp₁
    cases v with
    | ref k =>
      dsimp only at hp₁
      cases hL : listOf? H₁ (.ref k) with
      | none => rw [forSrc_none hL] at hp₁; exact hp₁.elim
      | some l => exact iterRef_ok a₁.inv P.room vx hL fun J fp St s₂ a₂ T st hJ => forSrc_ok ht hlg hb F (P.after a₁) a₂ T 20000 st hJ hp₁
    | _ => exact hp₁.elim
  | some l =>
    rw [hl] at hp₁
    dsimp only at hp₁
    refine iter_ok a₁.inv P.room vx hl fun J fp St s₂ a₂ T st hJ => ?_
    refine forSrc_ok ht hlg hb F (P.after a₁) a₂ T (l.length + 1) st hJ ?_
    rw [forSrc_go _ _ _ _ (by omega) (by omega)]
    exact hp₁

end
end Mine

namespace Mine
open PySem PyProof.Rows PySem.Calls PySem.SeqAt

section
variable {C : Cx} {n : Nat} {S : Sco} {env : Env} {β β' : List Addr} {s s' : Shared} {σ σ' : Loc} {H H' : AH} {A : Around} {E : Value → Shared → Prop} {mg mb : Str → Option Value}

theorem setAt_some {x : AV} {f : List AV → Option (List AV)} (h : setAt H x f = some H') : ∃ i l l', x = .ref i ∧ H[i]? = some (.list l) ∧ f l = some l' ∧ H' = H.set i (.list l') := by
  unfold setAt at h
  split at h
  · split at h
    · rename_i l hi
      obtain ⟨l', h1, rfl⟩ := Option.map_eq_some_iff.mp h
      exact ⟨_, l, l', rfl, hi, h1, rfl⟩
    · cases h
  · cases h

/-- a list of its own has changed -/
theorem Inv.setList (I : Inv C β s.heap H) {i : Nat} {a : Addr} {h' : Heap} {items : Array Value} {l l' : List AV} (hb : β[i]? = some a) (hi : H[i]? = some (.list l)) (hs : Heap.SameBut a s.heap h') (hp : h'.PlainList a items) (hv : VRs C β s.heap items.toList l') (tk : Nat) :
    After C Nix β s β { s with heap := h', toks := tk } (H.set i (.list l')) := by
  have ha : a ∈ β := List.mem_of_getElem? hb
  have g : Grow Nix β s.heap β h' := ⟨⟨⟨[], by simp, fun _ h => nomatch h⟩, fun b o ho hn _ => ⟨o, by rw [hs.2 b (fun q => hn (q ▸ ha))]; exact ho, .refl _⟩, fun _ h => h.elim⟩, fun _ h => h.elim⟩
  refine ⟨g, ⟨by rw [List.length_set]; exact I.len, I.nodup, fun j b ao h1 h2 => ?_, fun b o hbo => ?_, I.fresh⟩, h', tk, rfl⟩
  · by_cases q : j = i
    · subst q
      rw [hb] at h1; cases h1
      rw [List.getElem?_set_self (List.getElem?_eq_some_iff.mp hi).1] at h2
      cases h2
      exact ⟨items, hp, hv.mono g⟩
    · rw [List.getElem?_set_ne (Ne.symm q)] at h2
      have hne : b ≠ a := fun e => by
        subst e
        have h3 := (List.getElem?_eq_some_iff.mp h1)
        have h4 := (List.getElem?_eq_some_iff.mp hb)
        exact q ((List.getElem_inj I.nodup).mp (h3.2.trans h4.2.symm))
      have := I.obj j b ao h1 h2
      cases ao with
      | list l =>
        obtain ⟨items, ⟨m, hob⟩, hv⟩ := this
        exact ⟨items, ⟨m, by rw [hs.2 b hne]; exact hob⟩, hv.mono g⟩
      | dict l => exact this.elim
      | attrs l => exact this.elim
  · have hne : b ≠ a := fun q => by have := I.fresh a ha; rw [← q, hbo] at this; cases this
    rw [hs.2 b hne]; exact I.base b o hbo

theorem isL_some {H : AH} {v : AV} (h : isL H v = true) : ∃ i l, v = .ref i ∧ H[i]? = some (.list l) := by
  unfold isL at h
  split at h
  · split at h
    · rename_i l hl; exact ⟨_, l, rfl, hl⟩
    · cases h
  · cases h
theorem pst_toH {Q : Value → Shared → Prop} {r : Option AH} (hp : Pst C Nix (VR C) β s (toH r) Q E) : ∃ H', r = some H' ∧ Pst C Nix (VR C) β s (.ok .none H') Q E := by
  cases r with
  | none => exact hp.elim
  | some v => exact ⟨v, rfl, hp⟩

/-- a list's method, called with values -/
noncomputable def MethOk (C : Cx) (n : Nat) (id : String) (f : List AV → List AV → Option (List AV)) : Prop :=
  ∀ {A : Around} {β : List Addr} {s : Shared} {H : AH} {a : Addr} {items : Array Value} {l l' : List AV} {ys : List Value} {us : List AV} {Q : Value → Shared → Prop} {E : Value → Shared → Prop}, Inv C β s.heap H → Room n A → s.heap.PlainList a items → VRs C β s.heap items.toList l → VRs C β s.heap ys us →
    f us l = some l' → (∀ h' items' tk, Heap.SameBut a s.heap h' → h'.PlainList a items' → VRs C β s.heap items'.toList l' → Q .none { s with heap := h', toks := tk }) → wpAny (model C.prog C.w) A (call (.builtin id) (.ref a :: ys)) Q E s

/-- a method of a list is called -/
theorem SE.meth {o : Expr} {name : Str} {apos pos : Pos} {e : Expr} {args : List Expr} {id : String} {ds : List DE} {d : DE} {f : List AV → List AV → Option (List AV)}
    (slot : Slot "list" name id) (hty : typeOf (.builtin id) = pure (.type "method_descriptor")) (hcall : MethOk C n id f) (ho : SE C n S o d) (ha : SEs C n S (e :: args) ds)
    (hbase : ∀ env, attributeBase o name env (eval o env) = eval o env := by intro _; rfl)
    (hfew : ∀ env, ((backTo pos (starEach (e :: args) env)).all (fun x => !x.1) && (backToKw pos (keywordEach [] env)).all (fun x => x.1.isSome) && decide ((e :: args).length + ([] : List Keyword).length + (if ([] : List Keyword).isEmpty then 0 else 1) < 30)) = true := by intro _; rfl)
    (hstar : ∀ env, starEach (e :: args) env = (false, eval e env) :: starEach args env := by intro _; rfl)
    (hplain : ∀ env, (backTo pos (starEach (e :: args) env)).any (·.1) = false := by intro _; rfl)
    (hline : (apos.endLine == pos.line) = true := by decide) :
    SE C n S (.Call (.Attribute o name apos) (e :: args) [] pos) (dMeth f d ds) := by
  intro A env σ H β s Q E P hp
  refine wpAny_Call_method (hbase env) (hfew env) hline PySem.F.plainAttrs_list slot hty (wpAny_mono (ho A env σ H β s _ E P (Pst.bind hp)) ?_ fun _ _ e => e)
  rintro x s₁ ⟨v, H₁, β₁, _, a₁, vx, hp₁⟩
  split at hp₁
  · rename_i hL
    obtain ⟨i, l, rfl, hl⟩ := isL_some hL
    cases vx with
    | @ref a _ hb =>
      obtain ⟨items, ⟨m, hpl⟩, hv⟩ := a₁.inv.obj i a _ hb hl
      refine ⟨⟨_, hpl, rfl⟩, fun b hb' => by cases hb'; exact ⟨_, hpl, rfl⟩, ?_⟩
      have key : wpAny (model C.prog C.w) A (spliced (backTo pos (starEach (e :: args) env))) (fun vs s₂ => wpAny (model C.prog C.w) A (call (.builtin id) ([.ref a] ++ vs)) Q E s₂) E s₁ := by
        refine wpAny_mono (ha A env σ H₁ β₁ s₁ _ E pos (P.after a₁) (Pst.bind hp₁)) ?_ fun _ _ e => e
        rintro ys s₂ ⟨us, H₂, β₂, _, a₂, vy, hp₂⟩
        obtain ⟨H₃, hset, hp₃⟩ := pst_toH hp₂
        obtain ⟨i', l₂, l₂', e1, hl₂, hf, rfl⟩ := setAt_some hset
        cases e1
        obtain ⟨ν, rfl, _⟩ := a₂.grow.ext
        have hb₂ : (β₁ ++ ν)[i]? = some a := by rw [List.getElem?_append_left (List.getElem?_eq_some_iff.mp hb).1]; exact hb
        obtain ⟨items₂, hpl₂, hv₂⟩ := a₂.inv.obj i a _ hb₂ hl₂
        exact hcall a₂.inv P.room hpl₂ hv₂ vy hf fun h' items' tk hs hp' hv' => hp₃ _ _ _ (a₂.inv.setList hb₂ hl₂ hs hp' hv' tk) .none
      have hany := hplain env
      rw [hstar env] at key hany ⊢
      exact callWith_builtin hany (evalArgs_plain key)
  · exact hp₁.elim

theorem append_ok : MethOk C n "list.append" appM := by
  intro A β s H a items l l' ys us Q E I R hpl hv vy hf hq
  unfold appM at hf
  split at hf
  · rename_i v
    obtain ⟨y, rfl, hy⟩ : ∃ y, ys = [y] ∧ VR C β s.heap y v := by
      cases vy with
      | cons a r => cases r; exact ⟨_, rfl, a⟩
    unfold appF at hf
    split at hf
    · rename_i hle
      cases hf
      have hlen := hv.length
      rw [Array.length_toList] at hlen
      refine wpAny_list_append_plain hpl (fun h' hp' hs => hq h' _ s.toks hs hp' ?_) (by rw [hlen]; exact Nat.le_trans hle (by decide))
      simpa using hv.append (.cons hy .nil)
    · cases hf
  · cases hf
theorem insert_ok : MethOk C n "list.insert" insM := by
  intro A β s H a items l l' ys us Q E I R hpl hv vy hf hq
  unfold insM at hf
  split at hf
  · rename_i p v
    obtain ⟨x, y, rfl, hx, hy⟩ : ∃ x y, ys = [x, y] ∧ VR C β s.heap x p ∧ VR C β s.heap y v := by
      cases vy with
      | cons a r => cases r with
        | cons b r => cases r; exact ⟨_, _, rfl, a, b⟩
    unfold insF at hf
    split at hf
    · rename_i j
      split at hf
      · rename_i hle
        cases hf
        obtain ⟨t, rfl⟩ := hx.int_inv
        have hlen := hv.length
        rw [Array.length_toList] at hlen
        obtain ⟨m, hpl⟩ := hpl
        have hfit : ¬ (!Builtin.List.listFitsIndex j) = true := by
          have h1 : Builtin.List.listFitsIndex j = true := by
            simp only [Builtin.List.listFitsIndex, Bool.and_eq_true, decide_eq_true_eq]
            omega
          rw [h1]; decide
        refine call_meets PySem.F.slot_list_insert ⟨_, hpl, rfl⟩ PySem.F.entry_list_insert (PySem.F.args_list_insert_3 _ _ _) (AutoSeq1.list_insert_list_int_val_1 a items m j t y hfit (by rw [hlen]; exact Nat.le_trans hle.1 (by decide))) ⟨hpl, ?_⟩
        refine hq _ _ s.toks (Heap.SameBut.update ..) ⟨_, Heap.get?_update_self _ hpl rfl⟩ ?_
        have hk : (if j < 0 then (j + (items.size : Int)).toNat else min j.toNat items.size) = j.toNat := by
          rw [if_neg (by omega), hlen]; omega
        have e : ((items.extract 0 j.toNat).push y ++ items.extract j.toNat).toList = items.toList.take j.toNat ++ y :: items.toList.drop j.toNat := by
          simp [Array.toList_extract]
          exact List.take_of_length_le (by simp)
        show VRs C β s.heap ((items.extract 0 (if j < 0 then (j + (items.size : Int)).toNat else min j.toNat items.size)).push y ++ items.extract (if j < 0 then (j + (items.size : Int)).toNat else min j.toNat items.size)).toList _
        rw [hk, e]
        exact (hv.take _).append (.cons hy (hv.drop _))
      · cases hf
    · cases hf
  · cases hf

theorem setItem_ok {a : Addr} {items : Array Value} {l l' : List AV} {x y : Value} {p v : AV} {Q : Unit → Shared → Prop} (hpl : s.heap.PlainList a items) (hv : VRs C β s.heap items.toList l) (hx : VR C β s.heap x p) (hy : VR C β s.heap y v) (hf : stoF p v l = some l')
    (hq : ∀ h' items', Heap.SameBut a s.heap h' → h'.PlainList a items' → VRs C β s.heap items'.toList l' → Q () { s with heap := h' }) : wpAny (model C.prog C.w) A (setItem (.ref a) x y) Q E s := by
  unfold stoF at hf
  split at hf
  · rename_i j
    split at hf
    · rename_i hle
      cases hf
      obtain ⟨t, rfl⟩ := hx.int_inv
      have hlen := hv.length
      rw [Array.length_toList] at hlen
      have hl := hpl.isList
      obtain ⟨m, ho⟩ := id hpl
      have hfit : Builtin.List.listFitsIndex j = true := by
        simp only [Builtin.List.listFitsIndex, Bool.and_eq_true, decide_eq_true_eq]
        omega
      have hidx : seqIndex? j items.size = some (if 0 ≤ j then j.toNat else (j + l.length).toNat) := by
        unfold seqIndex?
        rw [hlen]
        by_cases h0 : 0 ≤ j
        · simp only [show ¬ j < 0 by omega, if_false, h0, decide_true, Bool.true_and, decide_eq_true_eq, if_true]
          rw [if_pos (by omega)]
        · simp only [show j < 0 by omega, if_true, h0, if_false, show 0 ≤ j + (l.length : Int) by omega, decide_true, Bool.true_and, decide_eq_true_eq]
          rw [if_pos (by omega)]
      generalize hK : (if 0 ≤ j then j.toNat else (j + l.length).toNat) = K at hidx hq
      have hK' : K < items.size := by rw [← hK, hlen]; split <;> omega
      have hget : items[K]? = some items[K] := Array.getElem?_eq_getElem hK'
      have fin : Q () { s with heap := s.heap.update a (Obj.mapSeq (·.setIfInBounds K y)) } := by
        refine hq _ (items.setIfInBounds K y) (Heap.SameBut.update ..) ⟨_, Heap.get?_update_self _ ho rfl⟩ ?_
        simpa using hv.set K hy
      unfold setItem
      try with_reducible refine wpAny_holding ?_
      first | refine wpAny_bind (wpAny_pure ?_) | skip
      refine wpAny_bind (wpAny_sequenceKey hl.typeIs (by decide) ?_)
      refine wpAny_bind (wpAny_callSpecial?_slot (name := Str.ofString "__setitem__") hl.typeIs slot_list_setitem
        (wpAny_call_entry slot_list_setitem hl.typeIs entry_list_setitem ?_ (args_list_setitem _ _ _)))
      show wpAny _ _ (Builtin.List.listSubscript? (.int j t) >>= _) _ _ s
      refine wpAny_bind (wpAny_listSubscript_int hfit ?_)
      cases j with
      | ofNat k =>
        have hkK : k = K := by rw [← hK]; simp
        subst hkK
        show wpAny _ _ ((seqItemAt a k >>= fun r => pure (r.map (k, ·))) >>= _) _ _ s
        refine wpAny_bind (wpAny_bind (wpAny_seqItemAt ho rfl (wpAny_pure ?_)))
        rw [hget]
        show wpAny _ _ (setSeqItemAt a k y >>= _) _ _ s
        refine wpAny_bind (wpAny_setSeqItemAt ho rfl ?_)
        first
          | exact wpAny_bind (wpAny_pure (wpAny_pure ⟨.none, rfl, wpAny_pure fin⟩))
          | exact wpAny_pure ⟨.none, rfl, wpAny_pure fin⟩
      | negSucc k =>
        show wpAny _ _ ((Builtin.List.listItems (.ref a) >>= fun xs => pure ((seqIndex? (Int.negSucc k) xs.size).bind fun i => xs[i]?.map (i, ·))) >>= _) _ _ s
        refine wpAny_bind (wpAny_bind ?_)
        show wpAny _ _ (seqItems? (.ref a) >>= _) _ _ s
        refine wpAny_bind (wpAny_seqItems ho rfl (wpAny_pure (wpAny_pure ?_)))
        rw [hidx]
        simp only [Option.bind_some, hget, Option.map_some]
        show wpAny _ _ (setSeqItemAt a K y >>= _) _ _ s
        refine wpAny_bind (wpAny_setSeqItemAt ho rfl ?_)
        first
          | exact wpAny_bind (wpAny_pure (wpAny_pure ⟨.none, rfl, wpAny_pure fin⟩))
          | exact wpAny_pure ⟨.none, rfl, wpAny_pure fin⟩
    · cases hf
  · cases hf

theorem SS.store {o i e : Expr} {p pos : Pos} {a b c : DE} (ho : SE C n S o a) (hi : SE C n S i b) (he : SE C n S e c) (hs : ∀ env, swapsWith e (some (.Subscript o i p)) pos.line env = pure false := by intro _; rfl) : SS C n S (.Assign [.Subscript o i p] e pos) (sStore a b c) := by
  intro A env σ H β s Q E F P hp
  refine wpAny_Assign_Subscript (wpAny_mono (he A env σ H β s _ E P (Pst.bindE P.own hp)) ?_ fun _ _ e => e) (hs env)
  rintro y s₁ ⟨v, H₁, β₁, _, a₁, vy, hp₁⟩
  have P₁ := P.after a₁
  refine wpAny_mono (ho A env σ H₁ β₁ s₁ _ E P₁ (Pst.bindE P₁.own hp₁)) ?_ fun _ _ e => e
  rintro x s₂ ⟨u, H₂, β₂, _, a₂, vx, hp₂⟩
  have P₂ := P₁.after a₂
  refine wpAny_mono (hi A env σ H₂ β₂ s₂ _ E P₂ (Pst.bindE P₂.own hp₂)) ?_ fun _ _ e => e
  rintro k s₃ ⟨q, H₃, β₃, _, a₃, vk, hp₃⟩
  have P₃ := P₂.after a₃
  have vx := vx.mono a₃.grow
  have vy := (vy.mono a₂.grow).mono a₃.grow
  cases hset : setAt H₃ u (stoF q v) with
  | none => rw [hset] at hp₃; exact hp₃.elim
  | some H₄ =>
    rw [hset] at hp₃
    obtain ⟨j, l, l', rfl, hl, hf, rfl⟩ := setAt_some hset
    cases vx with
    | @ref ad _ hb =>
      obtain ⟨items, hpl, hv⟩ := a₃.inv.obj j ad _ hb hl
      refine setItem_ok hpl hv vk vy hf fun h' items' hsb hp' hv' => ?_
      have af := a₃.inv.setList hb hl hsb hp' hv' s₃.toks
      exact hp₃ _ _ _ (af.weaken P₃.own) ⟨trivial, (P₃.after af).env⟩
end
end Mine

namespace Mine
open PySem PyProof.Rows PySem.Calls PySem.SeqAt

/-- the defs of the text keep what their abstract ones say -/
noncomputable def FS (C : Cx) (Φ : Fns) (n : Nat) : Prop :=
  ∀ (A : Around) (k : Nat) (xs : List Value) (vs : List AV) (H : AH) (β : List Addr) (s : Shared) (Q : Value → Shared → Prop) (E : Value → Shared → Prop), Room n A → Stk C A β s.heap → Inv C β s.heap H → VRs C β s.heap xs vs → Pst C Nix (VR C) β s (Φ k vs H) Q E →
    (∃ o fd, C.base.get? (C.fnv k) = some o ∧ o.data = .func fd) ∧ wpAny (model C.prog C.w) A (call (.ref (C.fnv k)) xs) Q E s

section
variable {C : Cx} {n : Nat} {S : Sco} {env : Env} {β β' : List Addr} {s s' : Shared} {σ σ' : Loc} {H H' : AH} {A : Around} {E : Value → Shared → Prop} {mg mb : Str → Option Value} {Φ : Fns}

theorem SE.callF {func e : Expr} {args : List Expr} {pos : Pos} {d : DE} {ds : List DE} (hF : FS C Φ n) (hf : SE C n S func d) (ha : SEs C n S (e :: args) ds)
    (he : ∀ env, eval (.Call func (e :: args) [] pos) env = (do callWith pos (← eval func env) [] (backTo pos (starEach (e :: args) env)) (backToKw pos (keywordEach [] env))) := by intro _; rfl)
    (hstar : ∀ env, starEach (e :: args) env = (false, eval e env) :: starEach args env := by intro _; rfl)
    (hplain : ∀ env, (backTo pos (starEach (e :: args) env)).any (·.1) = false := by intro _; rfl) :
    SE C n S (.Call func (e :: args) [] pos) (dCall Φ d ds) := by
  intro A env σ H β s Q E P hp
  refine Call_ (wpAny_mono (hf A env σ H β s _ E P (Pst.bind hp)) ?_ fun _ _ e => e) (he env)
  rintro x s₁ ⟨v, H₁, β₁, _, a₁, vx, hp₁⟩
  split at hp₁
  rotate_left
  · exact hp₁.elim
  rename_i hcal
  have hargs := ha A env σ H₁ β₁ s₁ _ E pos (P.after a₁) (Pst.bind hp₁)
  have hany := hplain env
  cases v with
  | fn k =>
    cases vx
    -- the object of the def
    have key : wpAny (model C.prog C.w) A (spliced (backTo pos (starEach (e :: args) env))) (fun ys s₂ => ∃ q : ∃ o fd, C.base.get? (C.fnv k) = some o ∧ o.data = .func fd, s₂.heap.get? (C.fnv k) = C.base.get? (C.fnv k) ∧ wpAny (model C.prog C.w) A (call (.ref (C.fnv k)) ys) Q E s₂) E s₁ := by
      refine wpAny_mono hargs ?_ fun _ _ e => e
      rintro ys s₂ ⟨us, H₂, β₂, _, a₂, vy, hp₂⟩
      obtain ⟨⟨o, fd, ho, hd⟩, hw⟩ := hF A k ys us H₂ β₂ s₂ Q E P.room ((P.after a₁).after a₂).stk a₂.inv vy hp₂
      exact ⟨⟨o, fd, ho, hd⟩, by rw [ho]; exact a₂.inv.base _ _ ho, hw⟩
    rw [hstar env] at key hany ⊢
    by_cases hx : ∃ o fd, C.base.get? (C.fnv k) = some o ∧ o.data = .func fd
    · obtain ⟨o, fd, ho, hd⟩ := hx
      exact callWith_function (o := o) (fd := fd) (evalArgs_plain (wpAny_mono key (fun ys s₂ h => by
        obtain ⟨⟨o', fd', ho', hd'⟩, h1, h2⟩ := h
        exact ⟨⟨by rw [h1]; exact ho, hd⟩, h2⟩) fun _ _ e => e))
    · exact callWith_function (o := default) (fd := default) (evalArgs_plain (wpAny_mono key (fun ys s₂ h => by
        obtain ⟨⟨o', fd', ho', hd'⟩, h1, h2⟩ := h
        exact absurd ⟨o', fd', ho', hd'⟩ hx) fun _ _ e => e))
  | bi b =>
    cases vx with
    | bi _ e' =>
      subst e'
      have key : wpAny (model C.prog C.w) A (spliced (backTo pos (starEach (e :: args) env))) (fun ys s₂ => wpAny (model C.prog C.w) A (call b.val ys) Q E s₂) E s₁ := by
        refine wpAny_mono hargs ?_ fun _ _ e => e
        rintro ys s₂ ⟨us, H₂, β₂, _, a₂, vy, hp₂⟩
        exact appBI_ok a₂.inv P.room vy hp₂
      rw [hstar env] at key hany ⊢
      cases b
      case len => exact callWith_builtin hany (evalArgs_plain key)
      case all => exact callWith_builtin hany (evalArgs_plain key)
      case isinstance => exact callWith_builtin hany (evalArgs_plain key)
      all_goals exact PyProof.Rows.callWith_type hany (evalArgs_plain key)
  | _ => cases hcal

/-- what leaves a call reads the same, its lists told as they stand -/
theorem freeze_all {h : Heap} {m k : Nat} {ν : List Addr} (ih : ∀ {v : Value} {d x : AV}, VR C (β ++ ν) h v d → freeze m H k d = some x → VR C β h v x) :
    ∀ {vs : List Value} {l xs : List AV}, VRs C (β ++ ν) h vs l → l.mapM (freeze m H k) = some xs → VRs C β h vs xs
  | _, _, _, .nil, e => by cases e; exact .nil
  | _, _, _, .cons a r, e => by
    obtain ⟨y, ys, h1, h2, rfl⟩ := mapM_cons_some e
    exact .cons (ih a h1) (freeze_all ih r h2)
theorem freeze_ok {h : Heap} {ν : List Addr} (I : Inv C (β ++ ν) h H) : ∀ (k : Nat) {v : Value} {d x : AV}, VR C (β ++ ν) h v d → freeze β.length H k d = some x → VR C β h v x
  | 0, _, _, _, _, e => by cases e
  | k + 1, v, d, x, r, e => by
    have ih := fun {v : Value} {d x : AV} => freeze_ok (v := v) (d := d) (x := x) I k
    cases r with
    | none => cases e; exact .none
    | bool b => cases e; exact .bool b
    | int i t => cases e; exact .int i t
    | str y t => cases e; exact .str y t
    | tup ht hn hv =>
      simp only [freeze] at e
      obtain ⟨xs, h1, rfl⟩ := Option.map_eq_some_iff.mp e
      exact .tup ht (fun q => hn (List.mem_append_left _ q)) (freeze_all ih hv h1)
    | lst ht hn hv =>
      simp only [freeze] at e
      obtain ⟨xs, h1, rfl⟩ := Option.map_eq_some_iff.mp e
      exact .lst ht (fun q => hn (List.mem_append_left _ q)) (freeze_all ih hv h1)
    | @ref a i hb =>
      simp only [freeze] at e
      split at e
      · rename_i hi
        cases e
        rw [List.getElem?_append_left hi] at hb
        exact .ref hb
      · rename_i hi
        split at e
        · rename_i l hl
          obtain ⟨xs, h1, rfl⟩ := Option.map_eq_some_iff.mp e
          obtain ⟨items, hpl, hv⟩ := I.obj i a _ hb hl
          refine .lst hpl.isList (fun q => ?_) (freeze_all ih hv h1)
          obtain ⟨j, hj, e⟩ := List.getElem_of_mem q
          have h3 := List.getElem?_eq_some_iff.mp hb
          have h4 : (β ++ ν)[j]'(by simp; omega) = a := by rw [List.getElem_append_left hj]; exact e
          have : j = i := (List.getElem_inj I.nodup).mp (h4.trans h3.2.symm)
          omega
        · cases e
    | rng hr hn => cases e; exact .rng hr fun q => hn (List.mem_append_left _ q)
    | fn k => cases e; exact .fn k
    | cls k => cases e; exact .cls k
    | bi b q => cases e; exact .bi b q

/-- a call has ended: its frame is gone -/
theorem After.leave {s₁ : Shared} (hk : ∀ b o, s.heap.get? b = some o → s₁.heap.get? b = some o) (hs : ∃ h tk, s₁ = { s with heap := h, toks := tk }) (hnew : ∀ a, Own env a → s.heap.get? a = none) (af : After C (Own env) β s₁ β' s' H') : After C Nix β s β' s' H' := by
  obtain ⟨ν, hν, hf⟩ := af.grow.ext
  refine ⟨⟨⟨⟨ν, hν, fun a ha => ?_⟩, fun a o ho hn _ => af.grow.keep a o (hk a o ho) hn fun q => ?_, fun _ h => h.elim⟩, fun _ h => h.elim⟩, af.inv, ?_⟩
  · cases q : s.heap.get? a with
    | none => rfl
    | some o => have := hk a o q; rw [hf a ha] at this; cases this
  · rw [hnew a q] at ho; cases ho
  · obtain ⟨h, tk, rfl⟩ := hs
    obtain ⟨h', tk', rfl⟩ := af.same
    exact ⟨h', tk', rfl⟩
/-- values that name old objects alone -/
noncomputable def Old (m : Nat) : Nat → AV → Bool
  | 0, _ => false
  | n + 1, v => match v with
    | .tup l => l.all (Old m n)
    | .lst l => l.all (Old m n)
    | .ref i => decide (i < m)
    | _ => true
theorem drop_all {h : Heap} {ν : List Addr} {n : Nat} (ih : ∀ {v : Value} {d : AV}, VR C (β ++ ν) h v d → Old β.length n d = true → VR C β h v d) : ∀ {vs : List Value} {l : List AV}, VRs C (β ++ ν) h vs l → l.all (Old β.length n) = true → VRs C β h vs l
  | _, _, .nil, _ => .nil
  | _, _, .cons a r, e => by
    rw [List.all_cons, Bool.and_eq_true] at e
    exact .cons (ih a e.1) (drop_all ih r e.2)
theorem drop_one {h : Heap} {ν : List Addr} : ∀ (n : Nat) {v : Value} {d : AV}, VR C (β ++ ν) h v d → Old β.length n d = true → VR C β h v d
  | 0, _, _, _, e => nomatch e
  | n + 1, v, d, r, e => by
    cases r with
    | none => exact .none
    | bool b => exact .bool b
    | int i t => exact .int i t
    | str x t => exact .str x t
    | tup ht hn r => exact .tup ht (fun q => hn (List.mem_append_left _ q)) (drop_all (drop_one n) r e)
    | lst ht hn r => exact .lst ht (fun q => hn (List.mem_append_left _ q)) (drop_all (drop_one n) r e)
    | ref hb => exact .ref (by rw [List.getElem?_append_left (of_decide_eq_true e)] at hb; exact hb)
    | rng hr hn => exact .rng hr fun q => hn (List.mem_append_left _ q)
    | fn k => exact .fn k
    | cls k => exact .cls k
    | bi b q => exact .bi b q
mutual
theorem old_one {h : Heap} : ∀ {v : Value} {d : AV}, VR C β h v d → ∃ n, ∀ k, n ≤ k → Old β.length k d = true
  | _, _, r => by
    cases r with
    | tup _ _ r =>
      obtain ⟨n, hn⟩ := old_all r
      exact ⟨n + 1, fun k hk => by obtain ⟨j, rfl⟩ : ∃ j, k = j + 1 := ⟨k - 1, by omega⟩; exact hn j (by omega)⟩
    | lst _ _ r =>
      obtain ⟨n, hn⟩ := old_all r
      exact ⟨n + 1, fun k hk => by obtain ⟨j, rfl⟩ : ∃ j, k = j + 1 := ⟨k - 1, by omega⟩; exact hn j (by omega)⟩
    | ref hb => exact ⟨1, fun k hk => by obtain ⟨j, rfl⟩ : ∃ j, k = j + 1 := ⟨k - 1, by omega⟩; exact decide_eq_true (List.getElem?_eq_some_iff.mp hb).1⟩
    | _ => exact ⟨1, fun k hk => by obtain ⟨j, rfl⟩ : ∃ j, k = j + 1 := ⟨k - 1, by omega⟩; rfl⟩
theorem old_all {h : Heap} : ∀ {vs : List Value} {l : List AV}, VRs C β h vs l → ∃ n, ∀ k, n ≤ k → l.all (Old β.length k) = true
  | _, _, .nil => ⟨0, fun _ _ => rfl⟩
  | _, _, .cons a r => by
    obtain ⟨n, hn⟩ := old_one a
    obtain ⟨m, hm⟩ := old_all r
    exact ⟨n + m, fun k hk => by rw [List.all_cons, hn k (by omega), hm k (by omega)]; rfl⟩
end
/-- the objects that a call has made are let go of -/
theorem After.drop {ν : List Addr} {H₁ : AH} (I : Inv C β s.heap H) (af : After C Nix β s (β ++ ν) s' H₁) (hH : H₁.take H.length = H) : After C Nix β s β s' H := by
  refine ⟨⟨⟨⟨[], by simp, fun _ h => nomatch h⟩, fun a o ho hn _ => af.grow.keep a o ho hn id, fun _ h => h.elim⟩, fun _ h => h.elim⟩, ⟨I.len, I.nodup, fun i a ao h1 h2 => ?_, af.inv.base, I.fresh⟩, af.same⟩
  have hi := (List.getElem?_eq_some_iff.mp h1).1
  have hi' : i < H.length := I.len ▸ hi
  have e1 : (β ++ ν)[i]? = some a := by rw [List.getElem?_append_left hi]; exact h1
  have e2 : H₁[i]? = some ao := by rw [← h2, ← hH, List.getElem?_take, if_pos hi']
  have hnew := af.inv.obj i a ao e1 e2
  have hold := I.obj i a ao h1 h2
  cases ao with
  | list l =>
    obtain ⟨items, hpl, hv⟩ := hnew
    obtain ⟨items', _, hv'⟩ := hold
    obtain ⟨n, hn⟩ := old_all hv'
    exact ⟨items, hpl, drop_all (drop_one n) hv (hn n (Nat.le_refl n))⟩
  | dict l => exact hnew.elim
  | attrs l => exact hnew.elim

theorem bindL_skip {ko : Str → Option NameKind} {x : Str} : ∀ {bs : List (Str × Value)} {m : Str → Option Value}, x ∉ bs.map (·.1) → bindL ko bs m x = m x
  | [], _, _ => rfl
  | (y, v) :: r, m, h => by
    simp only [List.map_cons, List.mem_cons, not_or] at h
    rw [bindL, bindL_skip h.2]
    split
    · exact if_neg h.1
    · rfl
theorem bindC_skip {ko : Str → Option NameKind} {x : Str} : ∀ {bs : List (Str × Value)} {m : Str → Option Value}, x ∉ bs.map (·.1) → bindC ko bs m x = m x
  | [], _, _ => rfl
  | (y, v) :: r, m, h => by
    simp only [List.map_cons, List.mem_cons, not_or] at h
    rw [bindC, bindC_skip h.2]
    split
    · rfl
    · exact if_neg h.1
theorem bindL_get {ko : Str → Option NameKind} {x : Str} {v : Value} (hk : ko x = some .local) : ∀ {bs : List (Str × Value)} {m : Str → Option Value}, (bs.map (·.1)).Nodup → (x, v) ∈ bs → bindL ko bs m x = some v
  | [], _, _, h => nomatch h
  | (y, w) :: r, m, hn, h => by
    simp only [List.map_cons, List.nodup_cons] at hn
    rw [bindL]
    rcases List.mem_cons.mp h with e | h
    · cases e
      rw [bindL_skip hn.1, if_pos hk, if_pos rfl]
    · exact bindL_get hk hn.2 h
theorem bindC_get {ko : Str → Option NameKind} {x : Str} {v : Value} (hk : ko x ≠ some .local) : ∀ {bs : List (Str × Value)} {m : Str → Option Value}, (bs.map (·.1)).Nodup → (x, v) ∈ bs → bindC ko bs m x = some v
  | [], _, _, h => nomatch h
  | (y, w) :: r, m, hn, h => by
    simp only [List.map_cons, List.nodup_cons] at hn
    rw [bindC]
    rcases List.mem_cons.mp h with e | h
    · cases e
      rw [bindC_skip hn.1, if_neg hk, if_pos rfl]
    · exact bindC_get hk hn.2 h
theorem args0_some : ∀ {vs : List AV} {k i : Nat} {d : AV}, args0 vs k i = some d → k ≤ i ∧ vs[i - k]? = some d
  | [], _, _, _, h => by cases h
  | v :: r, k, i, d, h => by
    simp only [args0] at h
    split at h
    · rename_i e
      cases h; subst e
      simp
    · obtain ⟨h1, h2⟩ := args0_some h
      refine ⟨by omega, ?_⟩
      rw [show i - k = (i - (k + 1)) + 1 by omega]
      simpa using h2

theorem flow_val {h : Heap} : ∀ {w : Flow} {fl : Fl}, FlR C β h w fl → VR C β h (match w with | .ret v => v | _ => .none) fl.val
  | .next, .next, _ => .none
  | .ret _, .ret _, hf => hf
  | .next, .ret _, hf => hf.elim
  | .ret _, .next, hf => hf.elim
  | .brk, .next, hf => hf.elim
  | .brk, .ret _, hf => hf.elim
  | .cont, .next, hf => hf.elim
  | .cont, .ret _, hf => hf.elim
/-- a def of the text, told -/
structure DefOk (C : Cx) (k : Nat) (f : Fun) : Prop where
  ex : ∃ (o : Obj) (fd : FuncData) (body : List Stmt) (ps : List Str) (S : Sco), C.base.get? (C.fnv k) = some o ∧ o.data = .func fd ∧ fd.body = .stmts body ∧ fd.closure = [] ∧ C.base.CodeRec fd.code fd.qualname ∧
    fd.scope.kind = .function ∧ fd.scope.isGenerator = false ∧ fd.scope.isCoroutine = false ∧ fd.globals = mainGlobals ∧ fd.builtins = builtinsNs ∧
    ps.length = f.params ∧ ps.Nodup ∧ (∀ vals, vals.length = ps.length → bindArgs fd ⟨vals, []⟩ = pure (ps.zip vals)) ∧
    (∀ x ∈ ps, fd.scope.names.lookup x = some .local ∨ fd.scope.names.lookup x = some .cell) ∧
    (∀ x i, S.Γ.lookup x = some i → fd.scope.names.lookup x = some .local ∨ fd.scope.names.lookup x = some .cell) ∧
    (∀ x y i, S.Γ.lookup x = some i → S.Γ.lookup y = some i → x = y) ∧
    (∀ i x, ps[i]? = some x → S.Γ.lookup x = some i) ∧ (∀ x ∈ S.G, fd.scope.names.lookup x = some .globalImplicit) ∧ (∀ x ∈ S.K, fd.scope.names.lookup x = some .cell) ∧ (∀ x, fd.scope.names.lookup x ≠ some .free) ∧
    ∀ n Φ, FS C Φ n → SSs C n S body (f.body Φ)

theorem def_code (B : Base C mg mb) {k : Nat} {f : Fun} (D : DefOk C k f) {Φ : Fns} (hF : FS C Φ n) {A : Around} {xs : List Value} {vs : List AV} {Q : Value → Shared → Prop} (R : Room (n + 1) A) (K : Stk C A β s.heap) (I : Inv C β s.heap H) (vx : VRs C β s.heap xs vs)
    (hp : Pst C Nix (VR C) β s (f.run Φ vs H) Q E) : codeAny (model C.prog C.w) A (.call (.ref (C.fnv k)) ⟨xs, []⟩) (fun r s' => match r with | .ok (.ret v) => Q v s' | .ok _ => False | .error e => E e s') s := by
  obtain ⟨o, fd, body, ps, S, ho, hd, hbody, hclo, hcd, hkind, hgen, hco, hglob, hblt, hlen, hnd, hbind, hps, hΓ, hinj, hslot, hG, hK, hfree, hsound⟩ := D.ex
  unfold Fun.run at hp
  split at hp
  rotate_left
  · exact hp.elim
  rename_i hargs
  have hxl : xs.length = ps.length := by rw [vx.length, hargs, hlen]
  have hR : A.depth < recursionLimit := by have := R.depth; omega
  refine codeAny_call_cells hR (I.base _ _ ho) hd (B.nolimit.keeps I.base) (hcd.keeps I.base) hbody (hbind xs hxl) hclo ?_ ?_ hco hgen hkind
  · intro x hx
    have hx' : x.1 ∈ ps := by
      obtain ⟨a, b⟩ := x
      exact (List.of_mem_zip hx).1
    rcases hps x.1 hx' with h | h
    · exact .inl h
    · exact .inr ⟨h, PySem.W.cellsFrom_some _ _ _ (.inl h)⟩
  · intro s₁ ic
    generalize henv : callEnvC fd s.heap.objs.size (C.fnv k) = env at ic ⊢
    have hL : env.locals = s.heap.objs.size := by rw [← henv]; rfl
    have hko : ∀ x, env.kindOf x = fd.scope.names.lookup x := fun x => by rw [← henv]; rfl
    have hcells : env.cells = cellsFrom (s.heap.objs.size + 1) fd.scope.names [] := by rw [← henv]; rfl
    have fresh : ∀ a, s.heap.objs.size ≤ a → s.heap.get? a = none := fun a ha => by
      cases q : s.heap.get? a with
      | none => rfl
      | some o' => exact absurd (Heap.lt_size q) (Nat.not_lt.mpr ha)
    have hown : ∀ a, Own env a → s.heap.get? a = none := by
      rintro a (rfl | ⟨x, hx⟩)
      · rw [hL]; exact fresh _ (Nat.le_refl _)
      · have := ic.above x a (mem_of_lookup hx)
        rw [hL] at this
        exact fresh a (Nat.le_of_lt this)
    have hβ : ∀ a, Own env a → a ∉ β := fun a ha hm => by obtain ⟨o', ho'⟩ := I.live a hm; rw [hown a ha] at ho'; cases ho'
    have hbase : ∀ a, Own env a → C.base.get? a = none := fun a ha => by
      cases q : C.base.get? a with
      | none => rfl
      | some o' => have := I.base a o' q; rw [hown a ha] at this; cases this
    obtain ⟨h₁, tk₁, e₁⟩ := ic.toInCall.same
    have keep₁ := ic.toInCall.keep
    have a₁ : After C Nix β s β s₁ H := by
      have := I.keeps (s := s) (h' := s₁.heap) s₁.toks keep₁
      rw [e₁] at this ⊢; exact this
    have er : ER C S env β s₁.heap (args0 vs 0) := by
      refine ⟨by rw [← henv]; exact hkind, by rw [← henv]; exact hglob, by rw [← henv]; exact hblt, hβ _ (.inl rfl), hbase _ (.inl rfl), fun x hx => by rw [hko]; exact hG x hx, fun x hx => .inl (by rw [hko]; exact hK x hx), fun x c hc => ⟨⟨_, ic.cell x c hc⟩, hβ _ (.inr ⟨x, hc⟩), hbase _ (.inr ⟨x, hc⟩), ?_⟩,
        fun x y c hx hy => name_of_addr ic.apart (mem_of_lookup hx) (mem_of_lookup hy), hinj, _, ic.toInCall.ns, fun x i hx => ?_⟩
      · have := ic.above x c (mem_of_lookup hc); exact Nat.ne_of_gt this
      · -- what a parameter holds
        have hval : ∀ d, args0 vs 0 i = some d → ∃ y, (x, y) ∈ ps.zip xs ∧ VR C β s₁.heap y d := by
          intro d hd'
          obtain ⟨_, hv⟩ := args0_some hd'
          rw [Nat.sub_zero] at hv
          obtain ⟨y, hy, hr⟩ := vx.get hv
          have hi : i < ps.length := by rw [← hxl]; exact (List.getElem?_eq_some_iff.mp hy).1
          obtain ⟨z, hz⟩ : ∃ z, ps[i]? = some z := ⟨ps[i], List.getElem?_eq_getElem hi⟩
          have : z = x := hinj z x i (hslot i z hz) hx
          subst this
          refine ⟨y, List.mem_of_getElem? (i := i) ?_, hr.mono a₁.grow⟩
          rw [List.getElem?_zip_eq_some]; exact ⟨hz, hy⟩
        have hnz : ((ps.zip xs).map (·.1)).Nodup := by
          rw [List.map_fst_zip (by omega)]; exact hnd
        rcases hΓ x i hx with h | h
        · refine .inl ⟨by rw [hko]; exact h, ?_⟩
          cases hσ : args0 vs 0 i with
          | none => trivial
          | some d =>
            obtain ⟨y, hy, hr⟩ := hval d hσ
            exact ⟨y, bindL_get (by rw [hko]; exact h) hnz hy, hr⟩
        · obtain ⟨c, hc⟩ := Option.isSome_iff_exists.mp (PySem.W.cellsFrom_some (x := x) fd.scope.names (s.heap.objs.size + 1) [] (.inl h))
          rw [← hcells] at hc
          refine .inr ⟨.inl (by rw [hko]; exact h), c, _, hc, ic.cell x c hc, ?_⟩
          cases hσ : args0 vs 0 i with
          | none => trivial
          | some d =>
            obtain ⟨y, hy, hr⟩ := hval d hσ
            exact ⟨y, bindC_get (by rw [hko, h]; decide) hnz hy, hr⟩
    have pre : Pre C n (A.deeper env) S env β s₁ (args0 vs 0) H := by
      refine ⟨a₁.inv, er, ⟨R.handled, ?_, ?_⟩, ?_, ?_⟩
      · have := R.depth; show A.depth + 1 + n + 110 < recursionLimit; omega
      · have := R.units; show A.units + 3 + 8 * n + 200 < cLine; omega
      · obtain ⟨l, hl, kk⟩ := K.mono a₁.grow
        refine ⟨env :: l, Around.frames_deeper hl, fun e he => ?_⟩
        rcases List.mem_cons.mp he with rfl | he
        · refine ⟨er.kind, by rw [← henv]; exact hgen, by rw [← henv]; exact hco, er.builtins, er.globals, by rw [← henv]; rfl, er.notL, er.locB, ?_⟩
          obtain ⟨m, hm, _⟩ := er.vars
          exact ⟨m, hm⟩
        · exact kk e he
      · obtain ⟨l, hl, _⟩ := K
        rw [Around.frames_deeper hl]
        simp
    have nf : NoFree env := fun x => by rw [hko]; exact hfree x
    refine hsound n Φ hF (A.deeper env) env _ H β s₁ _ _ nf pre ?_
    cases hr : f.body Φ (args0 vs 0) H with
    | ok p H₁ =>
      rw [hr, Rs.bind_ok] at hp
      obtain ⟨fl, σ₁⟩ := p
      intro w s' β' af ⟨hf, er'⟩
      have al := After.leave keep₁ ⟨_, _, e₁⟩ hown af
      have hr' := flow_val hf
      dsimp only at hp ⊢
      split at hp
      · split at hp
        · rename_i hH
          split at hp
          · rename_i v' hv'
            obtain ⟨ν, rfl, _⟩ := al.grow.ext
            rw [← I.len] at hv'
            exact hp _ s' β (al.drop I hH) (freeze_ok al.inv 12 hr' hv')
          · exact hp.elim
        · exact hp.elim
      · exact hp _ s' β' al hr'
    | err x H₁ => rw [hr] at hp; exact hp
    | bad => rw [hr] at hp; exact hp

theorem fs_all (B : Base C mg mb) (t : Nat → Option Fun) (ht : ∀ k f, t k = some f → DefOk C k f) : ∀ n, FS C (fns t n) n
  | 0 => fun A k xs vs H β s Q E _ _ _ _ hp => hp.elim
  | n + 1 => fun A k xs vs H β s Q E R K I vx hp => by
    simp only [fns] at hp
    split at hp
    · rename_i f hf
      have D := ht k f hf
      refine ⟨?_, wpAny_call (def_code B D (fs_all B t ht n) R K I vx hp)⟩
      obtain ⟨o, fd, _, _, _, ho, hd, _⟩ := D.ex
      exact ⟨o, fd, ho, hd⟩
    · exact hp.elim
end
end Mine

namespace Mine
open PySem PyProof.Rows PySem.Calls PySem.SeqAt

section
variable {C : Cx} {n : Nat} {S S' : Sco} {env : Env} {β β' : List Addr} {s s' : Shared} {σ σ' : Loc} {H H' : AH} {A : Around} {E : Value → Shared → Prop} {mg mb : Str → Option Value} {Φ : Fns}

/-- the block of a comprehension within a frame -/
structure CompS (S S' : Sco) (scope : Scope) (x : Str) (k : Nat) : Prop where
  kind : scope.kind = .function
  nocell : ∀ y ∈ scope.names, y.2 ≠ .cell
  loc : scope.names.lookup x = some .local
  names : ∀ y ∈ scope.names, y.2 = .local → scope.names.lookup y.1 = some .local
  slot : S'.Γ.lookup x = some k
  vars : ∀ y i, S'.Γ.lookup y = some i → (y = x ∧ i = k) ∨ (scope.names.lookup y = some .free ∧ S.Γ.lookup y = some i ∧ i ≠ k)
  inj : ∀ y z i, S'.Γ.lookup y = some i → S'.Γ.lookup z = some i → y = z
  glo : ∀ y ∈ S'.G, scope.names.lookup y = some .globalImplicit
  cap : ∀ y ∈ S'.K, scope.names.lookup y = some .free
  free : ∀ y ∈ scope.names, y.2 = .free → y.1 ∈ S.K ∧ ∃ i, S.Γ.lookup y.1 = some i

theorem lookup_relabel {names : List (Str × NameKind)} {f : Str × NameKind → Bool} {x : Str} : (names.map fun p => if f p then (p.1, NameKind.cell) else p).lookup x = (names.lookup x).map fun k => if f (x, k) then .cell else k := by
  induction names with
  | nil => rfl
  | cons p r ih =>
    obtain ⟨y, k⟩ := p
    simp only [List.map_cons]
    cases hx : x == y with
    | true =>
      have := beq_iff_eq.mp hx; subst this
      split <;> rename_i hf
      · simp [List.lookup_cons, hf]
      · simp [List.lookup_cons, hf]
    | false =>
      split <;> simp only [List.lookup_cons, hx, ih]
theorem relabel_kind {scope : Scope} {x : Str} : (relabel scope env).names.lookup x = (scope.names.lookup x).map fun k => if (k == .free && env.scope.kind == .function && env.kindOf x == some .cell) then .cell else k :=
  lookup_relabel (f := fun p => p.2 == .free && env.scope.kind == .function && env.kindOf p.1 == some .cell)

/-- the cells that a block takes along -/
noncomputable def clOf (c : Str → Addr) : List (Str × NameKind) → List (Str × Addr) → List (Str × Addr)
  | [], acc => acc
  | (y, k) :: r, acc => clOf c r (if k == .free then (y, c y) :: acc else acc)
theorem closure_is {scope : Scope} (c : Str → Addr) (hc : ∀ y ∈ scope.names, y.2 = .free → env.cells.lookup y.1 = some (c y.1)) : closureFor scope env = pure (clOf c scope.names []) := by
  have go : ∀ (l : List (Str × NameKind)) (acc : List (Str × Addr)), (∀ y ∈ l, y.2 = .free → env.cells.lookup y.1 = some (c y.1)) →
      (forIn l acc fun (x : Str × NameKind) (r : List (Str × Addr)) => (if x.2 == .free then (do let a ← cellOf env x.1; pure (ForInStep.yield ((x.1, a) :: r))) else pure (ForInStep.yield r) : Sem _)) = pure (clOf c l acc) := by
    intro l
    induction l with
    | nil => intro acc _; rfl
    | cons p r ih =>
      intro acc hl
      obtain ⟨y, k⟩ := p
      rw [List.forIn_cons]
      by_cases hk : k = .free
      · subst hk
        have h1 : cellOf env y = pure (c y) := by unfold cellOf; rw [hl (y, .free) List.mem_cons_self rfl]
        simp only [beq_self_eq_true, if_true, h1]
        exact ih _ fun z hz => hl z (List.mem_cons_of_mem _ hz)
      · have hb : (k == NameKind.free) = false := by simpa using hk
        simp only [hb, Bool.false_eq_true, if_false]
        rw [clOf, hb]
        exact ih _ fun z hz => hl z (List.mem_cons_of_mem _ hz)
  unfold closureFor
  have := go scope.names [] hc
  have e : (forIn scope.names ([] : List (Str × Addr)) fun (x : Str × NameKind) (r : List (Str × Addr)) => (match x with | (name, kind) => (if kind == .free then (do let a ← cellOf env name; pure (ForInStep.yield ((name, a) :: r))) else pure (ForInStep.yield r)) : Sem _)) = pure (clOf c scope.names []) := this
  first
    | exact (congrArg (fun m : Sem (List (Str × Addr)) => m >>= fun r => pure r) e)
    | (rw [e]; rfl)
    | (trace_state; fail "shape")
theorem clOf_lookup (c : Str → Addr) : ∀ (l : List (Str × NameKind)) (acc : List (Str × Addr)) (y : Str) (a : Addr), (clOf c l acc).lookup y = some a → a = c y ∨ acc.lookup y = some a
  | [], acc, y, a, h => .inr h
  | (z, k) :: r, acc, y, a, h => by
    rw [clOf] at h
    rcases clOf_lookup c r _ y a h with h | h
    · exact .inl h
    · split at h
      · rw [List.lookup_cons] at h
        cases hz : y == z with
        | true => rw [hz] at h; cases h; rw [beq_iff_eq.mp hz]; exact .inl rfl
        | false => rw [hz] at h; exact .inr h
      · exact .inr h
theorem clOf_mem (c : Str → Addr) : ∀ (l : List (Str × NameKind)) (acc : List (Str × Addr)) (y : Str), ((y, NameKind.free) ∈ l ∨ (acc.lookup y).isSome = true) → ((clOf c l acc).lookup y).isSome = true
  | [], acc, y, h => h.elim (fun h => nomatch h) id
  | (z, k) :: r, acc, y, h => by
    rw [clOf]
    refine clOf_mem c r _ y ?_
    rcases h with h | h
    · rcases List.mem_cons.mp h with e | h
      · cases e; right; simp [List.lookup_cons]
      · exact .inl h
    · right
      split
      · rw [List.lookup_cons]; split <;> simp_all
      · exact h

/-- the frame of a block, where its variable holds the item -/
theorem ER.comp {scope : Scope} {x : Str} {k : Nat} {c : Str → Addr} {K : Addr} {m : Str → Option Value} {y : Value} {v : AV} {h : Heap} (cs : CompS S S' scope x k) (e : ER C S env β h σ) (hc : ∀ z ∈ scope.names, z.2 = .free → env.cells.lookup z.1 = some (c z.1))
    (hK : K ∉ β) (hKB : C.base.get? K = none) (hns : h.Ns K m) (hm : m x = some y) (vy : VR C β h y v) (hne : ∀ z a, env.cells.lookup z = some a → a ≠ K) : ER C S' (compEnvC scope (clOf c scope.names []) K env) β h (upd σ k v) := by
  have mem_free : ∀ z, scope.names.lookup z = some .free → (z, NameKind.free) ∈ scope.names := fun z hz => mem_of_lookup hz
  have hcell : ∀ z a, (clOf c scope.names []).lookup z = some a → scope.names.lookup z = some .free ∨ True → a = c z := fun z a hz _ => by
    rcases clOf_lookup c _ _ z a hz with h | h
    · exact h
    · cases h
  have inCl : ∀ (l : List (Str × NameKind)) (acc : List (Str × Addr)) (z : Str) (a : Addr), (clOf c l acc).lookup z = some a → (z, NameKind.free) ∈ l ∨ acc.lookup z = some a := by
    intro l
    induction l with
    | nil => intro acc z a h; exact .inr h
    | cons p r ih =>
      intro acc z a h
      obtain ⟨w, kd⟩ := p
      rw [clOf] at h
      rcases ih _ z a h with h | h
      · exact .inl (List.mem_cons_of_mem _ h)
      · split at h
        · rename_i hkd
          rw [List.lookup_cons] at h
          cases hz : z == w with
          | true =>
            rw [beq_iff_eq.mp hz, beq_iff_eq.mp hkd]; exact .inl List.mem_cons_self
          | false => rw [hz] at h; exact .inr h
        · exact .inr h
  have hcl : ∀ z a, (clOf c scope.names []).lookup z = some a → env.cells.lookup z = some a := fun z a hz => by
    rcases inCl _ _ z a hz with h | h
    · rw [hcell z a hz (.inr trivial)]; exact hc _ h rfl
    · cases h
  refine ⟨cs.kind, e.globals, e.builtins, hK, hKB, fun z hz => ?_, fun z hz => ?_, fun z a hz => ?_, fun z w a hz hw => e.apart z w a (hcl z a hz) (hcl w a hw), cs.inj, m, hns, fun z i hz => ?_⟩
  · show (relabel scope env).names.lookup z = _
    rw [relabel_kind, cs.glo z hz]; rfl
  · show (relabel scope env).names.lookup z = _ ∨ (relabel scope env).names.lookup z = _
    rw [relabel_kind, cs.cap z hz]
    simp only [Option.map_some]
    split
    · exact .inl rfl
    · exact .inr rfl
  · obtain ⟨h1, h2, h3, _⟩ := e.cell z a (hcl z a hz)
    exact ⟨h1, h2, h3, hne z a (hcl z a hz)⟩
  · rcases cs.vars z i hz with ⟨rfl, rfl⟩ | ⟨hf, hΓ, hik⟩
    · refine .inl ⟨?_, ?_⟩
      · show (relabel scope env).names.lookup z = _
        rw [relabel_kind, cs.loc]; rfl
      · rw [upd_self]; exact ⟨y, hm, vy⟩
    · refine .inr ⟨?_, ?_⟩
      · show (relabel scope env).names.lookup z = _ ∨ (relabel scope env).names.lookup z = _
        rw [relabel_kind, hf]
        simp only [Option.map_some]
        split
        · exact .inl rfl
        · exact .inr rfl
      · have hmem := mem_free z hf
        have hcz := hc _ hmem rfl
        obtain ⟨a, ha⟩ := Option.isSome_iff_exists.mp (clOf_mem c scope.names [] z (.inl hmem))
        have := hcl z a ha
        obtain ⟨m', _, hv⟩ := e.vars
        rw [upd_ne _ _ hik]
        rcases hv z i hΓ with ⟨hk, _⟩ | ⟨_, a', w, ha', hw, ho⟩
        · rcases e.cap z (cs.free _ hmem rfl).1 with h | h <;> rw [hk] at h <;> cases h
        · rw [this] at ha'; cases ha'
          exact ⟨a, w, ha, hw, ho⟩

/-- tests of a block -/
noncomputable def STf (C : Cx) (n : Nat) (S : Sco) (ifs : List Expr) (d : DT) : Prop :=
  ∀ A env σ H β s Q E, Pre C n A S env β s σ H → Pst C Nix BR β s (d σ H) Q E →
    wpAny (model C.prog C.w) A (forIn ifs true fun c r => if r = true then do let ok ← isTrue c env (eval c env); pure (ForInStep.yield ok) else pure (ForInStep.yield r)) Q E s
theorem STf.none : STf C n S [] tTrue := by
  intro A env σ H β s Q E P hp
  exact wpAny_tests_nil (hp.ok_here P.inv rfl)
theorem STf.one {e : Expr} {t : DT} (h : ST C n S e t) : STf C n S [e] t := by
  intro A env σ H β s Q E P hp
  exact wpAny_tests_one (h A env σ H β s Q E P hp)

theorem pokeNs {K : Addr} {m : Str → Option Value} {h h' : Heap} (hn : h.Ns K m) (hs : Heap.SameBut K h h') : Grow0 (fun a => a = K) β h β h' :=
  ⟨⟨[], by simp, fun _ h => nomatch h⟩, fun a o ho _ hx => ⟨o, by rw [hs.2 a hx]; exact ho, .refl _⟩, fun a ha => by
    subst ha
    obtain ⟨o, es, ep, ho, hd, _⟩ := hn
    exact ⟨o, ho, .inl ⟨es, ep, hd⟩⟩⟩

theorem compSrc_ok {elt iter : Expr} {x : Str} {px pos : Pos} {ifs : List Expr} {scope : Scope} {k : Nat} {d : DE} {t : DT} {c : Str → Addr} {src : AH → Option (List AV)} {J D K : Addr} {fp : List Addr} {St : Nat → Heap → Prop} {R : Result → Shared → Prop}
    (cs : CompS S S' scope x k) (he : SE C n S' elt d) (ht : STf C n S' ifs t) (P₁ : Pre C n A S env β s σ H) (hc : ∀ z ∈ scope.names, z.2 = .free → env.cells.lookup z.1 = some (c z.1)) (T : Itr C A β s.heap src J fp St) (N : Nat)
    {s₄ : Shared} {m₀ : Str → Option Value} (af₄ : After C Nix β s (β ++ [D]) s₄ (H ++ [.list []])) (st : St 0 s₄.heap) (hns : s₄.heap.Ns K m₀) (hJ : J ∉ β ++ [D]) (hK : K ∉ β ++ [D]) (hK0 : s.heap.get? K = none) (hKJ : K ≠ J) (hKf : K ∉ fp)
    (hR : match compSrc d t k σ H.length src N 0 (H ++ [.list []]) with
      | .ok _ H₂ => ∀ s' β₂, After C Nix β s β₂ s' H₂ → β₂[H.length]? = some D → (∃ m, s'.heap.Ns K m) → K ∉ β₂ → R (.ok .next) s'
      | _ => False) :
    codeAny (model C.prog C.w) A (.compLoop (.ListComp elt [⟨.Name x px, iter, ifs, 0⟩] scope pos) 0 (.ref J) (.ref D) (compEnvC scope (clOf c scope.names []) K env)) R s₄ := by
  have hBJ : C.base.get? J = none := by
    cases q : C.base.get? J with
    | none => rfl
    | some o => have := P₁.inv.base J o q; rw [T.new] at this; cases this
  have hBK : C.base.get? K = none := by
    cases q : C.base.get? K with
    | none => rfl
    | some o => have := P₁.inv.base K o q; rw [hK0] at this; cases this
  have hne : ∀ z a, env.cells.lookup z = some a → a ≠ K := fun z a hz q => by
    subst q
    obtain ⟨⟨_, o, ho, _⟩, _⟩ := P₁.env.cell z a hz
    rw [hK0] at ho; cases ho
  refine codeAny_compLoop_tests (fun m s' => ∃ j H' β', After C Nix β s β' s' H' ∧ St j s'.heap ∧ (∃ m, s'.heap.Ns K m) ∧ β'[H.length]? = some D ∧ J ∉ β' ∧ K ∉ β' ∧
    compSrc d t k σ H.length src N 0 (H ++ [.list []]) = compSrc d t k σ H.length src m j H') ?_ N
    ⟨0, _, _, af₄, st, ⟨_, hns⟩, by rw [← P₁.inv.len]; simp, hJ, hK, rfl⟩
  rintro m s' ⟨j, H', β', af, st', ⟨m', hns'⟩, hD, hJβ, hKβ, heq⟩
  cases m with
  | zero => simp only [compSrc] at heq; rw [heq] at hR; exact hR.elim
  | succ m =>
  simp only [compSrc] at heq
  cases hsrc : src H' with
  | none => rw [hsrc] at heq; rw [heq] at hR; exact hR.elim
  | some l =>
  rw [hsrc] at heq
  dsimp only at heq
  cases hd : l[j]? with
  | some e =>
    rw [hd] at heq
    dsimp only at heq
    refine T.item j s' _ _ _ _ e _ _ af.inv af.grow st' hsrc hd fun v h' tk hv st₁ hkeep => ?_
    have af₁ := af.poke (tk := tk) (T.grow0 (β := β') st' hkeep) hkeep T.new hJβ hBJ
    have hns₁ : h'.Ns K m' := by
      obtain ⟨o, es, ep, ho, hr⟩ := hns'
      exact ⟨o, es, ep, hkeep K o (by simpa using hKJ) ho, hr⟩
    have hv := hv.mono0 (T.grow0 (β := β') st' hkeep)
    dsimp only
    -- the variable
    refine wpAny_assign_Name (wpAny_storeName_local (m := m') ?_ hns₁ (fun h₂ hns₂ hs₂ => ?_) ?_)
    · show (relabel scope env).names.lookup x = _
      rw [relabel_kind, cs.loc]; rfl
    · have hs₂ : Heap.SameBut K h' h₂ := hs₂
      have hns₂ : h₂.Ns K _ := hns₂
      have af₂ := af₁.poke (tk := tk + 1) (pokeNs (β := β') hns₁ hs₂) (fun b o hb ho => by rw [hs₂.2 b (by simpa using hb)]; exact ho) hK0 hKβ hBK
      have st₂ : St (j + 1) h₂ := T.frame _ _ _ st₁ fun b hb o ho => by rw [hs₂.2 b (fun q => hKf (q ▸ hb))]; exact ho
      have hv := hv.mono0 (pokeNs (β := β') hns₁ hs₂)
      have er := P₁.env.mono af₂.grow
      have er' : ER C S' (compEnvC scope (clOf c scope.names []) K env) β' h₂ (upd σ k e) := ER.comp cs er hc hKβ hBK hns₂ (if_pos rfl) hv hne
      have pre : Pre C n A S' (compEnvC scope (clOf c scope.names []) K env) β' { s' with heap := h₂, toks := tk + 1 } (upd σ k e) H' := ⟨af₂.inv, er', P₁.room, P₁.stk.mono af₂.grow, P₁.ne⟩
      have hJl : ∃ o, h₂.get? J = some o := by obtain ⟨o, _, ho, _⟩ := T.obj _ _ st₂; exact ⟨o, ho⟩
      refine ht A _ _ H' β' _ _ _ pre ?_
      cases hc' : t (upd σ k e) H' with
      | ok b H₁ =>
        rw [hc', Rs.bind_ok] at heq
        intro b' s₃ β₃ af₃ hb'
        have hb' : b' = b := hb'
        subst hb'
        have pre₃ := pre.after af₃
        have st₃ := T.stays st₂ af₃.grow.toGrow0 (fun q => q.elim) hJβ fun b o ho hn => af₂.grow.notin ho hn
        have afs₃ := af₂.trans af₃
        have hJ₃ : J ∉ β₃ := by obtain ⟨o, ho⟩ := hJl; exact af₃.grow.notin ho hJβ
        have hK₃ : K ∉ β₃ := by obtain ⟨o, _, _, ho, _⟩ := hns₂; exact af₃.grow.notin ho hKβ
        have hns₃ : ∃ m, s₃.heap.Ns K m := ⟨_, Heap.Ns.kept hns₂ fun o ho => af₃.grow.keep K o ho hKβ id⟩
        have hD₃ : β₃[H.length]? = some D := by
          obtain ⟨ν, rfl, _⟩ := af₃.grow.ext
          rw [List.getElem?_append_left (List.getElem?_eq_some_iff.mp hD).1]; exact hD
        cases b' with
        | true =>
          simp only [if_true] at heq ⊢
          refine he A _ _ H₁ β₃ s₃ _ _ pre₃ ?_
          cases hx' : d (upd σ k e) H₁ with
          | ok u H₂ =>
            rw [hx', Rs.bind_ok] at heq
            intro y s₅ β₅ af₅ hy
            have st₅ := T.stays st₃ af₅.grow.toGrow0 (fun q => q.elim) hJ₃ fun b o ho hn => afs₃.grow.notin ho hn
            have afs₅ := afs₃.trans af₅
            have hJ₅ : J ∉ β₅ := by obtain ⟨o, _, ho, _⟩ := T.obj _ _ st₃; exact af₅.grow.notin ho hJ₃
            obtain ⟨mm, hnsm⟩ := hns₃
            have hK₅ : K ∉ β₅ := by obtain ⟨o, _, _, ho, _⟩ := id hnsm; exact af₅.grow.notin ho hK₃
            have hns₅ : s₅.heap.Ns K mm := Heap.Ns.kept hnsm fun o ho => af₅.grow.keep K o ho hK₃ id
            have hD₅ : β₅[H.length]? = some D := by
              obtain ⟨ν, rfl, _⟩ := af₅.grow.ext
              rw [List.getElem?_append_left (List.getElem?_eq_some_iff.mp hD₃).1]; exact hD₃
            cases hset : setAt H₂ (.ref H.length) (appF u) with
            | none => rw [hset] at heq; rw [heq] at hR; exact hR.elim
            | some H₃ =>
              rw [hset] at heq
              obtain ⟨i', l₂, l₂', e1, hl₂, hf, rfl⟩ := setAt_some hset
              cases e1
              obtain ⟨items, hpl, hvs⟩ := af₅.inv.obj _ _ _ hD₅ hl₂
              refine append_ok (n := n) (us := [u]) af₅.inv P₁.room hpl hvs (.cons hy .nil) hf fun h₆ items' tk₆ hsb hpl' hvs' => ?_
              have af₆ := af₅.inv.setList hD₅ hl₂ hsb hpl' hvs' tk₆
              have hDne : ∀ {a}, a ∉ β₅ → a ≠ D := fun ha q => ha (q ▸ List.mem_of_getElem? hD₅)
              refine ⟨m, Nat.lt_succ_self _, j + 1, _, β₅, afs₅.trans af₆, T.stays st₅ af₆.grow.toGrow0 (fun q => q.elim) hJ₅ fun b o ho hn => afs₅.grow.notin ho hn, ⟨mm, ?_⟩, hD₅, hJ₅, hK₅, heq⟩
              obtain ⟨o, es, ep, ho, hr⟩ := hns₅
              exact ⟨o, es, ep, by rw [hsb.2 K (hDne hK₅)]; exact ho, hr⟩
          | err z H₂ => rw [hx'] at heq; rw [heq] at hR; exact hR.elim
          | bad => rw [hx'] at heq; rw [heq] at hR; exact hR.elim
        | false =>
          simp only [Bool.false_eq_true, if_false] at heq ⊢
          exact ⟨m, Nat.lt_succ_self _, j + 1, _, β₃, afs₃, st₃, hns₃, hD₃, hJ₃, hK₃, heq⟩
      | err z H₁ => rw [hc'] at heq; rw [heq] at hR; exact hR.elim
      | bad => rw [hc'] at heq; rw [heq] at hR; exact hR.elim
    · have hk : (compEnvC scope (clOf c scope.names []) K env).scope.kind = ScopeKind.function := cs.kind
      rw [hk]; rfl
  | none =>
    rw [hd] at heq
    dsimp only at heq
    by_cases hlk : l.length = j
    case neg => rw [if_neg hlk] at heq; rw [heq] at hR; exact hR.elim
    rw [if_pos hlk] at heq
    refine T.done j s' _ _ _ _ _ _ af.inv af.grow st' hsrc hlk fun h' tk hkeep => ?_
    have af₁ := af.poke (tk := tk) (T.grow0 (β := β') st' hkeep) hkeep T.new hJβ hBJ
    rw [heq] at hR
    refine hR _ β' af₁ hD ⟨m', ?_⟩ hKβ
    obtain ⟨o, es, ep, ho, hr⟩ := hns'
    exact ⟨o, es, ep, hkeep K o (by simpa using hKJ) ho, hr⟩

theorem SE.comp {elt iter : Expr} {x : Str} {px pos : Pos} {ifs : List Expr} {scope : Scope} {k : Nat} {d it : DE} {t : DT} (hi : SE C n S iter it) (cs : CompS S S' scope x k) (he : SE C n S' elt d) (ht : STf C n S' ifs t) (hs : ∀ env x, foldedSetIterable iter env x = pure x := by intro _ _; rfl) :
    SE C n S (.ListComp elt [⟨.Name x px, iter, ifs, 0⟩] scope pos) (dComp d t k it) := by
  intro A env σ H β s Q E P hp
  rw [eval_ListComp]
  -- the cells
  obtain ⟨c, hc⟩ : ∃ c : Str → Addr, ∀ z ∈ scope.names, z.2 = .free → env.cells.lookup z.1 = some (c z.1) := by
    refine ⟨fun z => (env.cells.lookup z).getD 0, fun z hz hf => ?_⟩
    obtain ⟨h1, i, h2⟩ := cs.free z hz hf
    obtain ⟨m, _, hv⟩ := P.env.vars
    rcases hv z.1 i h2 with ⟨hk, _⟩ | ⟨_, a, w, ha, _⟩
    · rcases P.env.cap z.1 h1 with h | h <;> rw [hk] at h <;> cases h
    · simp [ha]
  refine wpAny_comprehension_free (use := none) rfl (hs env) (closure_is c hc) cs.kind cs.names ?_
  show wpAny _ A (eval iter env) _ _ s
  refine wpAny_mono (hi A env σ H β s _ E P (Pst.bind hp)) ?_ fun _ _ e => e
  rintro y s₁ ⟨v, H₁, β₁, _, a₁, vy, hp₁⟩
  have P₁ := P.after a₁
  -- what is gone through
  have key : ∃ (src : AH → Option (List AV)) (N : Nat), Pst C Nix (VR C) β₁ s₁ (compEnd H₁ (compSrc d t k σ H₁.length src N 0 (H₁ ++ [.list []]))) Q E ∧
      ∀ (Q' : Value → Shared → Prop) (E' : Value → Shared → Prop), (∀ J fp St s₂, After C Nix β₁ s₁ β₁ s₂ H₁ → Itr C A β₁ s₁.heap src J fp St → St 0 s₂.heap → J ∉ β₁ → Q' (.ref J) s₂) → wpAny (model C.prog C.w) A (pyIter y) Q' E' s₁ := by
    cases hl : iter? v with
    | none =>
      rw [hl] at hp₁
      dsimp only at hp₁
      cases v with
      | ref j =>
        dsimp only at hp₁
        cases hL : listOf? (H₁ ++ [.list []]) (.ref j) with
        | none => rw [compSrc_none hL] at hp₁; exact hp₁.elim
        | some l =>
          have hj : ∃ a, β₁[j]? = some a := by
            cases vy with
            | ref h => exact ⟨_, h⟩
          obtain ⟨a, hj⟩ := hj
          have hlt : j < H₁.length := by
            have := (List.getElem?_eq_some_iff.mp hj).1
            rw [a₁.inv.len] at this; exact this
          have hL' : listOf? H₁ (.ref j) = some l := by
            unfold listOf? at hL ⊢
            dsimp only at hL ⊢
            rw [List.getElem?_append_left hlt] at hL; exact hL
          exact ⟨_, 20000, hp₁, fun Q' E' hq => iterRef_ok a₁.inv P.room vy hL' hq⟩
      | _ => exact hp₁.elim
    | some l =>
      rw [hl] at hp₁
      dsimp only at hp₁
      refine ⟨fun _ => some l, l.length + 1, ?_, fun Q' E' hq => iter_ok a₁.inv P.room vy hl hq⟩
      rw [compSrc_go _ _ _ (by omega) (by omega)]
      exact hp₁
  obtain ⟨src, N, hp₁, hiter⟩ := key
  · refine hiter _ _ fun J fp St s₂ a₂ T st hJ => ?_
    have a₃ := a₂.inv.alloc (s := s₂) (o := { cls := .type "list", dict := none, data := .seq ([] : List Value).toArray }) (ao := .list []) s₂.toks rfl
      (fun β' h' g hg => ⟨#[], ⟨_, hg⟩, .nil⟩)
    refine wpAny_newObj_type (wpAny_newFunctionEnv cs.nocell (by intro y hy; simp at hy) (fun h₁ hns hsb => ?_) cs.kind)
    dsimp only at hns hsb ⊢
    generalize hH3 : s₂.heap.push { cls := .type "list", dict := none, data := .seq ([] : List Value).toArray } = h₃ at a₃ hns hsb ⊢
    -- the block's names
    have hKn : ∀ b o, h₃.get? b = some o → b ≠ h₃.objs.size := fun b o e => Nat.ne_of_lt (Heap.lt_size e)
    have k₄ : ∀ b o, h₃.get? b = some o → h₁.get? b = some o := fun b o e => by
      rw [hsb.2 b (hKn b o e)]; exact Heap.get?_push_of_some _ e
    have a₄ := a₃.inv.keeps (s := { s₂ with heap := h₃, toks := s₂.toks }) (h' := h₁) (s₂.toks + ([] : List (Str × Value)).length) k₄
    have a₁₄ := (a₂.trans a₃).trans a₄
    have hK₃ : h₃.get? h₃.objs.size = none := by
      cases q : h₃.get? h₃.objs.size with
      | none => rfl
      | some o => exact absurd rfl (hKn _ o q)
    have hK₁ : s₁.heap.get? h₃.objs.size = none := by
      cases q : s₁.heap.get? h₃.objs.size with
      | none => rfl
      | some o =>
        exfalso
        by_cases hm : h₃.objs.size ∈ β₁
        · obtain ⟨o', ho'⟩ := (a₂.trans a₃).inv.live _ (List.mem_append_left _ hm)
          exact hKn _ o' ho' rfl
        · obtain ⟨o', ho', _⟩ := (a₂.trans a₃).grow.keep _ o q hm id
          exact hKn _ o' ho' rfl
    have hJ₂ : ∃ o, s₂.heap.get? J = some o := by obtain ⟨o, _, ho, _⟩ := T.obj _ _ st; exact ⟨o, ho⟩
    have hJ₃ : J ∉ β₁ ++ [s₂.heap.objs.size] := by
      obtain ⟨o, ho⟩ := hJ₂
      exact a₃.grow.notin ho hJ
    have k₃ : ∀ b o, s₂.heap.get? b = some o → h₃.get? b = some o := fun b o e => by rw [← hH3]; exact Heap.get?_push_of_some _ e
    have hKβ : h₃.objs.size ∉ β₁ ++ [s₂.heap.objs.size] := fun hm => by
      obtain ⟨o, ho⟩ := a₃.inv.live _ hm
      exact hKn _ o ho rfl
    have hKf : h₃.objs.size ∉ fp := fun hm => by
      by_cases q : h₃.objs.size = J
      · obtain ⟨o, ho⟩ := hJ₂
        exact hKn _ o (k₃ _ o ho) q.symm
      · obtain ⟨h1, ⟨o, ho⟩, _⟩ := T.foot _ hm q
        rw [hK₁] at ho; cases ho
    have hKJ : h₃.objs.size ≠ J := fun q => by
      obtain ⟨o, ho⟩ := hJ₂
      exact hKn _ o (k₃ _ o ho) q.symm
    have st₄ : St 0 h₁ := T.frame _ _ _ st fun b _ o ho => k₄ b o (k₃ b o ho)
    have loop : codeAny (model C.prog C.w) A (.compLoop (.ListComp elt [⟨.Name x px, iter, ifs, 0⟩] scope pos) 0 (.ref J) (.ref s₂.heap.objs.size) (compEnvC scope (clOf c scope.names []) h₃.objs.size env))
        (compPost (model C.prog C.w) A E none Q (.ref s₂.heap.objs.size) h₃.objs.size) { s₂ with heap := h₁, toks := s₂.toks + ([] : List (Str × Value)).length } := by
      refine compSrc_ok cs he ht P₁ hc T N a₁₄ st₄ hns hJ₃ hKβ hK₁ hKJ hKf ?_
      unfold compEnd at hp₁
      cases hg : compSrc d t k σ H₁.length src N 0 (H₁ ++ [.list []]) with
      | ok u H₂ =>
        rw [hg, Rs.bind_ok] at hp₁
        intro s' β₂ af hD ⟨m, hm⟩ hK₂
        refine ⟨m, hm, fun h' hsb' => ?_⟩
        have hBK : C.base.get? h₃.objs.size = none := by
          cases q : C.base.get? h₃.objs.size with
          | none => rfl
          | some o => have := P₁.inv.base _ o q; rw [hK₁] at this; cases this
        have af' := af.poke (tk := s'.toks) (pokeNs (β := β₂) hm hsb') (fun b o hb ho => by rw [hsb'.2 b (by simpa using hb)]; exact ho) hK₁ hK₂ hBK
        split at hp₁
        · rename_i hH
          split at hp₁
          · rename_i w hw
            obtain ⟨ν, rfl, _⟩ := af'.grow.ext
            rw [← a₁.inv.len] at hw
            refine hp₁ _ _ β₁ (af'.drop a₁.inv hH) (freeze_ok af'.inv 12 (.ref ?_) hw)
            rw [a₁.inv.len]; exact hD
          · exact hp₁.elim
        · exact hp₁.elim
      | err z H₂ => rw [hg] at hp₁; exact hp₁.elim
      | bad => rw [hg] at hp₁; exact hp₁.elim
    exact codeAny_compStart_list loop (T.self 0 _ _ _ st₄ loop)
end
end Mine

namespace Mine
open PySem PyProof.Rows PySem.Calls PySem.SeqAt

theorem lookup_all {α : Type} {l : List (Str × α)} {p : Str × α → Bool} (h : l.all p = true) {x : Str} {i : α} (hx : l.lookup x = some i) : p (x, i) = true := List.all_eq_true.mp h _ (mem_of_lookup hx)
theorem slots_inj {Γ : List (Str × Nat)} (h : (Γ.map (·.2)).Nodup) {x y : Str} {i : Nat} (hx : Γ.lookup x = some i) (hy : Γ.lookup y = some i) : x = y := by
  have h1 := mem_of_lookup hx
  have h2 := mem_of_lookup hy
  obtain ⟨a, ha, e1⟩ := List.getElem_of_mem h1
  obtain ⟨b, hb, e2⟩ := List.getElem_of_mem h2
  have : a = b := by
    have ha' : a < (Γ.map (·.2)).length := by simpa using ha
    have hb' : b < (Γ.map (·.2)).length := by simpa using hb
    have q : (Γ.map (·.2))[a] = (Γ.map (·.2))[b] := by simp [e1, e2]
    exact (List.getElem_inj h).mp q
  subst this
  rw [e1] at e2
  exact (Prod.mk.inj e2).1

noncomputable def compCheck (S S' : Sco) (scope : Scope) (x : Str) (k : Nat) : Bool :=
  decide (scope.kind = .function) && scope.names.all (fun y => decide (y.2 ≠ .cell)) && decide (scope.names.lookup x = some .local) && scope.names.all (fun y => decide (y.2 = .local → scope.names.lookup y.1 = some .local)) && decide (S'.Γ.lookup x = some k) &&
  S'.Γ.all (fun p => decide ((p.1 = x ∧ p.2 = k) ∨ (scope.names.lookup p.1 = some .free ∧ S.Γ.lookup p.1 = some p.2 ∧ p.2 ≠ k))) && decide (S'.Γ.map (·.2)).Nodup && S'.G.all (fun y => decide (scope.names.lookup y = some .globalImplicit)) && S'.K.all (fun y => decide (scope.names.lookup y = some .free)) &&
  scope.names.all (fun y => decide (y.2 = .free → y.1 ∈ S.K ∧ (S.Γ.lookup y.1).isSome = true))
theorem CompS.of {S S' : Sco} {scope : Scope} {x : Str} {k : Nat} (h : compCheck S S' scope x k = true) : CompS S S' scope x k := by
  simp only [compCheck, Bool.and_eq_true] at h
  obtain ⟨⟨⟨⟨⟨⟨⟨⟨⟨h1, h2⟩, h3⟩, h4⟩, h5⟩, h6⟩, h7⟩, h8⟩, h9⟩, h10⟩ := h
  exact ⟨of_decide_eq_true h1, fun y hy => of_decide_eq_true (List.all_eq_true.mp h2 y hy), of_decide_eq_true h3, fun y hy => of_decide_eq_true (List.all_eq_true.mp h4 y hy), of_decide_eq_true h5, fun y i hy => of_decide_eq_true (lookup_all h6 hy),
    fun y z i hy hz => slots_inj (of_decide_eq_true h7) hy hz, fun y hy => of_decide_eq_true (List.all_eq_true.mp h8 y hy), fun y hy => of_decide_eq_true (List.all_eq_true.mp h9 y hy),
    fun y hy hf => by
      obtain ⟨q1, q2⟩ := of_decide_eq_true (List.all_eq_true.mp h10 y hy) hf
      exact ⟨q1, Option.isSome_iff_exists.mp q2⟩⟩

/-- a def's parts in the text -/
noncomputable def fdef (p : Program) (i : Nat) : Arguments × List Stmt × Scope := match p.main.body.getD i (.Pass default) with
  | .FunctionDef _ a b _ _ _ sc _ _ _ => (a, b, sc)
  | _ => (⟨[], [], none, [], [], none, []⟩, [], default)
noncomputable def fbody (p : Program) (i : Nat) : List Stmt := (fdef p i).2.1
noncomputable def fscope (p : Program) (i : Nat) : Scope := (fdef p i).2.2

noncomputable def fdOf (K : PySem.W.Frag) (a : Addr) : FuncData := match K.lookup a with
  | some ⟨_, _, .func fd, _⟩ => fd
  | _ => default
noncomputable def isFd (K : PySem.W.Frag) (a : Addr) : Bool := match K.lookup a with
  | some ⟨_, _, .func _, _⟩ => true
  | _ => false
noncomputable def addrOf (K : PySem.W.Frag) (x : Str) : Addr := match PySem.W.nsIn K mainGlobals x with
  | some (some (.ref a)) => a
  | _ => 0

noncomputable def scopeCheck (scope : Scope) (ps : List Str) (S : Sco) : Bool :=
  decide (scope.kind = .function) && !scope.isGenerator && !scope.isCoroutine && decide ps.Nodup && ps.all (fun x => decide (scope.names.lookup x = some .local ∨ scope.names.lookup x = some .cell)) &&
  S.Γ.all (fun p => decide (scope.names.lookup p.1 = some .local ∨ scope.names.lookup p.1 = some .cell)) && decide (S.Γ.map (·.2)).Nodup && (List.range ps.length).all (fun i => decide (S.Γ.lookup (ps.getD i "") = some i)) &&
  S.G.all (fun y => decide (scope.names.lookup y = some .globalImplicit)) && S.K.all (fun y => decide (scope.names.lookup y = some .cell)) && scope.names.all (fun y => decide (y.2 ≠ .free))

theorem DefOk.of {C : Cx} {k : Nat} {f : Fun} (K : PySem.W.Frag) (X : K.In C.base) (p : Program) (i : Nat) (ps : List Str) (S : Sco) (hfd : isFd K (C.fnv k) = true)
    (hbody : (fdOf K (C.fnv k)).body = .stmts (fbody p i)) (hscope : (fdOf K (C.fnv k)).scope = fscope p i) (hclo : (fdOf K (C.fnv k)).closure = []) (hcode : PySem.W.codeIn K (fdOf K (C.fnv k)).code (fdOf K (C.fnv k)).qualname = true)
    (hgl : (fdOf K (C.fnv k)).globals = mainGlobals) (hbl : (fdOf K (C.fnv k)).builtins = builtinsNs) (hps : ps.length = f.params) (hchk : scopeCheck (fscope p i) ps S = true)
    (hbind : ∀ vals, vals.length = ps.length → bindArgs (fdOf K (C.fnv k)) ⟨vals, []⟩ = pure (ps.zip vals)) (hs : ∀ n Φ, FS C Φ n → SSs C n S (fbody p i) (f.body Φ)) : DefOk C k f := by
  simp only [scopeCheck, Bool.and_eq_true] at hchk
  obtain ⟨⟨⟨⟨⟨⟨⟨⟨⟨⟨h1, h2⟩, h3⟩, h4⟩, h5⟩, h6⟩, h7⟩, h8⟩, h9⟩, h10⟩, h11⟩ := hchk
  have hl : ∃ o, K.lookup (C.fnv k) = some o ∧ o.data = .func (fdOf K (C.fnv k)) := by
    unfold isFd at hfd
    unfold fdOf
    split at hfd
    · rename_i a b fd c e
      rw [e]
      exact ⟨_, rfl, rfl⟩
    · cases hfd
  obtain ⟨o, ho, hd⟩ := hl
  refine ⟨o, _, fbody p i, ps, S, X _ _ ho, hd, hbody, hclo, PySem.W.codeRec_of X hcode, ?_, ?_, ?_, hgl, hbl, hps, of_decide_eq_true h4, hbind, ?_, ?_, fun x y i hx hy => slots_inj (of_decide_eq_true h7) hx hy, ?_, ?_, ?_, ?_, hs⟩
  all_goals (try rw [hscope])
  · exact of_decide_eq_true h1
  · simpa using h2
  · simpa using h3
  · exact fun x hx => of_decide_eq_true (List.all_eq_true.mp h5 x hx)
  · exact fun x i hx => of_decide_eq_true (lookup_all h6 hx)
  · intro i x hx
    have hi := (List.getElem?_eq_some_iff.mp hx).1
    have := of_decide_eq_true (List.all_eq_true.mp h8 i (List.mem_range.mpr hi))
    rw [List.getD_eq_getElem?_getD, hx] at this
    exact this
  · exact fun y hy => of_decide_eq_true (List.all_eq_true.mp h9 y hy)
  · exact fun y hy => of_decide_eq_true (List.all_eq_true.mp h10 y hy)
  · intro x hx
    have := of_decide_eq_true (List.all_eq_true.mp h11 _ (mem_of_lookup hx))
    exact this rfl
end Mine

namespace Mine
open PySem PySem.W PyProof.Rows PySem.Calls PySem.SeqAt

theorem ints_are {C : Cx} {β : List Addr} {h : Heap} : ∀ {vs : List Value} {ns : List Int}, IntsAre vs ns → VRs C β h vs (ns.map .int)
  | _, _, .nil => .nil
  | _, _, .cons _ _ r => .cons (.int _ _) (ints_are r)

/-- the law's call, tied to its abstract run -/
theorem law_code {C : Cx} {mg mb : Str → Option Value} (B : Base C mg mb) (t : Nat → Option Fun) (ht : ∀ k f, t k = some f → DefOk C k f) {k : Nat} {f : Fun} (hk : t k = some f) {s : Shared} (hs : s.heap = C.base) {l : Addr} {vs : List Value} {ns : List Int}
    (hl : s.heap.IsList l vs.toArray) (hi : IntsAre vs ns) {R : Result → Shared → Prop} (hrun : ∃ H', fns t 12 k [.lst (ns.map .int)] [] = .ok (.bool true) H')
    (hR : ∀ s', (∀ b o, s.heap.get? b = some o → s'.heap.get? b = some o) → s'.os = s.os → s'.gens = s.gens → R (.ok (.ret (.bool true))) s') :
    codeAny (model C.prog C.w) callerA (.call (.ref (C.fnv k)) ⟨[.ref l], []⟩) R s := by
  obtain ⟨H', hrun⟩ := hrun
  have hrun : f.run (fns t 11) [.lst (ns.map .int)] [] = .ok (.bool true) H' := by
    have e : fns t 12 k [.lst (ns.map .int)] [] = f.run (fns t 11) [.lst (ns.map .int)] [] := by
      show (match t k with | some f => f.run (fns t 11) [.lst (ns.map .int)] [] | none => .bad) = _
      rw [hk]
    rw [← e]; exact hrun
  have I : Inv C [] s.heap [] := ⟨rfl, List.nodup_nil, fun i a o h => by simp at h, fun a o e => by rw [hs]; exact e, fun a ha => nomatch ha⟩
  refine codeAny_mono (def_code (E := fun _ _ => False) (Q := fun v s' => R (.ok (.ret v)) s') B (ht k f hk) (fs_all B t ht 11) (n := 11) ⟨rfl, by decide, by decide⟩ ⟨[], rfl, fun _ h => nomatch h⟩ I (.cons (.lst hl (fun h => nomatch h) (by simpa using ints_are hi)) .nil) ?_) ?_
  · rw [hrun]
    intro x s' β' af hx
    have hx : x = .bool true := by
      cases hx with
      | bool _ => rfl
    subst hx
    obtain ⟨h, tk, e⟩ := af.same
    refine hR s' (fun b o hb => af.inv.base b o (by rw [← hs]; exact hb)) ?_ ?_
    · rw [e]
    · rw [e]
  · intro r s' h
    cases r with
    | ok f => cases f with
      | ret v => exact h
      | _ => exact h.elim
    | error e => exact h.elim

/-- a def's object in the written part -/
structure FdOk (K : Frag) (x : Str) (p : Program) (i : Nat) (ps : List Str) : Prop where
  isfd : isFd K (addrOf K x) = true
  body : (fdOf K (addrOf K x)).body = .stmts (fbody p i)
  scope : (fdOf K (addrOf K x)).scope = fscope p i
  clo : (fdOf K (addrOf K x)).closure = []
  code : codeIn K (fdOf K (addrOf K x)).code (fdOf K (addrOf K x)).qualname = true
  gl : (fdOf K (addrOf K x)).globals = mainGlobals
  bl : (fdOf K (addrOf K x)).builtins = builtinsNs
  bind : ∀ vals, vals.length = ps.length → bindArgs (fdOf K (addrOf K x)) ⟨vals, []⟩ = pure (ps.zip vals)
theorem FdOk.defOk {K : Frag} {x : Str} {p : Program} {i : Nat} {ps : List Str} (F : FdOk K x p i ps) {C : Cx} {k : Nat} {f : Fun} (X : K.In C.base) (hk : C.fnv k = addrOf K x) (S : Sco) (hps : ps.length = f.params) (hchk : scopeCheck (fscope p i) ps S = true) (hs : ∀ n Φ, FS C Φ n → SSs C n S (fbody p i) (f.body Φ)) : DefOk C k f :=
  DefOk.of K X p i ps S (by rw [hk]; exact F.isfd) (by rw [hk]; exact F.body) (by rw [hk]; exact F.scope) (by rw [hk]; exact F.clo) (by rw [hk]; exact F.code) (by rw [hk]; exact F.gl) (by rw [hk]; exact F.bl) hps hchk (by rw [hk]; exact F.bind) hs

theorem ar1 {P : List Value → Prop} (h : ∀ a, P [a]) : ∀ v : List Value, v.length = 1 → P v
  | [a], _ => h a
  | [], e => by simp at e
  | _ :: _ :: _, e => by simp at e
theorem arS {P : List Value → Prop} {n : Nat} (h : ∀ a, ∀ v : List Value, v.length = n → P (a :: v)) : ∀ v : List Value, v.length = n + 1 → P v
  | a :: v, e => h a v (by simpa using e)
  | [], e => by simp at e
noncomputable def isGlob (K : Frag) (x : Str) : Bool := match nsIn K mainGlobals x with
  | some (some (.ref _)) => true
  | _ => false
theorem isGlob_mg {K : Frag} {h : Heap} {mg : Str → Option Value} {x : Str} (X : K.In h) (G : h.Ns mainGlobals mg) (e : isGlob K x = true) : mg x = some (.ref (addrOf K x)) := by
  unfold isGlob at e
  unfold addrOf
  split at e
  · rename_i a q
    first
      | exact mg_of X G q
      | (rw [q]; exact mg_of X G q)
  · cases e
noncomputable def notGlob (K : Frag) (x : Str) : Bool := match nsIn K mainGlobals x with
  | some none => true
  | _ => false
theorem notGlob_mg {K : Frag} {h : Heap} {mg : Str → Option Value} {x : Str} (X : K.In h) (G : h.Ns mainGlobals mg) (e : notGlob K x = true) : mg x = none := by
  unfold notGlob at e
  split at e
  · rename_i q
    exact mg_none_of X G q
  · cases e
theorem good_true {c : ClaimW} {cl : Str → Option Addr} {mean : ExcName → Option Value} {args : List WData} {s₁ s' : Shared} (hn : ∀ cls, c.raises args cls = false) (hp : c.post args (.bool true) args = true) (hk : ∀ b o, s₁.heap.get? b = some o → s'.heap.get? b = some o) (hos : s'.os = s₁.os) (hg : s'.gens = #[]) :
    GoodWG c cl mean args s₁ (.ok (.ret (.bool true))) s' := GoodW.toG ⟨.inl ⟨_, .bool true, [], rfl, hn, .bool true, hp, unshared_nil⟩, hk, hos, hg⟩
end Mine

namespace Mine
open PySem PySem.W PyProof.Rows PySem.Calls PySem.SeqAt
set_option linter.unusedVariables false

section
variable {C : Cx} {n : Nat} {S : Sco} {env : Env} {β β' : List Addr} {s s' : Shared} {σ σ' : Loc} {H H' : AH} {A : Around} {E : Value → Shared → Prop} {Q : Value → Shared → Prop} {mg mb : Str → Option Value} {Φ : Fns}

/-- names of a tuple of targets -/
inductive TNs (S : Sco) : List Expr → List Nat → Prop
  | nil : TNs S [] []
  | cons {x : Str} {p : Pos} {i : Nat} {es : List Expr} {is : List Nat} : S.Γ.lookup x = some i → TNs S es is → TNs S (.Name x p :: es) (i :: is)
theorem TNs.length {es : List Expr} {is : List Nat} (h : TNs S es is) : (assignEach es env).length = is.length := by
  induction h with
  | nil => rfl
  | cons _ _ ih => simp only [assignEach, List.length_cons, ih]
theorem TNs.nostar {es : List Expr} {is : List Nat} (h : TNs S es is) : (assignEach es env).findIdx? (·.1) = none := by
  induction h with
  | nil => rfl
  | cons _ _ ih => simp only [assignEach, List.findIdx?_cons, ih]; rfl
theorem bindAll_length : ∀ {is : List Nat} {vs : List AV} {σ σ' : Loc}, bindAll is vs σ = some σ' → is.length = vs.length
  | [], [], _, _, _ => rfl
  | [], _ :: _, _, _, h => by cases h
  | _ :: _, [], _, _, h => by cases h
  | _ :: r, _ :: vs, _, _, h => by
    have := bindAll_length (is := r) (vs := vs) h
    simp [this]
theorem assignAll_ok {s₀ : Shared} (F : NoFree env) {es : List Expr} {is : List Nat} (h : TNs S es is) : ∀ {xs : List Value} {vs : List AV} {σ : Loc} {s : Shared} {Q : Unit → Shared → Prop}, After C (Own env) β s₀ β s H → ER C S env β s.heap σ → VRs C β s.heap xs vs → bindAll is vs σ = some σ' →
    (∀ s', After C (Own env) β s₀ β s' H → ER C S env β s'.heap σ' → Q () s') → wpAny (model C.prog C.w) A (assignInOrder ((assignEach es env).map (·.2)) xs) Q E s := by
  induction h with
  | nil =>
    intro xs vs σ s Q af er hv hb hq
    cases vs with
    | nil =>
      cases hv
      cases hb
      exact wpAny_assignInOrder_none (hq s af er)
    | cons _ _ => cases hb
  | @cons x p i es is hx _ ih =>
    intro xs vs σ s Q af er hv hb hq
    cases hv with
    | nil => cases hb
    | cons a r =>
      refine wpAny_assignInOrder_more (wpAny_assign_Name (store_ok af.inv er hx (F x) a fun s' af' er' => ?_))
      exact ih (af.trans af') er' (r.mono af'.grow) hb hq
theorem TG.many {es : List Expr} {is : List Nat} {k : Nat} {pos : Pos} (h : TNs S es is) : TG C S (.Tuple es k pos) (.many is) := by
  intro A env σ σ' H β s y v Q E hh F I er vx hb hq
  cases v with
  | tup vs =>
    cases vx with
    | tup ht hn hv =>
      have hlen := hv.length
      rw [Array.length_toList] at hlen
      refine wpAny_assign_Tuple hh ht (by rw [h.length, bindAll_length hb, hlen]) h.nostar fun h' hext => ?_
      have hk : ∀ b o, s.heap.get? b = some o → h'.get? b = some o := fun b o e => hext b o (Nat.ne_of_lt (Heap.lt_size e)) e
      have af₀ := I.keeps (s := s) s.toks hk
      have af := af₀.weaken er.own
      exact assignAll_ok F h af (er.mono af₀.grow) (hv.mono af₀.grow) hb hq
  | _ => cases hb

/-- several names at once -/
noncomputable def sAsgT (t : Tg) (a : DE) : DS := fun σ H => (a σ H).bind fun v H₁ => match t.bind v σ with
  | some σ₁ => .ok (.next, σ₁) H₁
  | none => .bad
end
end Mine

namespace Mine
open PySem PySem.W PyProof.Rows PySem.Calls PySem.SeqAt
set_option linter.unusedVariables false

/-- isinstance against a tuple of built-in types -/
noncomputable def isiTOp (H : AH) (v : AV) : List BI → Option Bool
  | [] => some false
  | t :: r => match isiOp H v t, isiTOp H v r with
    | some b, some c => some (b || c)
    | _, _ => none
noncomputable def dIsiT (d : DE) (ts : List BI) : DE := fun σ H => (d σ H).bind fun x H₁ => toR H₁ ((isiTOp H₁ x ts).map .bool)
/-- slices by bounds that are not below nought -/
noncomputable def cut (l : List AV) (lo hi : Option Int) : List AV := (l.take (match hi with | some i => i.toNat | none => l.length)).drop (match lo with | some i => i.toNat | none => 0)
noncomputable def okB : Option Int → Bool
  | some i => decide (0 ≤ i) && decide (i ≤ 1048576)
  | none => true
noncomputable def slcOp (H : AH) (v : AV) (lo hi : Option Int) : Option AV := if okB lo && okB hi then (match v with
  | .tup l => if l.length ≤ 1048576 then some (.tup (cut l lo hi)) else none
  | v => match listOf? H v with
    | some l => if l.length ≤ 1048576 then some (.lst (cut l lo hi)) else none
    | none => none) else none
noncomputable def evPart : Option DE → Loc → AH → Rs (Option Int)
  | none, _, H => .ok none H
  | some d, σ, H => (d σ H).bind fun x H₁ => match x with
    | .int i => .ok (some i) H₁
    | _ => .bad
noncomputable def dSl (a : DE) (lo hi : Option DE) : DE := fun σ H => (a σ H).bind fun x H₁ => (evPart lo σ H₁).bind fun l H₂ => (evPart hi σ H₂).bind fun u H₃ => toR H₃ (slcOp H₃ x l u)

section
variable {C : Cx} {n : Nat} {S : Sco} {env : Env} {β β' : List Addr} {s s' : Shared} {σ σ' : Loc} {H H' : AH} {A : Around} {E : Value → Shared → Prop} {Q : Value → Shared → Prop} {mg mb : Str → Option Value} {Φ : Fns}

set_option maxHeartbeats 2000000 in
theorem isi_ans (I : Inv C β s.heap H) {x : Value} {v : AV} (vx : VR C β s.heap x v) {t₀ : BI} {b₀ : Bool} (h₀ : isiOp H v t₀ = some b₀) : ∃ Tx, s.TypeIs x Tx ∧ ∀ t b, isiOp H v t = some b → Answers (fun s => s.TypeIs x Tx) x t.val b := by
  have lst : ∀ {a : Addr} {items : Array Value}, s.heap.IsList a items → ∀ t b, isiL t = some b → Answers (fun s => s.TypeIs (.ref a) "list") (.ref a) t.val b := by
    intro a items hl t b h
    cases t <;> first | (cases h; done) | skip
    · cases h; exact .of_false_list (by decide +kernel) F.isi_meta_int F.sub_list_int
    · cases h; exact .of_false_list (by decide +kernel) F.isi_meta_str F.sub_list_str
    · cases h; exact .of_true F.isi_meta_list F.sub_list_list
    · cases h; exact .of_false_list (by decide +kernel) F.isi_meta_tuple F.sub_list_tuple
    · cases h; exact .of_false_list (by decide +kernel) F.isi_meta_bool F.sub_list_bool
  cases vx with
  | none =>
    refine ⟨"NoneType", rfl, fun t b h => ?_⟩
    cases t <;> first | (cases h; done) | skip
    · cases h; exact .of_false_none (by decide +kernel) F.isi_meta_int F.sub_NoneType_int
    · cases h; exact .of_false_none (by decide +kernel) F.isi_meta_str F.sub_NoneType_str
    · cases h; exact .of_false_none (by decide +kernel) F.isi_meta_list F.sub_NoneType_list
    · cases h; exact .of_false_none (by decide +kernel) F.isi_meta_tuple F.sub_NoneType_tuple
    · cases h; exact .of_false_none (by decide +kernel) F.isi_meta_bool F.sub_NoneType_bool
  | bool c =>
    refine ⟨"bool", rfl, fun t b h => ?_⟩
    cases t <;> first | (cases h; done) | skip
    · cases h; exact .of_true F.isi_meta_int F.sub_bool_int
    · cases h; exact .of_false_bool (by decide +kernel) F.isi_meta_str F.sub_bool_str
    · cases h; exact .of_false_bool (by decide +kernel) F.isi_meta_list F.sub_bool_list
    · cases h; exact .of_false_bool (by decide +kernel) F.isi_meta_tuple F.sub_bool_tuple
    · cases h; exact .of_true F.isi_meta_bool F.sub_bool_bool
  | int i t' =>
    refine ⟨"int", rfl, fun t b h => ?_⟩
    cases t <;> first | (cases h; done) | skip
    · cases h; exact .of_true F.isi_meta_int F.sub_int_int
    · cases h; exact .of_false_int (by decide +kernel) F.isi_meta_str F.sub_int_str
    · cases h; exact .of_false_int (by decide +kernel) F.isi_meta_list F.sub_int_list
    · cases h; exact .of_false_int (by decide +kernel) F.isi_meta_tuple F.sub_int_tuple
    · cases h; exact .of_false_int (by decide +kernel) F.isi_meta_bool F.sub_int_bool
  | str y t' =>
    refine ⟨"str", rfl, fun t b h => ?_⟩
    cases t <;> first | (cases h; done) | skip
    · cases h; exact .of_false_str (by decide +kernel) F.isi_meta_int F.sub_str_int
    · cases h; exact .of_true F.isi_meta_str F.sub_str_str
    · cases h; exact .of_false_str (by decide +kernel) F.isi_meta_list F.sub_str_list
    · cases h; exact .of_false_str (by decide +kernel) F.isi_meta_tuple F.sub_str_tuple
    · cases h; exact .of_false_str (by decide +kernel) F.isi_meta_bool F.sub_str_bool
  | tup ht _ _ =>
    refine ⟨"tuple", Heap.IsTuple.typeIs' ht, fun t b h => ?_⟩
    cases t <;> first | (cases h; done) | skip
    · cases h; exact .of_false_tuple (by decide +kernel) F.isi_meta_int F.sub_tuple_int
    · cases h; exact .of_false_tuple (by decide +kernel) F.isi_meta_str F.sub_tuple_str
    · cases h; exact .of_false_tuple (by decide +kernel) F.isi_meta_list F.sub_tuple_list
    · cases h; exact .of_true F.isi_meta_tuple F.sub_tuple_tuple
    · cases h; exact .of_false_tuple (by decide +kernel) F.isi_meta_bool F.sub_tuple_bool
  | lst hl _ _ => exact ⟨"list", hl.typeIs, fun t b h => lst hl t b h⟩
  | ref hb =>
    simp only [isiOp] at h₀
    split at h₀
    · rename_i l hl
      obtain ⟨a, items, e, hl', _⟩ := list_at I (.ref hb) hl
      cases e
      refine ⟨"list", hl'.typeIs, fun t b h => lst hl' t b ?_⟩
      simp only [isiOp, hl] at h
      exact h
    · cases h₀
  | _ => cases h₀
theorem isiT_all {P : Shared → Prop} {x : Value} {v : AV} (ha : ∀ t b, isiOp H v t = some b → Answers P x t.val b) : ∀ {ts : List BI} {b : Bool}, isiTOp H v ts = some b → ∃ vs, AnswersAll P x (ts.map BI.val) vs ∧ vs.any id = b
  | [], b, h => by cases h; exact ⟨[], trivial, rfl⟩
  | t :: r, b, h => by
    simp only [isiTOp] at h
    cases h1 : isiOp H v t with
    | none => rw [h1] at h; cases h
    | some c => cases h2 : isiTOp H v r with
      | none => rw [h1, h2] at h; cases h
      | some d =>
        rw [h1, h2] at h
        cases h
        obtain ⟨vs, hv, e⟩ := isiT_all ha h2
        exact ⟨c :: vs, ⟨ha t c h1, hv⟩, by rw [List.any_cons, e]; rfl⟩
theorem bis_vals {h : Heap} : ∀ {xs : List Value} {ts : List BI}, VRs C β h xs (ts.map .bi) → xs = ts.map BI.val
  | [], [], _ => rfl
  | [], _ :: _, r => by cases r
  | _ :: _, [], r => by cases r
  | x :: xs, t :: ts, r => by
    cases r with
    | cons a r => cases a with | bi _ e => rw [e, bis_vals r]; rfl
theorem dEach_bis {σ : Loc} {H : AH} : ∀ ts : List BI, dEach (ts.map fun t => dCst (.bi t)) σ H = .ok (ts.map .bi) H
  | [] => rfl
  | t :: r => by
    show ((Rs.ok _ _ : Rs AV).bind _) = _
    rw [Rs.bind_ok, dEach_bis r]; rfl
theorem SE.isiT {func e : Expr} {es : List Expr} {k : Nat} {p pos : Pos} {d : DE} {t₀ : BI} {ts : List BI} (hf : SE C n S func (dCst (.bi .isinstance))) (he : SE C n S e d) (ht : SEs C n S es ((t₀ :: ts).map fun t => dCst (.bi t)))
    (hc : ∀ env, eval (.Call func [e, .Tuple es k p] [] pos) env = (do callWith pos (← eval func env) [] (backTo pos (starEach [e, .Tuple es k p] env)) (backToKw pos (keywordEach [] env))) := by intro _; rfl)
    (hstar : ∀ env, starEach [e, .Tuple es k p] env = (false, eval e env) :: starEach [.Tuple es k p] env := by intro _; rfl)
    (hplain : ∀ env, (backTo pos (starEach [e, .Tuple es k p] env)).any (·.1) = false := by intro _; rfl) (hl : (t₀ :: ts).length ≤ 1048576 := by exact Nat.le_of_ble_eq_true rfl) :
    SE C n S (.Call func [e, .Tuple es k p] [] pos) (dIsiT d (t₀ :: ts)) := by
  intro A env σ H β s Q E P hp
  refine Call_ (wpAny_mono (hf A env σ H β s (fun x s₁ => ∃ β₁, After C Nix β s β₁ s₁ H ∧ VR C β₁ s₁.heap x (.bi .isinstance)) E P (fun x s' β' a hx => ⟨β', a, hx⟩)) ?_ fun _ _ e => e) (hc env)
  rintro x s₁ ⟨β₁, a₁, vx⟩
  cases vx with
  | bi _ e' =>
    subst e'
    have hp₁ := Pst.shift a₁ hp
    have hany := hplain env
    have key : wpAny (model C.prog C.w) A (spliced (backTo pos (starEach [e, .Tuple es k p] env))) (fun ys s₂ => wpAny (model C.prog C.w) A (call (.builtin "isinstance") ys) Q E s₂) E s₁ := by
      refine wpAny_items_cons (wpAny_mono (he A env σ H β₁ s₁ _ E (P.after a₁) (Pst.bind hp₁)) ?_ fun _ _ e => e) (hstar env)
      rintro y s₂ ⟨v, H₂, β₂, _, a₂, vy, hp₂⟩
      obtain ⟨b₀, hb₀, hp₃⟩ := pst_some hp₂
      obtain ⟨b, hb, e₀⟩ := Option.map_eq_some_iff.mp hb₀
      subst e₀
      refine wpAny_items_cons (wpAny_Tuple (wpAny_mono (ht A env σ H₂ β₂ s₂ (fun xs s₃ => ∃ β₃, After C Nix β₂ s₂ β₃ s₃ H₂ ∧ VRs C β₃ s₃.heap xs ((t₀ :: ts).map .bi)) E p ((P.after a₁).after a₂) ?_) ?_ fun _ _ e => e)) rfl
      · rw [dEach_bis]
        exact fun x s' β' a hx => ⟨β', a, hx⟩
      · rintro xs s₃ ⟨β₃, a₃, vxs⟩
        have e := bis_vals vxs
        subst e
        refine ⟨by rw [List.length_map]; exact Nat.le_trans hl (by decide), wpAny_items_nil ?_⟩
        have a₄ := a₃.inv.push (s := s₃) { cls := .type "tuple", data := .seq ((t₀ :: ts).map BI.val).toArray } s₃.toks
        have vy' := (vy.mono a₃.grow).mono a₄.grow
        have h1 : ∃ c, isiOp H₂ v t₀ = some c := by
          cases q : isiOp H₂ v t₀ with
          | some c => exact ⟨c, rfl⟩
          | none => simp only [isiTOp, q] at hb; cases hb
        obtain ⟨c, hc⟩ := h1
        obtain ⟨Tx, hT, ha⟩ := isi_ans a₄.inv vy' hc
        obtain ⟨vs, hv, e⟩ := isiT_all ha hb
        refine IsiPair.tupleOf (tp := s₃.heap.objs.size) hv hT (Heap.get?_push_size _ rfl) fun tk => ?_
        rw [e]
        have a₅ := a₄.inv.toks tk
        exact hp₃ _ _ _ (a₃.trans (a₄.trans a₅)) (.bool b)
    rw [hstar env] at key hany ⊢
    exact callWith_builtin hany (evalArgs_plain key)

/-- slices -/
noncomputable def PR (_ : List Addr) (_ : Heap) (v : Value) (k : Option Int) : Prop := IsPart v k
noncomputable def SP (C : Cx) (n : Nat) (S : Sco) (x : Option Expr) (d : Option DE) : Prop :=
  ∀ A env σ H β s Q E, Pre C n A S env β s σ H → Pst C Nix PR β s (evPart d σ H) Q E → wpAny (model C.prog C.w) A (evalPart x env) Q E s
theorem SP.none : SP C n S none none := by
  intro A env σ H β s Q E P hp
  exact wpAny_pure (hp.ok_here P.inv IsPart.none)
theorem SP.some {e : Expr} {d : DE} (h : SE C n S e d) : SP C n S (some e) (some d) := by
  intro A env σ H β s Q E P hp
  rw [evalPart_some]
  refine wpAny_mono (h A env σ H β s _ E P (Pst.bind hp)) ?_ fun _ _ e => e
  rintro x s₁ ⟨v, H₁, β₁, _, a₁, vx, hp₁⟩
  cases v with
  | int i =>
    obtain ⟨t, rfl⟩ := vx.int_inv
    exact hp₁.ok_here a₁.inv (IsPart.int i t)
  | _ => exact hp₁.elim

theorem okB_some {i : Int} (h : okB (some i) = true) : 0 ≤ i ∧ i ≤ 1048576 := by
  simp only [okB, Bool.and_eq_true, decide_eq_true_eq] at h
  exact h
noncomputable def loN : Option Int → Nat
  | some i => i.toNat
  | none => 0
noncomputable def hiN (m : Nat) : Option Int → Nat
  | some i => i.toNat
  | none => m
theorem cut_eq {α : Type} (l : List α) (a b : Nat) : (l.drop (min a l.length)).take (min b l.length - min a l.length) = (l.take b).drop a := by
  have h1 : l.take (min b l.length) = l.take b := by
    by_cases hb : b ≤ l.length
    · rw [Nat.min_eq_left hb]
    · rw [Nat.min_eq_right (Nat.le_of_not_le hb), List.take_of_length_le (Nat.le_refl _), List.take_of_length_le (Nat.le_of_not_le hb)]
  rw [← List.drop_take, h1]
  by_cases ha : a ≤ l.length
  · rw [Nat.min_eq_left ha]
  · have hl : (l.take b).length ≤ l.length := by simp; omega
    rw [Nat.min_eq_right (Nat.le_of_not_le ha), List.drop_of_length_le hl, List.drop_of_length_le (by omega)]
theorem VRs.cut {h : Heap} {vs : List Value} {l : List AV} (hv : VRs C β h vs l) (lo hi : Option Int) : VRs C β h ((vs.take (hiN vs.length hi)).drop (loN lo)) (Mine.cut l lo hi) := by
  have : Mine.cut l lo hi = (l.take (hiN l.length hi)).drop (loN lo) := by
    unfold Mine.cut
    cases lo <;> cases hi <;> rfl
  rw [this, hv.length]
  exact (hv.take _).drop _
theorem clip_nat {i : Int} (h : 0 ≤ i) (m : Nat) : min i (m : Int) = ((min i.toNat m : Nat) : Int) := by omega
theorem clip_max (k : Nat) : max (0 : Int) (k : Int) = k := by omega
theorem lo_nat (m : Nat) : (0 : Int) = ((min 0 m : Nat) : Int) := by simp
theorem hi_nat (m : Nat) : (m : Int) = ((min m m : Nat) : Int) := by simp
theorem bounds_nat {lo hi : Option Int} (h1 : okB lo = true) (h2 : okB hi = true) (m : Nat) : sliceBounds lo hi none m = (((min (loN lo) m : Nat) : Int), ((min (hiN m hi) m : Nat) : Int), 1) := by
  have key : ∀ (v : Option Int) (dflt : Int), okB v = true → (match v with | none => dflt | some i => (let i := if i < 0 then i + (m : Int) else i; if (1 : Int) > 0 then max 0 (min i m) else max (-1) (min i ((m : Int) - 1)))) = (match v with | none => dflt | some i => ((min i.toNat m : Nat) : Int)) := by
    intro v dflt hv
    cases v with
    | none => rfl
    | some i =>
      have := okB_some hv
      dsimp only
      rw [if_neg (show ¬ (i < 0) by omega), if_pos (by decide), clip_nat this.1, clip_max]
  have e1 := key lo 0 h1
  have e2 := key hi m h2
  refine Prod.ext (Eq.trans e1 ?_) (Prod.ext (Eq.trans e2 ?_) rfl)
  · cases lo with
    | none => exact lo_nat m
    | some i => rfl
  · cases hi with
    | none => exact hi_nat m
    | some i => rfl
theorem pick_cut {lo hi : Option Int} (h1 : okB lo = true) (h2 : okB hi = true) (items : Array Value) : (slicePick items lo hi none).toList = (items.toList.take (hiN items.toList.length hi)).drop (loN lo) := by
  unfold slicePick
  rw [bounds_nat h1 h2]
  simp only [sliceRange_one, pick_run]
  have := cut_eq items.toList (loN lo) (hiN items.size hi)
  rw [Array.length_toList] at this ⊢
  exact this
theorem adjust_nat {lo hi : Option Int} (h1 : okB lo = true) (h2 : okB hi = true) (m : Nat) : Builtin.Slice.sliceAdjust lo hi 1 (m : Int) = (((min (loN lo) m : Nat) : Int), ((min (hiN m hi) m : Nat) : Int)) := by
  have key : ∀ (v : Option Int) (dflt : Int), okB v = true → (match v with | none => dflt | some i => (if i < 0 then max (i + (m : Int)) 0 else min i (m : Int))) = (match v with | none => dflt | some i => ((min i.toNat m : Nat) : Int)) := by
    intro v dflt hv
    cases v with
    | none => rfl
    | some i =>
      have := okB_some hv
      dsimp only
      rw [if_neg (show ¬ (i < 0) by omega), clip_nat this.1]
  have e1 := key lo 0 h1
  have e2 := key hi m h2
  refine Prod.ext (Eq.trans e1 ?_) (Eq.trans e2 ?_)
  · cases lo with
    | none => exact lo_nat m
    | some i => rfl
  · cases hi with
    | none => exact hi_nat m
    | some i => rfl
theorem places_nat (a b : Nat) : Builtin.Slice.slicePlaces (a : Int) (b : Int) 1 = b - a := by
  unfold Builtin.Slice.slicePlaces
  have h1 : (1 : Int) > 0 := by omega
  simp only [h1, if_true, Int.ediv_one]
  split <;> omega
theorem slicePart_ok {v : Value} {k : Option Int} {Q : Option Int → Shared → Prop} (p : IsPart v k) (h : Q k s) : wpAny (model C.prog C.w) A (Builtin.Slice.slicePartIndex v) Q E s := by
  cases p with
  | none => exact slicePart_none h
  | int i t => exact slicePart_int h
theorem sliceApplied_ok {sl : Addr} {m : Nat} {vl vu : Value} {lo hi : Option Int} {Q : Int × Int × Nat → Shared → Prop} (h1 : okB lo = true) (h2 : okB hi = true) (hs : s.heap.IsSliceOf sl vl vu .none) (pl : IsPart vl lo) (pu : IsPart vu hi)
    (h : Q (((min (loN lo) m : Nat) : Int), 1, min (hiN m hi) m - min (loN lo) m) s) :
    wpAny (model C.prog C.w) A (Builtin.Slice.sliceApplied (.ref sl) (pure (m : Int))) Q E s := by
  obtain ⟨os, hos, hcs, hds⟩ := id hs
  unfold Builtin.Slice.sliceApplied Builtin.Slice.sliceFields
  refine wpAny_bind (wpAny_bind (wpAny_field hos hds (x := vl) rfl (wpAny_bind (wpAny_field hos hds (x := vu) rfl (wpAny_bind (wpAny_field hos hds (x := .none) rfl (wpAny_pure ?_)))))))
  refine wpAny_bind (slicePart_none ?_)
  show wpAny _ _ (if ((1 : Int) == 0) = true then _ else _) _ _ s
  rw [if_neg (by decide)]
  refine wpAny_bind (slicePart_ok pl (wpAny_bind (slicePart_ok pu (wpAny_bind (wpAny_pure ?_)))))
  show wpAny _ _ (match Builtin.Slice.sliceAdjust lo hi 1 (m : Int) with | (lo, hi) => pure (lo, (1 : Int), Builtin.Slice.slicePlaces lo hi 1)) _ _ s
  rw [adjust_nat h1 h2 m]
  show wpAny _ _ (pure (((min (loN lo) m : Nat) : Int), (1 : Int), Builtin.Slice.slicePlaces ((min (loN lo) m : Nat) : Int) ((min (hiN m hi) m : Nat) : Int) 1)) _ _ s
  rw [places_nat]
  exact wpAny_pure h
theorem pick_at (xs : Array Value) (a k : Nat) : ((List.range k).filterMap fun (j : Nat) => xs[((a : Int) + (j : Int) * 1).toNat]?) = (xs.toList.drop a).take k := by
  have e : (fun (j : Nat) => xs[((a : Int) + (j : Int) * 1).toNat]?) = fun j => xs[a + j]? := by
    funext j
    have : ((a : Int) + (j : Int) * 1).toNat = a + j := by omega
    rw [this]
  rw [e]
  have := pick_run xs a k
  rw [List.filterMap_map] at this
  exact this
theorem getItem_tuple_slice {t sl : Addr} {items : Array Value} {vl vu : Value} {lo hi : Option Int} (h1 : okB lo = true) (h2 : okB hi = true) (ht : IsTup s.heap t items) (hs : s.heap.IsSliceOf sl vl vu .none) (pl : IsPart vl lo) (pu : IsPart vu hi)
    (hself : (items.toList.take (hiN items.toList.length hi)).drop (loN lo) = items.toList → Q (.ref t) s)
    (h : Q (.ref s.heap.objs.size) { s with heap := s.heap.push { cls := .type "tuple", data := .seq ((items.toList.take (hiN items.toList.length hi)).drop (loN lo)).toArray } })
    (hsz : items.size ≤ sizeLine) : wpAny (model C.prog C.w) A (getItem (.ref t) (.ref sl)) Q E s := by
  have hcut : (items.toList.drop (min (loN lo) items.size)).take (min (hiN items.size hi) items.size - min (loN lo) items.size) = (items.toList.take (hiN items.toList.length hi)).drop (loN lo) := by
    have := cut_eq items.toList (loN lo) (hiN items.size hi)
    rw [Array.length_toList] at this ⊢
    exact this
  have hdrop : sizeOk (.seq ((items.toList.take (hiN items.toList.length hi)).drop (loN lo)).toArray) := by
    show ((items.toList.take (hiN items.toList.length hi)).drop (loN lo)).toArray.size ≤ sizeLine
    rw [List.size_toArray, List.length_drop, List.length_take, Array.length_toList]
    omega
  obtain ⟨os, hos, hcs, hds⟩ := id hs
  have hTs : s.TypeIs (.ref sl) "slice" := ⟨os, hos, hcs⟩
  unfold getItem
  try with_reducible refine wpAny_holding ?_
  first | refine wpAny_bind (wpAny_pure ?_) | skip
  refine wpAny_bind (wpAny_sequenceKey ht.typeIs (by decide) ?_)
  refine wpAny_bind (wpAny_callSpecial?_slot (name := Str.ofString "__getitem__") ht.typeIs slot_tuple_getitem
    (wpAny_call_entry slot_tuple_getitem ht.typeIs entry_tuple_getitem ?_ (args_tuple_getitem _ _)))
  show wpAny _ _ (Builtin.Tuple.tupleItemsOf (.ref t) >>= _) _ _ s
  refine wpAny_bind (tupleItemsOf_ ht ?_)
  refine wpAny_bind (wpAny_typeOf hTs ?_)
  rw [if_pos (by decide)]
  refine wpAny_bind (sliceApplied_ok h1 h2 hs pl pu ?_)
  generalize ha : min (loN lo) items.size = a at hcut ⊢
  generalize hk : min (hiN items.size hi) items.size - a = k at hcut ⊢
  show wpAny _ _ (if ((a : Int) == 0 && (1 : Int) == 1 && k == items.size) = true then _ else _) _ _ s
  by_cases hc : ((a : Int) == 0 && (1 : Int) == 1 && k == items.size) = true
  · rw [if_pos hc]
    simp only [Bool.and_eq_true, beq_iff_eq] at hc
    have e : (items.toList.take (hiN items.toList.length hi)).drop (loN lo) = items.toList := by
      rw [← hcut, hc.2, show a = 0 by omega, List.drop_zero, List.take_of_length_le (by simp)]
    refine wpAny_bind ?_
    unfold Builtin.Tuple.tupleIsExact
    refine wpAny_bind (wpAny_typeOf ht.typeIs (wpAny_pure ?_))
    rw [if_pos (by decide)]
    refine wpAny_bind (wpAny_rule ?_)
    exact wpAny_pure ⟨_, rfl, wpAny_pure (hself e)⟩
  · rw [if_neg hc, pick_at items a k, hcut]
    first
      | exact wpAny_bind (m := Builtin.Tuple.tupleExact _) (wpAny_newObj_type (wpAny_pure ⟨_, rfl, wpAny_pure h⟩) hdrop)
      | exact wpAny_bind (m := Builtin.Tuple.tupleExact _) (wpAny_newObj_type (wpAny_bind (wpAny_pure (wpAny_pure ⟨_, rfl, wpAny_pure h⟩))) hdrop)
      | exact wpAny_bind (wpAny_bind (m := Builtin.Tuple.tupleExact _) (wpAny_newObj_type (wpAny_pure (wpAny_pure ⟨_, rfl, wpAny_pure h⟩)) hdrop))
      | exact wpAny_bind (wpAny_bind (m := Builtin.Tuple.tupleExact _) (wpAny_newObj_type (wpAny_pure ⟨_, rfl, wpAny_pure h⟩) hdrop))

theorem subTailS {value slice : Expr} {o i : Value} {T id : String} (hT : s.TypeIs o T) (hl : typeLookup (.type T) "__getitem__" = pure (some (.builtin id))) (h : wpAny (model C.prog C.w) A (getItem o i) Q E s)
    (hs : subscripted slice false o i = operate [i, o] (getItem o i)) : wpAny (model C.prog C.w) A (subscriptTail value slice o i) Q E s := by
  unfold subscriptTail
  refine wpAny_bind ?_
  rw [getitemInPython_of_ne hT.not_modules]
  refine wpAny_bind (wpAny_specialOf hT hl ?_)
  have fin : wpAny (model C.prog C.w) A (subscripted slice false o i) (fun r s₃ => wpAny (model C.prog C.w) A (letTemporaryGo value o r >>= fun _ => pure r) Q E s₃) E s := by
    rw [hs]
    exact wpAny_operating (wpAny_mono h (fun r s₃ h₃ => wpAny_bind (wpAny_letTemporaryGo (wpAny_pure h₃))) fun _ _ x => x)
  first
    | exact wpAny_pure (wpAny_bind fin)
    | exact wpAny_bind (wpAny_pure (wpAny_bind fin))
    | exact wpAny_bind fin
theorem SE.slc {e : Expr} {lower upper : Option Expr} {p pos : Pos} {a : DE} {lo hi : Option DE} (h : SE C n S e a) (hl : SP C n S lower lo) (hu : SP C n S upper hi)
    (hs : ∀ o v, subscripted (.Slice lower upper none p) false o v = operate [v, o] (getItem o v) := by intro _ _; rfl) : SE C n S (.Subscript e (.Slice lower upper none p) pos) (dSl a lo hi) := by
  intro A env σ H β s Q E P hp
  refine Subscript_ (wpAny_mono (h A env σ H β s _ E P (Pst.bind hp)) ?_ fun _ _ e => e)
  rintro x s₁ ⟨v, H₁, β₁, _, a₁, vx, hp₁⟩
  refine wpAny_Slice (wpAny_mono (hl A env σ H₁ β₁ s₁ _ E (P.after a₁) (Pst.bind hp₁)) ?_ fun _ _ e => e)
  rintro y s₂ ⟨l, H₂, β₂, _, a₂, vy, hp₂⟩
  refine wpAny_mono (hu A env σ H₂ β₂ s₂ _ E ((P.after a₁).after a₂) (Pst.bind hp₂)) ?_ fun _ _ e => e
  rintro z s₃ ⟨u, H₃, β₃, _, a₃, vz, hp₃⟩
  refine wpAny_pure ?_
  obtain ⟨r, hr, hp₄⟩ := pst_some hp₃
  have a₄ := a₃.inv.push (s := s₃) { cls := .type "slice", data := .fields #[y, z, .none] } s₃.toks
  have vx := ((vx.mono a₂.grow).mono a₃.grow).mono a₄.grow
  have hp₅ := Pst.shift a₄ hp₄
  have hsl : Heap.IsSliceOf (s₃.heap.push { cls := .type "slice", data := .fields #[y, z, .none] }) s₃.heap.objs.size y z .none := Heap.IsSliceOf.new ..
  unfold slcOp at hr
  split at hr
  rotate_left
  · cases hr
  rename_i hb
  rw [Bool.and_eq_true] at hb
  split at hr
  · split at hr
    · rename_i l' hlen
      cases hr
      cases vx with
      | @tup ad items _ ht hn hv =>
        have hl' := hv.length
        rw [Array.length_toList] at hl'
        refine subTailS (Heap.IsTuple.typeIs' ht) slot_tuple_getitem.lookup (getItem_tuple_slice hb.1 hb.2 ht hsl vy vz (fun e => ?_) ?_ (by rw [hl']; exact Nat.le_trans hlen (by decide))) (hs _ _)
        · have hc := hv.cut l u
          rw [e] at hc
          exact hp₅ _ _ _ (.refl a₄.inv) (VR.tup ht hn hc)
        · have a₅ := a₄.inv.push (s := { s₃ with heap := s₃.heap.push { cls := .type "slice", data := .fields #[y, z, .none] } }) { cls := .type "tuple", data := .seq ((items.toList.take (hiN items.toList.length u)).drop (loN l)).toArray } s₃.toks
          refine hp₅ _ _ _ a₅ (VR.tup (items := ((items.toList.take (hiN items.toList.length u)).drop (loN l)).toArray) ?_ a₄.inv.new_notin (by simpa using (hv.cut l u).mono a₅.grow))
          exact ⟨_, Heap.get?_push_size _ rfl, rfl, _, rfl⟩
    · cases hr
  · split at hr
    · rename_i l' hl'
      split at hr
      · rename_i hlen
        cases hr
        obtain ⟨ad, items, rfl, hli, hv⟩ := list_at a₄.inv vx hl'
        have hl' := hv.length
        rw [Array.length_toList] at hl'
        refine subTailS hli.typeIs slot_list_getitem.lookup (wpAny_getItem_list_slice hli hsl vy vz .none (by simp) ?_ (by rw [hl']; exact Nat.le_trans hlen (by decide))) (hs _ _)
        have a₅ := a₄.inv.push (s := { s₃ with heap := s₃.heap.push { cls := .type "slice", data := .fields #[y, z, .none] } }) { cls := .type "list", data := .seq (slicePick items l u none) } s₃.toks
        refine hp₅ _ _ _ a₅ (.lst (items := slicePick items l u none) ⟨_, Heap.get?_push_size _ rfl, rfl, _, rfl⟩ a₄.inv.new_notin ?_)
        rw [pick_cut hb.1 hb.2]
        exact (hv.cut l u).mono a₅.grow
      · cases hr
    · cases hr
end
end Mine

namespace Mine
open PySem
set_option linter.unusedVariables false
set_option Elab.async false

/-- a run that ends well, and what is so then -/
noncomputable def W {α : Type} (r : Rs α) (Q : α → AH → Prop) : Prop := ∃ a H, r = .ok a H ∧ Q a H
noncomputable def WS (r : Rs (Fl × Loc)) (N : Loc → AH → Prop) (R : AV → AH → Prop) : Prop := W r fun p H => match p with
  | (.next, σ) => N σ H
  | (.ret v, _) => R v H
noncomputable def OB {α : Type} (o : Option α) (Q : α → Prop) : Prop := ∃ v, o = some v ∧ Q v
section
variable {α β : Type} {Φ : Fns} {σ : Loc} {H : AH} {Q : AV → AH → Prop} {T : Bool → AH → Prop} {N : Loc → AH → Prop} {R : AV → AH → Prop}
theorem W.of {r : Rs α} {a : α} {Q : α → AH → Prop} (e : r = .ok a H) (q : Q a H) : W r Q := ⟨a, H, e, q⟩
theorem W.mono {r : Rs α} {P Q : α → AH → Prop} (h : W r P) (q : ∀ a H, P a H → Q a H) : W r Q := by
  obtain ⟨a, H, e, p⟩ := h
  exact ⟨a, H, e, q a H p⟩
theorem W.bind {r : Rs α} {f : α → AH → Rs β} {Q : β → AH → Prop} (h : W r fun a H => W (f a H) Q) : W (r.bind f) Q := by
  obtain ⟨a, H, e, b, H', e', q⟩ := h
  exact ⟨b, H', by rw [e]; exact e', q⟩
theorem OB.of {o : Option α} {v : α} {Q : α → Prop} (e : o = some v) (q : Q v) : OB o Q := ⟨v, e, q⟩
theorem toR_w {o : Option AV} (h : OB o fun v => Q v H) : W (toR H o) Q := by
  obtain ⟨v, e, q⟩ := h
  exact ⟨v, H, by rw [e]; rfl, q⟩
theorem w_cst {v : AV} (q : Q v H) : W (dCst v σ H) Q := ⟨_, _, rfl, q⟩
theorem w_loc {i : Nat} {v : AV} (e : σ i = some v) (q : Q v H) : W (dLoc i σ H) Q := ⟨v, H, by unfold dLoc; rw [e], q⟩
theorem w_bin {op : BOp} {a b : DE} (h : W (a σ H) fun x H₁ => W (b σ H₁) fun y H₂ => OB (binop H₂ op x y) fun v => Q v H₂) : W (dBin op a b σ H) Q :=
  W.bind (h.mono fun x H₁ h => W.bind (h.mono fun y H₂ h => toR_w h))
theorem w_neg {a : DE} (h : W (a σ H) fun x H₁ => ∃ i, x = .int i ∧ Q (.int (-i)) H₁) : W (dNeg a σ H) Q :=
  W.bind (h.mono fun x H₁ h => by obtain ⟨i, rfl, q⟩ := h; exact ⟨_, _, rfl, q⟩)
theorem w_not {t : DT} (h : W (t σ H) fun b H₁ => Q (.bool (!b)) H₁) : W (dNot t σ H) Q :=
  W.bind (h.mono fun b H₁ h => ⟨_, _, rfl, h⟩)
theorem w_cmp {op : COp} {a b : DE} (h : W (a σ H) fun x H₁ => W (b σ H₁) fun y H₂ => OB (cmpop H₂ op x y) fun c => Q (.bool c) H₂) : W (dCmp op a b σ H) Q :=
  W.bind (h.mono fun x H₁ h => W.bind (h.mono fun y H₂ h => toR_w (by obtain ⟨c, e, q⟩ := h; exact ⟨_, by rw [e]; rfl, q⟩)))
theorem w_cmp2 {o₁ o₂ : COp} {a b c : DE} (h : W (a σ H) fun x H₁ => W (b σ H₁) fun y H₂ => OB (cmpop H₂ o₁ x y) fun d => (d = true → W (c σ H₂) fun z H₃ => OB (cmpop H₃ o₂ y z) fun g => Q (.bool g) H₃) ∧ (d = false → Q (.bool false) H₂)) : W (dCmp2 o₁ o₂ a b c σ H) Q :=
  W.bind (h.mono fun x H₁ h => W.bind (h.mono fun y H₂ h => by
    obtain ⟨d, e, q⟩ := h
    simp only [e]
    cases d with
    | true => exact W.bind ((q.1 rfl).mono fun z H₃ h => toR_w (by obtain ⟨c, e, q⟩ := h; exact ⟨_, by rw [e]; rfl, q⟩))
    | false => exact ⟨_, _, rfl, q.2 rfl⟩))
theorem w_ite {t : DT} {a b : DE} (h : W (t σ H) fun c H₁ => (c = true → W (a σ H₁) Q) ∧ (c = false → W (b σ H₁) Q)) : W (dIte t a b σ H) Q :=
  W.bind (h.mono fun c H₁ h => by
    cases c with
    | true => exact h.1 rfl
    | false => exact h.2 rfl)
theorem w_and {a b : DE} (h : W (a σ H) fun x H₁ => ∃ c, x = .bool c ∧ (c = true → W (b σ H₁) Q) ∧ (c = false → Q (.bool false) H₁)) : W (dAnd a b σ H) Q :=
  W.bind (h.mono fun x H₁ h => by
    obtain ⟨c, rfl, h⟩ := h
    cases c with
    | true => exact h.1 rfl
    | false => exact ⟨_, _, rfl, h.2 rfl⟩)
theorem w_or {a b : DE} (h : W (a σ H) fun x H₁ => ∃ c, x = .bool c ∧ (c = false → W (b σ H₁) Q) ∧ (c = true → Q (.bool true) H₁)) : W (dOr a b σ H) Q :=
  W.bind (h.mono fun x H₁ h => by
    obtain ⟨c, rfl, h⟩ := h
    cases c with
    | false => exact h.1 rfl
    | true => exact ⟨_, _, rfl, h.2 rfl⟩)
theorem w_nil {Q : List AV → AH → Prop} (q : Q [] H) : W (dEach [] σ H) Q := ⟨_, _, rfl, q⟩
theorem w_cons {d : DE} {r : List DE} {Q : List AV → AH → Prop} (h : W (d σ H) fun v H₁ => W (dEach r σ H₁) fun vs H₂ => Q (v :: vs) H₂) : W (dEach (d :: r) σ H) Q :=
  W.bind (h.mono fun x H₁ h => W.bind (h.mono fun y H₂ h => ⟨_, _, rfl, h⟩))
theorem w_tup {l : List DE} (h : W (dEach l σ H) fun vs H₁ => Q (.tup vs) H₁) : W (dTup l σ H) Q := W.bind (h.mono fun x H₁ h => ⟨_, _, rfl, h⟩)
theorem w_lst {l : List DE} (h : W (dEach l σ H) fun vs H₁ => Q (.lst vs) H₁) : W (dLst l σ H) Q := W.bind (h.mono fun x H₁ h => ⟨_, _, rfl, h⟩)
theorem w_newL {l : List DE} (h : W (dEach l σ H) fun vs H₁ => Q (.ref H₁.length) (H₁ ++ [.list vs])) : W (dNewL l σ H) Q := W.bind (h.mono fun x H₁ h => ⟨_, _, rfl, h⟩)
theorem w_sub {a i : DE} (h : W (a σ H) fun x H₁ => W (i σ H₁) fun k H₂ => OB (subop H₂ x k) fun v => Q v H₂) : W (dSub a i σ H) Q :=
  W.bind (h.mono fun x H₁ h => W.bind (h.mono fun y H₂ h => toR_w h))
theorem w_callF {k : Nat} {l : List DE} (h : W (dEach l σ H) fun vs H₁ => W (Φ k vs H₁) Q) : W (dCall Φ (dCst (.fn k)) l σ H) Q :=
  W.bind ⟨_, _, rfl, W.bind (h.mono fun vs H₁ h => h)⟩
theorem w_callB {n : BI} {l : List DE} (h : W (dEach l σ H) fun vs H₁ => OB (appBI H₁ n vs) fun v => Q v H₁) : W (dCall Φ (dCst (.bi n)) l σ H) Q :=
  W.bind ⟨_, _, rfl, W.bind (h.mono fun vs H₁ h => toR_w h)⟩
theorem w_meth {f : List AV → List AV → Option (List AV)} {o : DE} {l : List DE} (h : W (o σ H) fun x H₁ => isL H₁ x = true ∧ W (dEach l σ H₁) fun us H₂ => OB (setAt H₂ x (f us)) fun H₃ => Q .none H₃) : W (dMeth f o l σ H) Q :=
  W.bind (h.mono fun x H₁ h => by
    show W (if isL H₁ x then _ else _) Q
    rw [if_pos h.1]
    exact W.bind (h.2.mono fun us H₂ h => by obtain ⟨H₃, e, q⟩ := h; exact ⟨_, _, by rw [e]; rfl, q⟩))
theorem t_val {a : DE} (h : W (a σ H) fun x H₁ => ∃ c, x = .bool c ∧ T c H₁) : W (tVal a σ H) T :=
  W.bind (h.mono fun x H₁ h => by obtain ⟨c, rfl, h⟩ := h; exact ⟨_, _, rfl, h⟩)
theorem t_cmp {op : COp} {a b : DE} (h : W (a σ H) fun x H₁ => W (b σ H₁) fun y H₂ => OB (cmpop H₂ op x y) fun c => T c H₂) : W (tVal (dCmp op a b) σ H) T :=
  t_val (w_cmp (h.mono fun x H₁ h => h.mono fun y H₂ h => by obtain ⟨c, e, q⟩ := h; exact ⟨c, e, c, rfl, q⟩))
theorem t_not {t : DT} (h : W (t σ H) fun b H₁ => T (!b) H₁) : W (tNot t σ H) T := W.bind (h.mono fun b H₁ h => ⟨_, _, rfl, h⟩)
theorem t_and {a b : DT} (h : W (a σ H) fun c H₁ => (c = true → W (b σ H₁) T) ∧ (c = false → T false H₁)) : W (tAnd a b σ H) T :=
  W.bind (h.mono fun c H₁ h => by
    cases c with
    | true => exact h.1 rfl
    | false => exact ⟨_, _, rfl, h.2 rfl⟩)
theorem t_or {a b : DT} (h : W (a σ H) fun c H₁ => (c = true → T true H₁) ∧ (c = false → W (b σ H₁) T)) : W (tOr a b σ H) T :=
  W.bind (h.mono fun c H₁ h => by
    cases c with
    | false => exact h.2 rfl
    | true => exact ⟨_, _, rfl, h.1 rfl⟩)
theorem t_true (h : T true H) : W (tTrue σ H) T := ⟨_, _, rfl, h⟩
theorem s_seq {a b : DS} (h : WS (a σ H) (fun σ₁ H₁ => WS (b σ₁ H₁) N R) R) : WS (sSeq a b σ H) N R :=
  W.bind (W.mono h fun p H₁ h => by
    obtain ⟨f, σ₁⟩ := p
    cases f with
    | next => exact h
    | ret v => exact ⟨_, _, rfl, h⟩)
theorem s_nil (h : N σ H) : WS (sNil σ H) N R := ⟨_, _, rfl, h⟩
theorem s_ret {a : DE} (h : W (a σ H) fun v H₁ => R v H₁) : WS (sRet a σ H) N R := W.bind (h.mono fun v H₁ h => ⟨_, _, rfl, h⟩)
theorem s_asg {i : Nat} {a : DE} (h : W (a σ H) fun v H₁ => N (upd σ i v) H₁) : WS (sAsg i a σ H) N R := W.bind (h.mono fun v H₁ h => ⟨_, _, rfl, h⟩)
theorem s_expr {a : DE} (h : W (a σ H) fun _ H₁ => N σ H₁) : WS (sExpr a σ H) N R := W.bind (h.mono fun v H₁ h => ⟨_, _, rfl, h⟩)
theorem s_if {t : DT} {a b : DS} (h : W (t σ H) fun c H₁ => (c = true → WS (a σ H₁) N R) ∧ (c = false → WS (b σ H₁) N R)) : WS (sIf t a b σ H) N R :=
  W.bind (h.mono fun c H₁ h => by
    cases c with
    | true => exact h.1 rfl
    | false => exact h.2 rfl)
theorem s_store {o k a : DE} (h : W (a σ H) fun v H₁ => W (o σ H₁) fun x H₂ => W (k σ H₂) fun p H₃ => OB (setAt H₃ x (stoF p v)) fun H₄ => N σ H₄) : WS (sStore o k a σ H) N R :=
  W.bind (h.mono fun v H₁ h => W.bind (h.mono fun v H₁ h => W.bind (h.mono fun v H₁ h => by
    obtain ⟨H₄, e, q⟩ := h
    exact ⟨_, _, by rw [e], q⟩)))
theorem forGo_w {t : Tg} {b : DS} {I : List AV → Loc → AH → Prop} (hb : ∀ v r σ H, I (v :: r) σ H → ∃ σ₁, t.bind v σ = some σ₁ ∧ WS (b σ₁ H) (fun σ₂ H₂ => I r σ₂ H₂) R) (hN : ∀ σ H, I [] σ H → N σ H) :
    ∀ (l : List AV) (σ : Loc) (H : AH), I l σ H → WS (forGo t b l σ H) N R
  | [], σ, H, i => ⟨_, _, rfl, hN σ H i⟩
  | v :: r, σ, H, i => by
    obtain ⟨σ₁, e, h⟩ := hb v r σ H i
    unfold forGo
    simp only [e]
    exact W.bind (W.mono h fun p H₁ h => by
      obtain ⟨f, σ₁⟩ := p
      cases f with
      | next => exact forGo_w hb hN r _ _ h
      | ret v => exact ⟨_, _, rfl, h⟩)
theorem s_for {t : Tg} {it : DE} {b : DS} (h : W (it σ H) fun x H₁ => OB (iter? x) fun l => WS (forGo t b l σ H₁) N R) : WS (sFor t it b σ H) N R :=
  W.bind (h.mono fun x H₁ h => by
    obtain ⟨l, e, q⟩ := h
    simp only [e]
    exact q)
theorem if_dec {p : Prop} [Decidable p] {A B : Prop} (a : p → A) (b : ¬ p → B) : (decide p = true → A) ∧ (decide p = false → B) :=
  ⟨fun h => a (of_decide_eq_true h), fun h => b (of_decide_eq_false h)⟩
theorem if_ndec {p : Prop} [Decidable p] {A B : Prop} (a : ¬ p → A) (b : p → B) : ((!decide p) = true → A) ∧ ((!decide p) = false → B) :=
  ⟨fun h => a (by simpa using h), fun h => b (by simpa using h)⟩
theorem if_tt {A B : Prop} (a : A) : (true = true → A) ∧ (true = false → B) := ⟨fun _ => a, fun h => nomatch h⟩
theorem if_ff {A B : Prop} (b : B) : (false = true → A) ∧ (false = false → B) := ⟨fun h => (nomatch h), fun _ => b⟩
theorem if_ft {A B : Prop} (b : A) : (false = false → A) ∧ (false = true → B) := ⟨fun _ => b, fun h => nomatch h⟩
theorem if_tf {A B : Prop} (b : B) : (true = false → A) ∧ (true = true → B) := ⟨fun h => (nomatch h), fun _ => b⟩
theorem bool_ex {c : Bool} {P : Bool → Prop} (h : P c) : ∃ d, AV.bool c = .bool d ∧ P d := ⟨_, rfl, h⟩
theorem int_ex {c : Int} {P : Int → Prop} (h : P c) : ∃ d, AV.int c = .int d ∧ P d := ⟨_, rfl, h⟩
end

/-- operators on whole numbers -/
theorem ob_mod {H : AH} {a b : Int} {Q : AV → Prop} (hb : b ≠ 0) (q : Q (.int (a.fmod b))) : OB (binop H .mod (.int a) (.int b)) Q :=
  ⟨_, by show (if b = 0 then none else _) = _; rw [if_neg hb], q⟩
theorem ob_fdiv {H : AH} {a b : Int} {Q : AV → Prop} (hb : b ≠ 0) (q : Q (.int (a.fdiv b))) : OB (binop H .fdiv (.int a) (.int b)) Q :=
  ⟨_, by show (if b = 0 then none else _) = _; rw [if_neg hb], q⟩
theorem ob_mul {H : AH} {a b : Int} {Q : AV → Prop} (hb : b.natAbs < 2 ^ 60 ∨ a.natAbs < 2 ^ 60) (q : Q (.int (a * b))) : OB (binop H .mul (.int a) (.int b)) Q :=
  ⟨_, by unfold binop intOp; simp only; rw [if_pos hb], q⟩
theorem ob_add {H : AH} {a b : Int} {Q : AV → Prop} (q : Q (.int (a + b))) : OB (binop H .add (.int a) (.int b)) Q := ⟨_, rfl, q⟩
theorem ob_sub {H : AH} {a b : Int} {Q : AV → Prop} (q : Q (.int (a - b))) : OB (binop H .sub (.int a) (.int b)) Q := ⟨_, rfl, q⟩
theorem eqv_int (a b : Int) : PyData.eqv (.int a) (.int b) = decide (a = b) := by
  unfold PyData.eqv
  by_cases h : a = b <;> simp [h]
theorem eqv_str (a b : Str) : PyData.eqv (.str a) (.str b) = decide (a = b) := by
  unfold PyData.eqv
  by_cases h : a = b <;> simp [h]
theorem eqD_int (H : AH) (a b : Int) : eqD H (.int a) (.int b) = some (decide (a = b)) := by
  show (if SeqAt.shaped (.int a) && SeqAt.shaped (.int b) then some (PyData.eqv (.int a) (.int b)) else none) = _
  rw [eqv_int]; rfl
theorem eqD_str (H : AH) {a b : Str} (ha : SeqAt.shaped (.str a) = true) (hb : SeqAt.shaped (.str b) = true) : eqD H (.str a) (.str b) = some (decide (a = b)) := by
  show (if SeqAt.shaped (.str a) && SeqAt.shaped (.str b) then some (PyData.eqv (.str a) (.str b)) else none) = _
  rw [eqv_str, ha, hb]; rfl
theorem ob_eqI {H : AH} {a b : Int} {Q : Bool → Prop} (q : Q (decide (a = b))) : OB (cmpop H .eq (.int a) (.int b)) Q := ⟨_, eqD_int H a b, q⟩
theorem ob_neI {H : AH} {a b : Int} {Q : Bool → Prop} (q : Q (!decide (a = b))) : OB (cmpop H .ne (.int a) (.int b)) Q := ⟨_, by unfold cmpop; simp only [eqD_int]; rfl, q⟩
theorem ob_eqS {H : AH} {a b : Str} {Q : Bool → Prop} (ha : SeqAt.shaped (.str a) = true) (hb : SeqAt.shaped (.str b) = true) (q : Q (decide (a = b))) : OB (cmpop H .eq (.str a) (.str b)) Q := ⟨_, eqD_str H ha hb, q⟩
theorem ob_neS {H : AH} {a b : Str} {Q : Bool → Prop} (ha : SeqAt.shaped (.str a) = true) (hb : SeqAt.shaped (.str b) = true) (q : Q (!decide (a = b))) : OB (cmpop H .ne (.str a) (.str b)) Q := ⟨_, by unfold cmpop; simp only [eqD_str H ha hb]; rfl, q⟩
theorem itemAt_of {l : List AV} {k : Int} {v : AV} (h₀ : 0 ≤ k) (h₁ : k ≤ 1048576) (e : l[k.toNat]? = some v) : itemAt l k = some v := by
  unfold itemAt
  rw [if_pos ⟨by omega, by omega⟩, if_pos h₀]
  exact e
/-- bounds of a remainder -/
theorem fm (a : Int) {b : Int} (h : 0 < b) : 0 ≤ a.fmod b ∧ a.fmod b < b := ⟨Int.fmod_nonneg_of_pos a h, Int.fmod_lt_of_pos a h⟩
theorem fd (a : Int) {b : Int} (ha : 0 ≤ a) (h : 0 < b) : 0 ≤ a.fdiv b := Int.fdiv_nonneg ha (by omega)

/-- a frozen call -/
theorem run_w {m : Nat} {b : Fns → DS} {Φ : Fns} {args : List AV} {H : AH} {Q : AV → AH → Prop} (hl : args.length = m) (h : WS (b Φ (args0 args 0) H) (fun _ H₁ => H₁.take H.length = H ∧ Q .none H) (fun v H₁ => H₁.take H.length = H ∧ OB (freeze H.length H₁ 12 v) fun v' => Q v' H)) :
    W (Fun.run ⟨m, true, b⟩ Φ args H) Q := by
  obtain ⟨⟨f, σ⟩, H₁, e, q⟩ := h
  cases f with
  | next =>
    refine ⟨_, _, ?_, q.2⟩
    unfold Fun.run
    rw [if_pos hl]
    simp only [e, Rs.bind_ok, if_pos q.1, Fl.val]
    rfl
  | ret v =>
    obtain ⟨ht, v', hv, q⟩ := q
    refine ⟨_, _, ?_, q⟩
    unfold Fun.run
    rw [if_pos hl]
    simp only [e, Rs.bind_ok, if_pos ht, Fl.val, hv]
    rfl
theorem fns_w {t : Nat → Option Fun} {n k : Nat} {f : Fun} {args : List AV} {H : AH} {Q : AV → AH → Prop} (h : t k = some f) (q : W (f.run (fns t n) args H) Q) : W (fns t (n + 1) k args H) Q := by
  have : fns t (n + 1) k args H = f.run (fns t n) args H := by
    show (match t k with | some f => f.run (fns t n) args H | none => .bad) = _
    rw [h]
  rw [this]; exact q
/-- an equation out of a run that ends well -/
theorem W.eq {α : Type} {r : Rs α} {H : AH} {a : α} (h : W r fun b H' => b = a ∧ H' = H) : r = .ok a H := by
  obtain ⟨b, H', e, rfl, rfl⟩ := h
  exact e

theorem app_get (H : AH) (o : AO) : (H ++ [o])[H.length]? = some o := by simp
theorem app_take (H X : AH) : (H ++ X).take H.length = H := by simp
theorem self_take (H : AH) : H.take H.length = H := by simp
theorem app_isL (H : AH) (l : List AV) : isL (H ++ [.list l]) (.ref H.length) = true := by unfold isL; simp
theorem app_listOf (H : AH) (l : List AV) : listOf? (H ++ [.list l]) (.ref H.length) = some l := by unfold listOf?; simp
theorem app_setAt {H : AH} {l l' : List AV} {f : List AV → Option (List AV)} (e : f l = some l') : setAt (H ++ [.list l]) (.ref H.length) f = some (H ++ [.list l']) := by
  unfold setAt
  simp [e]
theorem app_app {H : AH} {l : List AV} {v : AV} (h : l.length ≤ 1048576) : setAt (H ++ [.list l]) (.ref H.length) (appM [v]) = some (H ++ [.list (l ++ [v])]) :=
  app_setAt (by unfold appM appF; simp [h])

/-- values that hold no object -/
noncomputable def flat : Nat → AV → Bool
  | 0, _ => false
  | n + 1, v => match v with
    | .tup l => l.all (flat n)
    | .lst l => l.all (flat n)
    | .ref _ => false
    | .inst _ _ => false
    | .exc _ _ => false
    | _ => true
theorem mapM_self {f : AV → Option AV} : ∀ {l : List AV}, (∀ v ∈ l, f v = some v) → l.mapM f = some l
  | [], _ => rfl
  | v :: r, h => by
    rw [List.mapM_cons, h v (List.mem_cons_self ..), mapM_self (l := r) fun w hw => h w (List.mem_cons_of_mem _ hw)]
    rfl
theorem freeze_flat {m : Nat} {H : AH} : ∀ (n : Nat) (v : AV), flat n v = true → freeze m H n v = some v
  | 0, _, h => nomatch h
  | n + 1, v, h => by
    cases v with
    | tup l =>
      have h : l.all (flat n) = true := h
      show (l.mapM (freeze m H n)).map AV.tup = _
      rw [mapM_self fun v hv => freeze_flat n v (List.all_eq_true.mp h v hv)]; rfl
    | lst l =>
      have h : l.all (flat n) = true := h
      show (l.mapM (freeze m H n)).map AV.lst = _
      rw [mapM_self fun v hv => freeze_flat n v (List.all_eq_true.mp h v hv)]; rfl
    | ref _ => exact nomatch h
    | inst _ _ => exact nomatch h
    | exc _ _ => exact nomatch h
    | _ => rfl
theorem flat_mono : ∀ {n k : Nat} (v : AV), n ≤ k → flat n v = true → flat k v = true
  | 0, _, _, _, h => nomatch h
  | n + 1, 0, _, hk, _ => by omega
  | n + 1, k + 1, v, hk, h => by
    cases v with
    | tup l =>
      have h : l.all (flat n) = true := h
      show l.all (flat k) = true
      exact List.all_eq_true.mpr fun v hv => flat_mono v (by omega) (List.all_eq_true.mp h v hv)
    | lst l =>
      have h : l.all (flat n) = true := h
      show l.all (flat k) = true
      exact List.all_eq_true.mpr fun v hv => flat_mono v (by omega) (List.all_eq_true.mp h v hv)
    | ref _ => exact nomatch h
    | inst _ _ => exact nomatch h
    | exc _ _ => exact nomatch h
    | _ => rfl
/-- the list at the end, told as it stands -/
theorem freeze_ref {H : AH} {l : List AV} {n : Nat} (h : ∀ v ∈ l, flat n v = true) : freeze H.length (H ++ [.list l]) (n + 1) (.ref H.length) = some (.lst l) := by
  unfold freeze
  simp only
  rw [if_neg (by omega), app_get]
  show Option.map AV.lst (l.mapM (freeze H.length (H ++ [.list l]) n)) = _
  rw [mapM_self fun v hv => freeze_flat n v (h v hv)]; rfl

end Mine

namespace Mine
open PySem
set_option linter.unusedVariables false
set_option Elab.async false
variable {σ : Loc} {H : AH} {N : Loc → AH → Prop} {R : AV → AH → Prop}
/-- loops over a range, by the count -/
theorem forRange_w {i : Nat} {b : Int} {body : DS} (I : Nat → Loc → AH → Prop) (hb : ∀ (j : Nat) σ H, (j : Int) < b → I j σ H → WS (body (upd σ i (.int j)) H) (I (j + 1)) R) (hN : ∀ σ H, I b.toNat σ H → N σ H) (h₀ : I 0 σ H) :
    WS (forGo (.one i) body (rangeL b) σ H) N R := by
  refine forGo_w (I := fun r σ H => ∃ j, j ≤ b.toNat ∧ r = (List.range' j (b.toNat - j)).map (fun k : Nat => AV.int (k : Int)) ∧ I j σ H) ?_ ?_ _ _ _ ⟨0, by omega, ?_, h₀⟩
  · intro v r σ H h
    obtain ⟨j, hj, e, h⟩ := h
    by_cases hlt : j < b.toNat
    · have hs : b.toNat - j = (b.toNat - (j + 1)) + 1 := by omega
      rw [hs, List.range'_succ, List.map_cons] at e
      injection e with e₁ e₂
      subst e₁
      exact ⟨_, rfl, W.mono (hb j σ H (by omega) h) fun p H₁ q => by
        obtain ⟨f, σ₁⟩ := p
        cases f with
        | next => exact ⟨j + 1, by omega, e₂, q⟩
        | ret v => exact q⟩
    · have hs : b.toNat - j = 0 := by omega
      rw [hs] at e
      cases e
  · intro σ H h
    obtain ⟨j, hj, e, h⟩ := h
    by_cases hlt : j < b.toNat
    · have hs : b.toNat - j = (b.toNat - (j + 1)) + 1 := by omega
      rw [hs, List.range'_succ, List.map_cons] at e
      cases e
    · have : j = b.toNat := by omega
      subst this
      exact hN σ H h
  · show (List.range b.toNat).map _ = _
    rw [List.range_eq_range']
    rfl
/-- loops over told things, by what is left -/
theorem forMap_w {X : Type} {i : Nat} {f : X → AV} {body : DS} (I : List X → Loc → AH → Prop) (hb : ∀ x r σ H, I (x :: r) σ H → WS (body (upd σ i (f x)) H) (I r) R) (hN : ∀ σ H, I [] σ H → N σ H) {l : List X} (h₀ : I l σ H) :
    WS (forGo (.one i) body (l.map f) σ H) N R := by
  refine forGo_w (I := fun r σ H => ∃ xs, r = xs.map f ∧ I xs σ H) ?_ ?_ _ _ _ ⟨l, rfl, h₀⟩
  · intro v r σ H h
    obtain ⟨xs, e, h⟩ := h
    cases xs with
    | nil => cases e
    | cons x xs =>
      injection e with e₁ e₂
      subst e₁
      exact ⟨_, rfl, W.mono (hb x xs σ H h) fun p H₁ q => by
        obtain ⟨f, σ₁⟩ := p
        cases f with
        | next => exact ⟨xs, e₂, q⟩
        | ret v => exact q⟩
  · intro σ H h
    obtain ⟨xs, e, h⟩ := h
    cases xs with
    | nil => exact hN σ H h
    | cons x xs => cases e
theorem ob_two {a b : AV} {k : Int} {Q : AV → Prop} (h₀ : 0 ≤ k) (h₁ : k < 2) (qa : k = 0 → Q a) (qb : k = 1 → Q b) : OB (subop H (.lst [a, b]) (.int k)) Q := by
  have : k = 0 ∨ k = 1 := by omega
  rcases this with rfl | rfl
  · exact ⟨_, rfl, qa rfl⟩
  · exact ⟨_, rfl, qb rfl⟩
theorem ob_range {b : Int} {Q : AV → Prop} (h₀ : 0 ≤ b) (h₁ : b ≤ 1000000) (q : Q (.rng b)) : OB (appBI H .range [.int b]) Q :=
  ⟨_, by show (if -1048576 ≤ b ∧ b ≤ 1048576 then some (AV.rng b) else none) = _; rw [if_pos ⟨by omega, by omega⟩], q⟩
theorem ob_iterR {b : Int} {Q : List AV → Prop} (h₀ : 0 ≤ b) (h₁ : b ≤ 1000000) (q : Q (rangeL b)) : OB (iter? (.rng b)) Q :=
  ⟨_, by show (if -1048576 ≤ b ∧ b ≤ 1048576 then some (rangeL b) else none) = _; rw [if_pos ⟨by omega, by omega⟩], q⟩
/-- a number or none -/
noncomputable def ov : Option Int → AV
  | none => .none
  | some i => .int i
theorem ov_flat (v : Option Int) {n : Nat} : flat (n + 1) (ov v) = true := by cases v <;> rfl
theorem ob_opt {x : Int} {c : Bool} {Q : AV → Prop} (q : ∀ v : Option Int, (∀ i, v = some i → i = x) → Q (ov v)) : OB (subop H (.lst [.int x, .none]) (.int (if c = true then 1 else 0))) Q := by
  cases c with
  | true => exact ⟨_, rfl, q none fun i h => nomatch h⟩
  | false => exact ⟨_, rfl, q (some x) fun i h => by injection h with h; exact h.symm⟩
theorem ob_intB {c : Bool} {Q : AV → Prop} (q : Q (.int (if c = true then 1 else 0))) : OB (appBI H .int [.bool c]) Q := ⟨_, rfl, q⟩
theorem fdiv_ediv (a : Int) {b : Int} (h : 0 ≤ b) : a.fdiv b = a / b := Int.fdiv_eq_ediv_of_nonneg a h
theorem ob_item {l : List AV} {k : Int} {v : AV} {Q : AV → Prop} (h₀ : 0 ≤ k) (h₁ : k ≤ 1000000) (e : l[k.toNat]? = some v) (q : Q v) : OB (subop H (.tup l) (.int k)) Q := ⟨v, itemAt_of h₀ (by omega) e, q⟩
theorem ob_itemL {l : List AV} {k : Int} {v : AV} {Q : AV → Prop} (h₀ : 0 ≤ k) (h₁ : k ≤ 1000000) (e : l[k.toNat]? = some v) (q : Q v) : OB (subop H (.lst l) (.int k)) Q := ⟨v, itemAt_of h₀ (by omega) e, q⟩
theorem ob_tupR {l : List AV} {Q : AV → Prop} (h : l.length ≤ 1000000) (q : Q (.tup l)) : OB (appBI (H ++ [.list l]) .tuple [.ref H.length]) Q := by
  refine ⟨_, ?_, q⟩
  show tupOp (H ++ [.list l]) (.ref H.length) = _
  unfold tupOp
  rw [app_listOf]
  simp only
  rw [if_pos (by omega)]
theorem ob_tupL {l : List AV} {Q : AV → Prop} (h : l.length ≤ 1000000) (q : Q (.tup l)) : OB (appBI H .tuple [.lst l]) Q := by
  refine ⟨_, ?_, q⟩
  show (if l.length ≤ 1048576 then some (AV.tup l) else none) = _
  rw [if_pos (by omega)]
theorem ob_cat {a b : List AV} {Q : AV → Prop} (h : a.length + b.length ≤ 1000000) (q : Q (.tup (a ++ b))) : OB (binop H .add (.tup a) (.tup b)) Q := by
  refine ⟨_, ?_, q⟩
  show (if a.length + b.length ≤ 1048576 then some (AV.tup (a ++ b)) else none) = _
  rw [if_pos (by omega)]
theorem ob_app {l : List AV} {v : AV} {Q : AH → Prop} (h : l.length ≤ 1000000) (q : Q (H ++ [.list (l ++ [v])])) : OB (setAt (H ++ [.list l]) (.ref H.length) (appM [v])) Q := ⟨_, app_app (by omega), q⟩
theorem flat_tup {l : List AV} {n : Nat} (h : ∀ v ∈ l, flat n v = true) : flat (n + 1) (.tup l) = true := List.all_eq_true.mpr h
theorem flat_lst {l : List AV} {n : Nat} (h : ∀ v ∈ l, flat n v = true) : flat (n + 1) (.lst l) = true := List.all_eq_true.mpr h
/-- the end of a frozen call that has changed no heap -/
theorem fin_flat {v : AV} {Q : AV → AH → Prop} {X : AH} (h : flat 12 v = true) (q : Q v H) : (H ++ X).take H.length = H ∧ OB (freeze H.length (H ++ X) 12 v) fun v' => Q v' H := ⟨app_take H X, _, freeze_flat _ _ h, q⟩
theorem fin_same {v : AV} {Q : AV → AH → Prop} (h : flat 12 v = true) (q : Q v H) : H.take H.length = H ∧ OB (freeze H.length H 12 v) fun v' => Q v' H := ⟨self_take H, _, freeze_flat _ _ h, q⟩
theorem fin_list {l : List AV} {Q : AV → AH → Prop} (h : ∀ v ∈ l, flat 11 v = true) (q : Q (.lst l) H) : (H ++ [AO.list l]).take H.length = H ∧ OB (freeze H.length (H ++ [AO.list l]) 12 (.ref H.length)) fun v' => Q v' H := ⟨app_take H _, _, freeze_ref h, q⟩
theorem mapM_step {f : AV → Option AV} {a b : AV} {r r' : List AV} (h : f a = some b) (h₂ : r.mapM f = some r') : (a :: r).mapM f = some (b :: r') := by
  rw [List.mapM_cons, h, h₂]; rfl
theorem mapM_end {f : AV → Option AV} : ([] : List AV).mapM f = some [] := rfl
theorem freeze_tup {m n : Nat} {l l' : List AV} (h : l.mapM (freeze m H n) = some l') : freeze m H (n + 1) (.tup l) = some (.tup l') := by
  unfold freeze
  simp only
  rw [h]; rfl
theorem freeze_int {m n : Nat} {i : Int} : freeze m H (n + 1) (.int i) = some (.int i) := rfl
theorem ob_eqSt {a : Str} {Q : Bool → Prop} (h : SeqAt.shaped (.str a) = true) (q : Q true) : OB (cmpop H .eq (.str a) (.str a)) Q := ob_eqS h h (by simpa using q)
theorem ob_eqSf {a b : Str} {Q : Bool → Prop} (h : (SeqAt.shaped (.str a) && SeqAt.shaped (.str b) && !decide (a = b)) = true) (q : Q false) : OB (cmpop H .eq (.str a) (.str b)) Q := by
  simp only [Bool.and_eq_true, Bool.not_eq_true', decide_eq_false_iff_not] at h
  exact ob_eqS h.1.1 h.1.2 (by simpa [h.2] using q)
theorem ob_neSt {a : Str} {Q : Bool → Prop} (h : SeqAt.shaped (.str a) = true) (q : Q false) : OB (cmpop H .ne (.str a) (.str a)) Q := ob_neS h h (by simpa using q)
theorem ob_neSf {a b : Str} {Q : Bool → Prop} (h : (SeqAt.shaped (.str a) && SeqAt.shaped (.str b) && !decide (a = b)) = true) (q : Q true) : OB (cmpop H .ne (.str a) (.str b)) Q := by
  simp only [Bool.and_eq_true, Bool.not_eq_true', decide_eq_false_iff_not] at h
  exact ob_neS h.1.1 h.1.2 (by simpa [h.2] using q)
/-- one by one -/
inductive All2 {α β : Type} (P : α → β → Prop) : List α → List β → Prop
  | nil : All2 P [] []
  | cons {a : α} {b : β} {l : List α} {k : List β} : P a b → All2 P l k → All2 P (a :: l) (b :: k)
theorem All2.length {α β : Type} {P : α → β → Prop} : ∀ {l : List α} {k : List β}, All2 P l k → k.length = l.length
  | _, _, .nil => rfl
  | _, _, .cons _ r => by simp [r.length]
theorem compGo_w2 {elt : DE} {k : Nat} {σ : Loc} {P : AV → AV → Prop} : ∀ (l acc : List AV) (H : AH), (∀ v ∈ l, ∀ H', W (elt (upd σ k v) H') fun x H'' => H'' = H' ∧ P v x) → acc.length + l.length ≤ 1048576 →
    ∃ xs, All2 P l xs ∧ compGo elt tTrue k σ H.length l (H ++ [.list acc]) = .ok () (H ++ [.list (acc ++ xs)])
  | [], acc, H, _, _ => ⟨[], .nil, by simp [compGo]⟩
  | v :: r, acc, H, h, hl => by
    have hl : acc.length + (r.length + 1) ≤ 1048576 := hl
    obtain ⟨x, H'', e, rfl, hp⟩ := h v (List.mem_cons_self ..) (H ++ [.list acc])
    obtain ⟨xs, ha, e'⟩ := compGo_w2 (k := k) (σ := σ) (elt := elt) (P := P) r (acc ++ [x]) H (fun w hw => h w (List.mem_cons_of_mem _ hw)) (by simp; omega)
    refine ⟨x :: xs, .cons hp ha, ?_⟩
    unfold compGo
    simp only [tTrue, Rs.bind_ok, if_true, e]
    rw [app_setAt (l' := acc ++ [x]) (by unfold appF; simp; omega)]
    show compGo elt tTrue k σ H.length r _ = _
    rw [e']
    simp
theorem All2.mem {α β : Type} {P : α → β → Prop} : ∀ {l : List α} {k : List β}, All2 P l k → ∀ b ∈ k, ∃ a ∈ l, P a b
  | _, _, .nil, b, h => nomatch h
  | _, _, .cons p r, b, h => by
    rcases List.mem_cons.mp h with rfl | h
    · exact ⟨_, List.mem_cons_self .., p⟩
    · obtain ⟨a, ha, q⟩ := r.mem b h
      exact ⟨a, List.mem_cons_of_mem _ ha, q⟩
theorem compGo_wM {X : Type} {f : X → AV} {elt : DE} {k : Nat} {σ : Loc} {P : X → AV → Prop} : ∀ (l : List X) (acc : List AV) (H : AH), (∀ v ∈ l, ∀ H', W (elt (upd σ k (f v)) H') fun x H'' => H'' = H' ∧ P v x) → acc.length + l.length ≤ 1048576 →
    ∃ xs, All2 P l xs ∧ compGo elt tTrue k σ H.length (l.map f) (H ++ [.list acc]) = .ok () (H ++ [.list (acc ++ xs)])
  | [], acc, H, _, _ => ⟨[], .nil, by simp [compGo]⟩
  | v :: r, acc, H, h, hl => by
    have hl : acc.length + (r.length + 1) ≤ 1048576 := hl
    obtain ⟨x, H'', e, rfl, hp⟩ := h v (List.mem_cons_self ..) (H ++ [.list acc])
    obtain ⟨xs, ha, e'⟩ := compGo_wM (f := f) (k := k) (σ := σ) (elt := elt) (P := P) r (acc ++ [x]) H (fun w hw => h w (List.mem_cons_of_mem _ hw)) (by simp; omega)
    refine ⟨x :: xs, .cons hp ha, ?_⟩
    rw [List.map_cons]
    unfold compGo
    simp only [tTrue, Rs.bind_ok, if_true, e]
    rw [app_setAt (l' := acc ++ [x]) (by unfold appF; simp; omega)]
    show compGo elt tTrue k σ H.length (r.map f) _ = _
    rw [e']
    simp
theorem All2.imp {α β : Type} {P Q : α → β → Prop} (h : ∀ a b, P a b → Q a b) : ∀ {l : List α} {k : List β}, All2 P l k → All2 Q l k
  | _, _, .nil => .nil
  | _, _, .cons p r => .cons (h _ _ p) (r.imp h)
/-- a comprehension over told things -/
theorem w_compM {X : Type} {f : X → AV} {elt it : DE} {k : Nat} {σ : Loc} {H : AH} {Q : AV → AH → Prop} {P : X → AV → Prop} (h : W (it σ H) fun x H₁ => ∃ l : List X, iter? x = some (l.map f) ∧ l.length ≤ 1000000 ∧ (∀ v ∈ l, ∀ H', W (elt (upd σ k (f v)) H') fun x H'' => H'' = H' ∧ flat 10 x = true ∧ P v x) ∧ ∀ xs, All2 P l xs → Q (.lst xs) H₁) :
    W (dComp elt tTrue k it σ H) Q :=
  W.bind (h.mono fun x H₁ h => by
    obtain ⟨l, e, hl, he, q⟩ := h
    obtain ⟨xs, ha, e'⟩ := compGo_wM (elt := elt) (f := f) (k := k) (σ := σ) (P := fun v x => flat 10 x = true ∧ P v x) l [] H₁ he (by simp; omega)
    refine ⟨_, _, ?_, q xs (ha.imp fun _ _ p => p.2)⟩
    simp only [e]
    unfold compEnd
    rw [e']
    simp only [Rs.bind_ok, if_pos (app_take H₁ _)]
    rw [show (12 : Nat) = 11 + 1 from rfl, freeze_ref (n := 11)]
    · simp
    · intro v hv
      simp at hv
      obtain ⟨a, _, p, _⟩ := ha.mem v hv
      exact flat_mono _ (by omega) p)
theorem w_comp2 {elt it : DE} {k : Nat} {σ : Loc} {H : AH} {Q : AV → AH → Prop} {P : AV → AV → Prop} (h : W (it σ H) fun x H₁ => ∃ l, iter? x = some l ∧ l.length ≤ 1000000 ∧ (∀ v ∈ l, ∀ H', W (elt (upd σ k v) H') fun x H'' => H'' = H' ∧ flat 10 x = true ∧ P v x) ∧ ∀ xs, All2 P l xs → Q (.lst xs) H₁) :
    W (dComp elt tTrue k it σ H) Q :=
  W.bind (h.mono fun x H₁ h => by
    obtain ⟨l, e, hl, he, q⟩ := h
    obtain ⟨xs, ha, e'⟩ := compGo_w2 (elt := elt) (k := k) (σ := σ) (P := fun v x => flat 10 x = true ∧ P v x) l [] H₁ he (by simp; omega)
    have hq : All2 P l xs := by
      clear e e' q he hl
      induction ha with
      | nil => exact .nil
      | cons p r ih => exact .cons p.2 ih
    refine ⟨_, _, ?_, q xs hq⟩
    simp only [e]
    unfold compEnd
    rw [e']
    simp only [Rs.bind_ok, if_pos (app_take H₁ _)]
    rw [show (12 : Nat) = 11 + 1 from rfl, freeze_ref (n := 11)]
    · simp
    · intro v hv
      simp at hv
      obtain ⟨a, _, p, _⟩ := ha.mem v hv
      exact flat_mono _ (by omega) p)
end Mine

namespace Mine
open PySem
set_option linter.unusedVariables false
set_option Elab.async false
section
variable {σ : Loc} {H : AH} {N : Loc → AH → Prop} {R : AV → AH → Prop} {Q : AV → AH → Prop}
/-- plain data with no truths among it -/
noncomputable def pln : Nat → AV → Bool
  | 0, _ => false
  | n + 1, v => match v with
    | .none => true
    | .int _ => true
    | .str x => SeqAt.shaped (.str x)
    | .tup l => decide (l.length ≤ 1000) && l.all (pln n)
    | .lst l => decide (l.length ≤ 1000) && l.all (pln n)
    | _ => false
theorem pln_mono : ∀ {n k : Nat} (v : AV), n ≤ k → pln n v = true → pln k v = true
  | 0, _, _, _, h => nomatch h
  | n + 1, 0, _, hk, _ => by omega
  | n + 1, k + 1, v, hk, h => by
    cases v with
    | tup l =>
      have h : (decide (l.length ≤ 1000) && l.all (pln n)) = true := h
      obtain ⟨hl, h⟩ := Bool.and_eq_true_iff.mp h
      show (decide (l.length ≤ 1000) && l.all (pln k)) = true
      exact Bool.and_eq_true_iff.mpr ⟨hl, List.all_eq_true.mpr fun v hv => pln_mono v (by omega) (List.all_eq_true.mp h v hv)⟩
    | lst l =>
      have h : (decide (l.length ≤ 1000) && l.all (pln n)) = true := h
      obtain ⟨hl, h⟩ := Bool.and_eq_true_iff.mp h
      show (decide (l.length ≤ 1000) && l.all (pln k)) = true
      exact Bool.and_eq_true_iff.mpr ⟨hl, List.all_eq_true.mpr fun v hv => pln_mono v (by omega) (List.all_eq_true.mp h v hv)⟩
    | none => rfl
    | int _ => rfl
    | str x => exact h
    | _ => exact nomatch h
theorem pln_tup {l : List AV} {n : Nat} (hl : l.length ≤ 1000) (h : ∀ v ∈ l, pln n v = true) : pln (n + 1) (.tup l) = true := Bool.and_eq_true_iff.mpr ⟨decide_eq_true hl, List.all_eq_true.mpr h⟩
theorem pln_lst {l : List AV} {n : Nat} (hl : l.length ≤ 1000) (h : ∀ v ∈ l, pln n v = true) : pln (n + 1) (.lst l) = true := Bool.and_eq_true_iff.mpr ⟨decide_eq_true hl, List.all_eq_true.mpr h⟩
theorem pln_parts {l : List AV} {n : Nat} (h : (decide (l.length ≤ 1000) && l.all (pln n)) = true) : l.length ≤ 1000 ∧ ∀ v ∈ l, pln n v = true := by
  obtain ⟨h1, h2⟩ := Bool.and_eq_true_iff.mp h
  exact ⟨of_decide_eq_true h1, List.all_eq_true.mp h2⟩
theorem data_all {n : Nat} (ih : ∀ v : AV, pln n v = true → ∃ d, data H n v = some d ∧ d.canLay0 = true ∧ d.depth ≤ n) : ∀ {l : List AV}, (∀ v ∈ l, pln n v = true) → ∃ ds, l.mapM (data H n) = some ds ∧ PyData.canLayAll0 ds = true ∧ PyData.depthAll ds ≤ n
  | [], _ => ⟨[], rfl, rfl, by simp [PyData.depthAll]⟩
  | v :: r, h => by
    obtain ⟨d, h1, h2, h3⟩ := ih v (h v (List.mem_cons_self ..))
    obtain ⟨ds, k1, k2, k3⟩ := data_all ih (l := r) fun w hw => h w (List.mem_cons_of_mem _ hw)
    refine ⟨d :: ds, by rw [List.mapM_cons, h1, k1]; rfl, by simp [PyData.canLayAll0, h2, k2], ?_⟩
    rw [PyData.depthAll]
    omega
theorem pln_data : ∀ (n : Nat) (v : AV), pln n v = true → ∃ d, data H n v = some d ∧ d.canLay0 = true ∧ d.depth ≤ n
  | 0, _, h => nomatch h
  | n + 1, v, h => by
    cases v with
    | tup l =>
      have h : (decide (l.length ≤ 1000) && l.all (pln n)) = true := h
      obtain ⟨hl, h⟩ := Bool.and_eq_true_iff.mp h
      obtain ⟨ds, h1, h2, h3⟩ := data_all (H := H) (fun v hv => pln_data n v hv) (List.all_eq_true.mp h)
      refine ⟨.tuple ds, ?_, by rw [PyData.canLay0]; exact h2, by rw [PyData.depth]; omega⟩
      show (l.mapM (data H n)).map PyData.tuple = _
      rw [h1]; rfl
    | lst l =>
      have h : (decide (l.length ≤ 1000) && l.all (pln n)) = true := h
      obtain ⟨hl, h⟩ := Bool.and_eq_true_iff.mp h
      obtain ⟨ds, h1, h2, h3⟩ := data_all (H := H) (fun v hv => pln_data n v hv) (List.all_eq_true.mp h)
      refine ⟨.list ds, ?_, by rw [PyData.canLay0]; exact h2, by rw [PyData.depth]; omega⟩
      show (l.mapM (data H n)).map PyData.list = _
      rw [h1]; rfl
    | none => exact ⟨.none, rfl, rfl, by simp [PyData.depth]⟩
    | int i => exact ⟨.int i, rfl, rfl, by simp [PyData.depth]⟩
    | str x => exact ⟨.str x, rfl, SeqAt.canLay_of_shaped h, by simp [PyData.depth]⟩
    | _ => exact nomatch h
theorem eqD_same {a b : AV} (h : pln 12 b = true) (e : data H 12 a = data H 12 b) : eqD H a b = some true := by
  obtain ⟨d, h1, h2, h3⟩ := pln_data (H := H) 12 b h
  have hs : SeqAt.shaped d = true := by
    unfold SeqAt.shaped
    rw [h2]
    simp; omega
  unfold eqD
  rw [e, h1]
  simp only [hs, Bool.and_self, if_true]
  rw [SeqAt.eqv_refl d (SeqAt.canLay_of_shaped hs)]
theorem ob_same {a b : AV} {Q : Bool → Prop} (h : pln 12 b = true) (e : data H 12 a = data H 12 b) (q : Q true) : OB (cmpop H .eq a b) Q := ⟨true, eqD_same h e, q⟩
theorem ob_nsame {a b : AV} {Q : Bool → Prop} (h : pln 12 b = true) (e : data H 12 a = data H 12 b) (q : Q false) : OB (cmpop H .ne a b) Q := ⟨false, by unfold cmpop; simp only [eqD_same h e]; rfl, q⟩
theorem data_ref {k : Nat} {l : List AV} (h : H[k]? = some (.list l)) : data H 12 (.ref k) = data H 12 (.lst l) := by
  show (match H[k]? with | some (.list l) => (l.mapM (data H 11)).map PyData.list | _ => none) = _
  rw [h]; rfl

/-- a call whose list stays its own -/
theorem run_u {m : Nat} {b : Fns → DS} {Φ : Fns} {args : List AV} (hl : args.length = m) (h : WS (b Φ (args0 args 0) H) (fun _ H₁ => Q .none H₁) (fun v H₁ => Q v H₁)) : W (Fun.run ⟨m, false, b⟩ Φ args H) Q := by
  obtain ⟨⟨f, σ⟩, H₁, e, q⟩ := h
  cases f with
  | next =>
    refine ⟨_, _, ?_, q⟩
    unfold Fun.run
    rw [if_pos hl]
    simp only [e, Rs.bind_ok, Fl.val]
    rfl
  | ret v =>
    refine ⟨_, _, ?_, q⟩
    unfold Fun.run
    rw [if_pos hl]
    simp only [e, Rs.bind_ok, Fl.val]
    rfl
theorem s_asgT {t : Tg} {a : DE} (h : W (a σ H) fun v H₁ => OB (t.bind v σ) fun σ₁ => N σ₁ H₁) : WS (sAsgT t a σ H) N R :=
  W.bind (h.mono fun v H₁ h => by
    obtain ⟨σ₁, e, q⟩ := h
    simp only [e]
    exact ⟨_, _, rfl, q⟩)
theorem w_isiT {d : DE} {ts : List BI} (h : W (d σ H) fun x H₁ => OB (isiTOp H₁ x ts) fun b => Q (.bool b) H₁) : W (dIsiT d ts σ H) Q :=
  W.bind (h.mono fun x H₁ h => toR_w (by obtain ⟨c, e, q⟩ := h; exact ⟨_, by rw [e]; rfl, q⟩))
theorem p_none {Q : Option Int → AH → Prop} (q : Q none H) : W (evPart none σ H) Q := ⟨_, _, rfl, q⟩
theorem p_some {d : DE} {Q : Option Int → AH → Prop} (h : W (d σ H) fun x H₁ => ∃ i, x = .int i ∧ Q (some i) H₁) : W (evPart (some d) σ H) Q :=
  W.bind (h.mono fun x H₁ h => by obtain ⟨i, rfl, q⟩ := h; exact ⟨_, _, rfl, q⟩)
theorem w_slc {a : DE} {lo hi : Option DE} (h : W (a σ H) fun x H₁ => W (evPart lo σ H₁) fun l H₂ => W (evPart hi σ H₂) fun u H₃ => OB (slcOp H₃ x l u) fun v => Q v H₃) : W (dSl a lo hi σ H) Q :=
  W.bind (h.mono fun x H₁ h => W.bind (h.mono fun l H₂ h => W.bind (h.mono fun u H₃ h => toR_w h)))
theorem ob_slcL {l : List AV} {lo hi : Option Int} {Q : AV → Prop} (h : (okB lo && okB hi) = true) (hl : l.length ≤ 1000000) (q : Q (.lst (cut l lo hi))) : OB (slcOp H (.lst l) lo hi) Q := by
  refine ⟨_, ?_, q⟩
  unfold slcOp
  rw [if_pos h]
  simp only [listOf?]
  rw [if_pos (by omega)]
/-- loops over a list of its own that stays as it is -/
theorem forSrc_w {t : Tg} {b : DS} {src : AH → Option (List AV)} {l : List AV} {I : List AV → Loc → AH → Prop} (hs : ∀ r σ H, I r σ H → src H = some l) (hb : ∀ v r σ H, I (v :: r) σ H → ∃ σ₁, t.bind v σ = some σ₁ ∧ WS (b σ₁ H) (fun σ₂ H₂ => I r σ₂ H₂) R) (hN : ∀ σ H, I [] σ H → N σ H) :
    ∀ (f i : Nat) (σ : Loc) (H : AH), l.length - i < f → i ≤ l.length → I (l.drop i) σ H → WS (forSrc t b src f i σ H) N R
  | 0, _, _, _, h, _, _ => by omega
  | f + 1, i, σ, H, h, h', hi => by
    unfold forSrc
    rw [hs _ _ _ hi]
    simp only
    by_cases hlt : i < l.length
    · rw [List.drop_eq_getElem_cons hlt] at hi
      obtain ⟨σ₁, e, hw⟩ := hb _ _ _ _ hi
      simp only [List.getElem?_eq_getElem hlt, e]
      exact W.bind (W.mono hw fun p H₁ h₁ => by
        obtain ⟨fl, σ₂⟩ := p
        cases fl with
        | next => exact forSrc_w hs hb hN f (i + 1) _ _ (by omega) (by omega) h₁
        | ret v => exact ⟨_, _, rfl, h₁⟩)
    · rw [List.drop_eq_nil_of_le (by omega)] at hi
      simp only [List.getElem?_eq_none (Nat.le_of_not_lt hlt), show l.length = i by omega, if_true]
      exact ⟨_, _, rfl, hN _ _ hi⟩
theorem s_forR {t : Tg} {it : DE} {b : DS} (h : W (it σ H) fun x H₁ => ∃ k, x = .ref k ∧ WS (forSrc t b (fun H => listOf? H (.ref k)) 20000 0 σ H₁) N R) : WS (sFor t it b σ H) N R :=
  W.bind (h.mono fun x H₁ h => by
    obtain ⟨k, rfl, q⟩ := h
    exact q)
/-- a comprehension over a list of its own -/
theorem compSrc_w {elt : DE} {k : Nat} {σ : Loc} {P : AV → AV → Prop} {src : AH → Option (List AV)} {l : List AV} {H : AH} (hs : ∀ acc, src (H ++ [.list acc]) = some l) (he : ∀ v ∈ l, ∀ H', W (elt (upd σ k v) H') fun x H'' => H'' = H' ∧ P v x) :
    ∀ (f i : Nat) (acc : List AV), l.length - i < f → i ≤ l.length → acc.length + (l.length - i) ≤ 1048576 → ∃ xs, All2 P (l.drop i) xs ∧ compSrc elt tTrue k σ H.length src f i (H ++ [.list acc]) = .ok () (H ++ [.list (acc ++ xs)])
  | 0, _, _, h, _, _ => by omega
  | f + 1, i, acc, h, h', hl => by
    unfold compSrc
    rw [hs acc]
    simp only
    by_cases hlt : i < l.length
    · rw [List.drop_eq_getElem_cons hlt]
      obtain ⟨x, H'', e, rfl, hp⟩ := he l[i] (List.getElem_mem hlt) (H ++ [.list acc])
      obtain ⟨xs, ha, e'⟩ := compSrc_w hs he f (i + 1) (acc ++ [x]) (by omega) (by omega) (by simp; omega)
      refine ⟨x :: xs, .cons hp ha, ?_⟩
      simp only [List.getElem?_eq_getElem hlt, tTrue, Rs.bind_ok, if_true, e]
      rw [app_setAt (l' := acc ++ [x]) (by unfold appF; simp; omega)]
      show compSrc elt tTrue k σ H.length src f (i + 1) _ = _
      rw [e']
      simp
    · rw [List.drop_eq_nil_of_le (by omega)]
      refine ⟨[], .nil, ?_⟩
      simp only [List.getElem?_eq_none (Nat.le_of_not_lt hlt), show l.length = i by omega, if_true, List.append_nil]
theorem app_listOf' {H : AH} {j : Nat} {l : List AV} (h : H[j]? = some (.list l)) (X : AH) : listOf? (H ++ X) (.ref j) = some l := by
  have hj := (List.getElem?_eq_some_iff.mp h).1
  show (match (H ++ X)[j]? with | some (.list l) => some l | _ => none) = _
  rw [List.getElem?_append_left hj, h]
theorem w_compR {elt it : DE} {k : Nat} {P : AV → AV → Prop} (h : W (it σ H) fun x H₁ => ∃ j l, x = .ref j ∧ H₁[j]? = some (.list l) ∧ l.length ≤ 10000 ∧ (∀ v ∈ l, ∀ H', W (elt (upd σ k v) H') fun x H'' => H'' = H' ∧ flat 10 x = true ∧ P v x) ∧ ∀ xs, All2 P l xs → Q (.lst xs) H₁) :
    W (dComp elt tTrue k it σ H) Q :=
  W.bind (h.mono fun x H₁ h => by
    obtain ⟨j, l, rfl, hj, hl, he, q⟩ := h
    obtain ⟨xs, ha, e'⟩ := compSrc_w (elt := elt) (k := k) (σ := σ) (H := H₁) (src := fun H => listOf? H (.ref j)) (l := l) (P := fun v x => flat 10 x = true ∧ P v x) (fun acc => app_listOf' hj _) he 20000 0 [] (by omega) (by omega) (by simp; omega)
    rw [List.drop_zero] at ha
    refine ⟨_, _, ?_, q xs (ha.imp fun _ _ p => p.2)⟩
    show compEnd H₁ _ = _
    unfold compEnd
    rw [e']
    simp only [Rs.bind_ok, if_pos (app_take H₁ _)]
    rw [show (12 : Nat) = 11 + 1 from rfl, freeze_ref (n := 11)]
    · simp
    · intro v hv
      simp at hv
      obtain ⟨a, _, p, _⟩ := ha.mem v hv
      exact flat_mono _ (by omega) p)
/-- a comprehension that picks -/
theorem compGo_f {X : Type} {f g : X → AV} {p : X → Bool} {elt : DE} {ifs : DT} {k : Nat} {σ : Loc} : ∀ (l : List X) (acc : List AV) (H : AH), (∀ x ∈ l, ∀ H', W (ifs (upd σ k (f x)) H') fun c H'' => H'' = H' ∧ c = p x) → (∀ x ∈ l, ∀ H', W (elt (upd σ k (f x)) H') fun v H'' => H'' = H' ∧ v = g x) → acc.length + l.length ≤ 1048576 →
    compGo elt ifs k σ H.length (l.map f) (H ++ [.list acc]) = .ok () (H ++ [.list (acc ++ (l.filter p).map g)])
  | [], acc, H, _, _, _ => by simp [compGo]
  | v :: r, acc, H, h, h₂, hl => by
    have hl : acc.length + (r.length + 1) ≤ 1048576 := hl
    obtain ⟨c, H'', e, rfl, rfl⟩ := h v (List.mem_cons_self ..) (H ++ [.list acc])
    rw [List.map_cons]
    unfold compGo
    simp only [e, Rs.bind_ok]
    cases hc : p v with
    | true =>
      obtain ⟨x, H'', e₂, rfl, rfl⟩ := h₂ v (List.mem_cons_self ..) (H ++ [.list acc])
      simp only [if_true, e₂, Rs.bind_ok]
      rw [app_setAt (l' := acc ++ [g v]) (by unfold appF; simp; omega)]
      show compGo elt ifs k σ H.length (r.map f) _ = _
      rw [compGo_f r (acc ++ [g v]) H (fun w hw => h w (List.mem_cons_of_mem _ hw)) (fun w hw => h₂ w (List.mem_cons_of_mem _ hw)) (by simp; omega)]
      simp [hc]
    | false =>
      simp only [Bool.false_eq_true, if_false]
      rw [compGo_f r acc H (fun w hw => h w (List.mem_cons_of_mem _ hw)) (fun w hw => h₂ w (List.mem_cons_of_mem _ hw)) (by omega)]
      simp [hc]
theorem w_compF {X : Type} {f g : X → AV} {p : X → Bool} {elt it : DE} {ifs : DT} {k : Nat} (h : W (it σ H) fun x H₁ => ∃ l : List X, iter? x = some (l.map f) ∧ l.length ≤ 1000000 ∧ (∀ x ∈ l, ∀ H', W (ifs (upd σ k (f x)) H') fun c H'' => H'' = H' ∧ c = p x) ∧ (∀ x ∈ l, ∀ H', W (elt (upd σ k (f x)) H') fun v H'' => H'' = H' ∧ v = g x) ∧ (∀ x ∈ l, flat 10 (g x) = true) ∧ Q (.lst ((l.filter p).map g)) H₁) :
    W (dComp elt ifs k it σ H) Q :=
  W.bind (h.mono fun x H₁ h => by
    obtain ⟨l, e, hl, hi, he, hf, q⟩ := h
    refine ⟨_, _, ?_, q⟩
    simp only [e]
    unfold compEnd
    rw [compGo_f l [] H₁ hi he (by simp; omega)]
    simp only [Rs.bind_ok, if_pos (app_take H₁ _)]
    rw [show (12 : Nat) = 11 + 1 from rfl, freeze_ref (n := 11)]
    · simp
    · intro v hv
      simp at hv
      obtain ⟨a, ha, rfl⟩ := hv
      exact flat_mono _ (by omega) (hf a ha.1))
/-- a comprehension, told as a map -/
theorem w_compMap {X : Type} {f g : X → AV} {elt it : DE} {k : Nat} (h : W (it σ H) fun x H₁ => ∃ l : List X, iter? x = some (l.map f) ∧ l.length ≤ 1000000 ∧ (∀ x ∈ l, ∀ H', W (elt (upd σ k (f x)) H') fun v H'' => H'' = H' ∧ v = g x) ∧ (∀ x ∈ l, flat 10 (g x) = true) ∧ Q (.lst (l.map g)) H₁) :
    W (dComp elt tTrue k it σ H) Q := by
  refine w_compF (f := f) (g := g) (p := fun _ => true) (h.mono fun x H₁ h => ?_)
  obtain ⟨l, e, hl, he, hf, q⟩ := h
  refine ⟨l, e, hl, fun x hx H' => ⟨_, _, rfl, rfl, rfl⟩, he, hf, ?_⟩
  have e : l.filter (fun _ => true) = l := List.filter_eq_self.mpr fun _ _ => rfl
  rw [e]
  exact q
theorem ob_ins {l : List AV} {v : AV} {j : Int} {Q : AH → Prop} (h : l.length ≤ 1000000) (h0 : 0 ≤ j) (h1 : j ≤ l.length) (q : Q (H ++ [.list (l.take j.toNat ++ v :: l.drop j.toNat)])) : OB (setAt (H ++ [.list l]) (.ref H.length) (insM [.int j, v])) Q := by
  refine ⟨_, app_setAt ?_, q⟩
  unfold insM insF
  simp only
  rw [if_pos ⟨by omega, h0, h1⟩]
theorem ob_lenL {l : List AV} {Q : AV → Prop} (h : l.length ≤ 1000000) (q : Q (.int l.length)) : OB (appBI H .len [.lst l]) Q := ⟨_, by show (if _ then _ else _) = _; rw [if_pos (by omega)], q⟩
theorem ob_lenR {l : List AV} {Q : AV → Prop} (h : l.length ≤ 1000000) (q : Q (.int l.length)) : OB (appBI (H ++ [.list l]) .len [.ref H.length]) Q := by
  refine ⟨_, ?_, q⟩
  show lenOp (H ++ [.list l]) (.ref H.length) = _
  unfold lenOp
  simp only
  rw [app_listOf]
  simp only
  rw [if_pos (by omega)]
theorem ob_listL {l : List AV} {Q : AV → Prop} (h : l.length ≤ 1000000) (q : Q (.lst l)) : OB (appBI H .list [.lst l]) Q := by
  refine ⟨_, ?_, q⟩
  show (if l.length ≤ 1048576 then some (AV.lst l) else none) = _
  rw [if_pos (by omega)]
theorem allTrue_go {H : AH} : ∀ (l : List AV), (∀ v ∈ l, v = .bool true) → allTrue? l = some true
  | [], _ => rfl
  | v :: r, h => by
    rw [h v (List.mem_cons_self ..)]
    show (allTrue? r).map _ = _
    rw [allTrue_go (H := H) r fun w hw => h w (List.mem_cons_of_mem _ hw)]; rfl
theorem ob_allT {l : List AV} {Q : AV → Prop} (h : ∀ v ∈ l, v = .bool true) (q : Q (.bool true)) : OB (appBI H .all [.lst l]) Q := by
  refine ⟨_, ?_, q⟩
  show Option.map AV.bool (allTrue? l) = _
  rw [allTrue_go (H := H) l h]; rfl
theorem All2.pick {α : Type} {P : α → AV → Prop} {X : Type} {f : X → AV} {R : X → Prop} : ∀ {l : List α} {k : List AV}, All2 P l k → (∀ a b, P a b → ∃ x, R x ∧ b = f x) → ∃ xs : List X, k = xs.map f ∧ ∀ x ∈ xs, R x
  | _, _, .nil, _ => ⟨[], rfl, fun _ h => (nomatch h)⟩
  | _, _, .cons p r, h => by
    obtain ⟨x, hx, e⟩ := h _ _ p
    obtain ⟨xs, e', hxs⟩ := r.pick h
    refine ⟨x :: xs, by rw [e, e']; rfl, ?_⟩
    intro y hy
    rcases List.mem_cons.mp hy with rfl | hy
    · exact hx
    · exact hxs y hy
theorem All2.all {α β : Type} {P : α → β → Prop} {T : β → Prop} (h : ∀ a b, P a b → T b) {l : List α} {k : List β} (a : All2 P l k) : ∀ b ∈ k, T b := fun b hb => by
  obtain ⟨x, _, p⟩ := a.mem b hb
  exact h x b p
theorem ob_lenM {X : Type} {f : X → AV} {l : List X} {Q : AV → Prop} (h : l.length ≤ 1000000) (q : Q (.int l.length)) : OB (appBI H .len [.lst (l.map f)]) Q := ob_lenL (by simpa using h) (by simpa using q)
theorem ob_lenMR {X : Type} {f : X → AV} {l : List X} {Q : AV → Prop} (h : l.length ≤ 1000000) (q : Q (.int l.length)) : OB (appBI (H ++ [.list (l.map f)]) .len [.ref H.length]) Q := ob_lenR (by simpa using h) (by simpa using q)
/-- loops over told things, into several names -/
theorem forMapT_w {X : Type} {t : Tg} {f : X → AV} {body : DS} (I : List X → Loc → AH → Prop) (hb : ∀ x r σ H, I (x :: r) σ H → ∃ σ₁, t.bind (f x) σ = some σ₁ ∧ WS (body σ₁ H) (I r) R) (hN : ∀ σ H, I [] σ H → N σ H) {l : List X} (h₀ : I l σ H) :
    WS (forGo t body (l.map f) σ H) N R := by
  refine forGo_w (I := fun r σ H => ∃ xs, r = xs.map f ∧ I xs σ H) ?_ ?_ _ _ _ ⟨l, rfl, h₀⟩
  · intro v r σ H h
    obtain ⟨xs, e, h⟩ := h
    cases xs with
    | nil => cases e
    | cons x xs =>
      injection e with e₁ e₂
      subst e₁
      obtain ⟨σ₁, eb, hw⟩ := hb x xs σ H h
      exact ⟨σ₁, eb, W.mono hw fun p H₁ q => by
        obtain ⟨f, σ₁⟩ := p
        cases f with
        | next => exact ⟨xs, e₂, q⟩
        | ret v => exact q⟩
  · intro σ H h
    obtain ⟨xs, e, h⟩ := h
    cases xs with
    | nil => exact hN σ H h
    | cons x xs => cases e
/-- loops over a list of told things of its own that stays as it is -/
theorem forSrcT_w {X : Type} {t : Tg} {f : X → AV} {body : DS} {src : AH → Option (List AV)} {l : List X} (I : List X → Loc → AH → Prop) (hs : ∀ r σ H, I r σ H → src H = some (l.map f)) (hb : ∀ x r σ H, I (x :: r) σ H → ∃ σ₁, t.bind (f x) σ = some σ₁ ∧ WS (body σ₁ H) (I r) R) (hN : ∀ σ H, I [] σ H → N σ H) (hl : l.length ≤ 10000) (h₀ : I l σ H) :
    WS (forSrc t body src 20000 0 σ H) N R := by
  refine forSrc_w (l := l.map f) (I := fun r σ H => ∃ xs, r = xs.map f ∧ I xs σ H) ?_ ?_ ?_ _ _ _ _ (by simp; omega) (by omega) ⟨l, by simp, h₀⟩
  · intro r σ H h
    obtain ⟨xs, e, h⟩ := h
    exact hs _ _ _ h
  · intro v r σ H h
    obtain ⟨xs, e, h⟩ := h
    cases xs with
    | nil => cases e
    | cons x xs =>
      injection e with e₁ e₂
      subst e₁
      obtain ⟨σ₁, eb, hw⟩ := hb x xs σ H h
      exact ⟨σ₁, eb, W.mono hw fun p H₁ q => by
        obtain ⟨f, σ₁⟩ := p
        cases f with
        | next => exact ⟨xs, e₂, q⟩
        | ret v => exact q⟩
  · intro σ H h
    obtain ⟨xs, e, h⟩ := h
    cases xs with
    | nil => exact hN σ H h
    | cons x xs => cases e
end
end Mine

namespace Mine
open PySem PyProof.Rows PySem.Calls PySem.SeqAt
set_option Elab.async false
set_option maxRecDepth 100000
set_option linter.unusedVariables false
/-- what the text's top names -/
structure GF (C : Cx) (mg mb : Str → Option Value) : Prop where
  B : Base C mg mb
  f_place_at : mg (Str.ofString "place_at") = some (.ref (C.fnv 0))
  f_through : mg (Str.ofString "through") = some (.ref (C.fnv 1))
  f_joined_rule : mg (Str.ofString "joined_rule") = some (.ref (C.fnv 2))
  f_joined : mg (Str.ofString "joined") = some (.ref (C.fnv 3))
  f_l_cell_at : mg (Str.ofString "_law_cell_at") = some (.ref (C.fnv 4))
  f_l_next : mg (Str.ofString "_law_next") = some (.ref (C.fnv 5))
  f_l_row : mg (Str.ofString "_law_row") = some (.ref (C.fnv 6))
  f_l_program : mg (Str.ofString "_law_program") = some (.ref (C.fnv 7))
  f_l_rule : mg (Str.ofString "_law_rule") = some (.ref (C.fnv 8))
  f_l_places : mg (Str.ofString "_law_places") = some (.ref (C.fnv 9))
  f_l_numbers : mg (Str.ofString "_law_numbers") = some (.ref (C.fnv 10))
  f_l_turned : mg (Str.ofString "_law_turned") = some (.ref (C.fnv 11))
  f_l_behind : mg (Str.ofString "_law_behind") = some (.ref (C.fnv 12))
  f_l_rule_due : mg (Str.ofString "_law_rule_due") = some (.ref (C.fnv 13))
  f_l_due : mg (Str.ofString "_law_due") = some (.ref (C.fnv 14))
  f_l_at_once : mg (Str.ofString "_law_at_once") = some (.ref (C.fnv 15))
  f_l_plain : mg (Str.ofString "_law_plain") = some (.ref (C.fnv 16))
  f_law : mg (Str.ofString "law") = some (.ref (C.fnv 17))
  b_all : mg (Str.ofString "all") = none ∧ mb (Str.ofString "all") = some (.builtin "all")
  b_bool : mg (Str.ofString "bool") = none ∧ mb (Str.ofString "bool") = some (.type "bool")
  b_int : mg (Str.ofString "int") = none ∧ mb (Str.ofString "int") = some (.type "int")
  b_isinstance : mg (Str.ofString "isinstance") = none ∧ mb (Str.ofString "isinstance") = some (.builtin "isinstance")
  b_len : mg (Str.ofString "len") = none ∧ mb (Str.ofString "len") = some (.builtin "len")
  b_list : mg (Str.ofString "list") = none ∧ mb (Str.ofString "list") = some (.type "list")
  b_range : mg (Str.ofString "range") = none ∧ mb (Str.ofString "range") = some (.type "range")
  b_tuple : mg (Str.ofString "tuple") = none ∧ mb (Str.ofString "tuple") = some (.type "tuple")

noncomputable def i_place_at : Nat := 0
noncomputable def i_through : Nat := 1
noncomputable def i_joined_rule : Nat := 2
noncomputable def i_joined : Nat := 3
noncomputable def i_l_cell_at : Nat := 4
noncomputable def i_l_next : Nat := 5
noncomputable def i_l_row : Nat := 6
noncomputable def i_l_program : Nat := 7
noncomputable def i_l_rule : Nat := 8
noncomputable def i_l_places : Nat := 9
noncomputable def i_l_numbers : Nat := 10
noncomputable def i_l_turned : Nat := 11
noncomputable def i_l_behind : Nat := 12
noncomputable def i_l_rule_due : Nat := 13
noncomputable def i_l_due : Nat := 14
noncomputable def i_l_at_once : Nat := 15
noncomputable def i_l_plain : Nat := 16
noncomputable def i_law : Nat := 17
section
variable {C : Cx} {mg mb : Str → Option Value} {n : Nat} {Φ : Fns}
noncomputable def S_place_at : Sco := { Γ := [((Str.ofString "places"), 0), ((Str.ofString "row"), 1), ((Str.ofString "place"), 2)], G := [], K := [] }
noncomputable def k_place_at (Φ : Fns) : DS :=
  sSeq (sFor (.one 2) (dLoc 0) (sIf (tVal (dCmp .eq (dSub (dLoc 2) (dCst (.int 0))) (dLoc 1))) (sRet (dLoc 2)) sNil)) (sRet (dCst .none))
theorem s_place_at (G : GF C mg mb) (hF : FS C Φ n) : SSs C n S_place_at (fbody PySem.Challenge.pw_uf030012_06 1) (k_place_at Φ) := by
  have B := G.B
  have h_places : S_place_at.Γ.lookup (Str.ofString "places") = some 0 := by decide +kernel
  have v_places : ∀ p, SE C n S_place_at (.Name (Str.ofString "places") p) (dLoc 0) := fun p => SE.loc h_places
  have h_place : S_place_at.Γ.lookup (Str.ofString "place") = some 2 := by decide +kernel
  have v_place : ∀ p, SE C n S_place_at (.Name (Str.ofString "place") p) (dLoc 2) := fun p => SE.loc h_place
  have h_row : S_place_at.Γ.lookup (Str.ofString "row") = some 1 := by decide +kernel
  have v_row : ∀ p, SE C n S_place_at (.Name (Str.ofString "row") p) (dLoc 1) := fun p => SE.loc h_row
  unfold k_place_at
  exact SSs.cons (SS.for_ (TG.one h_place) LG.name (v_places _) (SSs.one (SS.ifs (ST.cmp (op := .eq) (SE.sub (v_place _) SE.cstInt) (v_row _)) (SSs.one (SS.ret (v_place _))) SSs.nil))) (SSs.one (SS.ret SE.cstNone))

noncomputable def S_through : Sco := { Γ := [((Str.ofString "numbers"), 0), ((Str.ofString "number"), 1)], G := [], K := [] }
noncomputable def k_through (Φ : Fns) : DS :=
  sSeq (sIf (tVal (dCmp .is (dLoc 1) (dCst .none))) (sRet (dCst .none)) sNil) (sRet (dSub (dLoc 0) (dLoc 1)))
theorem s_through (G : GF C mg mb) (hF : FS C Φ n) : SSs C n S_through (fbody PySem.Challenge.pw_uf030012_06 2) (k_through Φ) := by
  have B := G.B
  have h_number : S_through.Γ.lookup (Str.ofString "number") = some 1 := by decide +kernel
  have v_number : ∀ p, SE C n S_through (.Name (Str.ofString "number") p) (dLoc 1) := fun p => SE.loc h_number
  have h_numbers : S_through.Γ.lookup (Str.ofString "numbers") = some 0 := by decide +kernel
  have v_numbers : ∀ p, SE C n S_through (.Name (Str.ofString "numbers") p) (dLoc 0) := fun p => SE.loc h_numbers
  unfold k_through
  exact SSs.cons (SS.ifs (ST.cmp (op := .is) (v_number _) SE.cstNone) (SSs.one (SS.ret SE.cstNone)) SSs.nil) (SSs.one (SS.ret (SE.sub (v_numbers _) (v_number _))))

noncomputable def S_joined_rule : Sco := { Γ := [((Str.ofString "rules"), 0), ((Str.ofString "rule"), 1), ((Str.ofString "first"), 2)], G := [(Str.ofString "through"), (Str.ofString "tuple")], K := [(Str.ofString "rule")] }
noncomputable def S_joined_rule_1 : Sco := { Γ := [((Str.ofString "number"), 3), ((Str.ofString "rule"), 1)], G := [(Str.ofString "through")], K := [(Str.ofString "rule")] }
noncomputable def k_joined_rule (Φ : Fns) : DS :=
  sSeq (sIf (tVal (dCmp .eq (dSub (dLoc 1) (dCst (.int 0))) (dCst (.str (Str.ofString "is"))))) (sRet (dLoc 1)) sNil) (sSeq (sAsg 2 (dSub (dLoc 0) (dSub (dLoc 1) (dCst (.int 1))))) (sSeq (sIf (tVal (dCmp .eq (dSub (dLoc 2) (dCst (.int 0))) (dCst (.str (Str.ofString "is"))))) (sRet (dTup [dCst (.str (Str.ofString "is")), dCall Φ (dCst (.fn i_through)) [dSub (dLoc 1) (dCst (.int 2)), dSub (dLoc 2) (dCst (.int 1))]])) sNil) (sRet (dTup [dCst (.str (Str.ofString "by")), dSub (dLoc 2) (dCst (.int 1)), dCall Φ (dCst (.bi .tuple)) [dComp (dCall Φ (dCst (.fn i_through)) [dSub (dLoc 1) (dCst (.int 2)), dLoc 3]) tTrue 3 (dSub (dLoc 2) (dCst (.int 2)))]]))))
theorem s_joined_rule (G : GF C mg mb) (hF : FS C Φ n) : SSs C n S_joined_rule (fbody PySem.Challenge.pw_uf030012_06 3) (k_joined_rule Φ) := by
  have B := G.B
  have h_rule : S_joined_rule.Γ.lookup (Str.ofString "rule") = some 1 := by decide +kernel
  have v_rule : ∀ p, SE C n S_joined_rule (.Name (Str.ofString "rule") p) (dLoc 1) := fun p => SE.loc h_rule
  have h_rules : S_joined_rule.Γ.lookup (Str.ofString "rules") = some 0 := by decide +kernel
  have v_rules : ∀ p, SE C n S_joined_rule (.Name (Str.ofString "rules") p) (dLoc 0) := fun p => SE.loc h_rules
  have h_first : S_joined_rule.Γ.lookup (Str.ofString "first") = some 2 := by decide +kernel
  have v_first : ∀ p, SE C n S_joined_rule (.Name (Str.ofString "first") p) (dLoc 2) := fun p => SE.loc h_first
  have g_through : ∀ p, SE C n S_joined_rule (.Name (Str.ofString "through") p) (dCst (.fn i_through)) := fun p => SE.glb B (by decide +kernel) G.f_through fun _ _ => .fn _
  have g_tuple : ∀ p, SE C n S_joined_rule (.Name (Str.ofString "tuple") p) (dCst (.bi .tuple)) := fun p => SE.blt B (by decide +kernel) G.b_tuple.1 G.b_tuple.2
  have h1_rule : S_joined_rule_1.Γ.lookup (Str.ofString "rule") = some 1 := by decide +kernel
  have v1_rule : ∀ p, SE C n S_joined_rule_1 (.Name (Str.ofString "rule") p) (dLoc 1) := fun p => SE.loc h1_rule
  have h1_number : S_joined_rule_1.Γ.lookup (Str.ofString "number") = some 3 := by decide +kernel
  have v1_number : ∀ p, SE C n S_joined_rule_1 (.Name (Str.ofString "number") p) (dLoc 3) := fun p => SE.loc h1_number
  have g1_through : ∀ p, SE C n S_joined_rule_1 (.Name (Str.ofString "through") p) (dCst (.fn i_through)) := fun p => SE.glb B (by decide +kernel) G.f_through fun _ _ => .fn _
  unfold k_joined_rule
  exact SSs.cons (SS.ifs (ST.cmp (op := .eq) (SE.sub (v_rule _) SE.cstInt) SE.cstStr) (SSs.one (SS.ret (v_rule _))) SSs.nil) (SSs.cons (SS.asg (SE.sub (v_rules _) (SE.sub (v_rule _) SE.cstInt)) h_first) (SSs.cons (SS.ifs (ST.cmp (op := .eq) (SE.sub (v_first _) SE.cstInt) SE.cstStr) (SSs.one (SS.ret (SE.tup (SEs.cons SE.cstStr (SEs.cons (SE.callF hF (g_through _) (SEs.cons (SE.sub (v_rule _) SE.cstInt) (SEs.cons (SE.sub (v_first _) SE.cstInt) SEs.nil))) SEs.nil))))) SSs.nil) (SSs.one (SS.ret (SE.tup (SEs.cons SE.cstStr (SEs.cons (SE.sub (v_first _) SE.cstInt) (SEs.cons (SE.callF hF (g_tuple _) (SEs.cons (SE.comp (S' := S_joined_rule_1) (SE.sub (v_first _) SE.cstInt) (CompS.of (by decide +kernel)) (SE.callF hF (g1_through _) (SEs.cons (SE.sub (v1_rule _) SE.cstInt) (SEs.cons (v1_number _) SEs.nil))) STf.none) SEs.nil)) SEs.nil))))))))

noncomputable def S_joined : Sco := { Γ := [((Str.ofString "places"), 0), ((Str.ofString "later"), 1), ((Str.ofString "found"), 2), ((Str.ofString "row"), 3), ((Str.ofString "other"), 4), ((Str.ofString "rules"), 5), ((Str.ofString "place"), 6)], G := [(Str.ofString "place_at"), (Str.ofString "tuple")], K := [(Str.ofString "rules")] }
noncomputable def S_joined_1 : Sco := { Γ := [((Str.ofString "rule"), 7), ((Str.ofString "rules"), 5)], G := [(Str.ofString "joined_rule")], K := [(Str.ofString "rules")] }
noncomputable def k_joined (Φ : Fns) : DS :=
  sSeq (sAsg 2 (dNewL [])) (sSeq (sFor (.many [3, 4, 5]) (dLoc 0) (sSeq (sAsg 6 (dCall Φ (dCst (.fn i_place_at)) [dLoc 1, dLoc 4])) (sIf (tVal (dCmp .isNot (dLoc 6) (dCst .none))) (sExpr (dMeth appM (dLoc 2) [dTup [dLoc 3, dSub (dLoc 6) (dCst (.int 1)), dCall Φ (dCst (.bi .tuple)) [dComp (dCall Φ (dCst (.fn i_joined_rule)) [dLoc 5, dLoc 7]) tTrue 7 (dSub (dLoc 6) (dCst (.int 2)))]]])) sNil))) (sRet (dLoc 2)))
theorem s_joined (G : GF C mg mb) (hF : FS C Φ n) : SSs C n S_joined (fbody PySem.Challenge.pw_uf030012_06 4) (k_joined Φ) := by
  have B := G.B
  have h_found : S_joined.Γ.lookup (Str.ofString "found") = some 2 := by decide +kernel
  have v_found : ∀ p, SE C n S_joined (.Name (Str.ofString "found") p) (dLoc 2) := fun p => SE.loc h_found
  have h_places : S_joined.Γ.lookup (Str.ofString "places") = some 0 := by decide +kernel
  have v_places : ∀ p, SE C n S_joined (.Name (Str.ofString "places") p) (dLoc 0) := fun p => SE.loc h_places
  have h_rules : S_joined.Γ.lookup (Str.ofString "rules") = some 5 := by decide +kernel
  have v_rules : ∀ p, SE C n S_joined (.Name (Str.ofString "rules") p) (dLoc 5) := fun p => SE.loc h_rules
  have h_other : S_joined.Γ.lookup (Str.ofString "other") = some 4 := by decide +kernel
  have v_other : ∀ p, SE C n S_joined (.Name (Str.ofString "other") p) (dLoc 4) := fun p => SE.loc h_other
  have h_row : S_joined.Γ.lookup (Str.ofString "row") = some 3 := by decide +kernel
  have v_row : ∀ p, SE C n S_joined (.Name (Str.ofString "row") p) (dLoc 3) := fun p => SE.loc h_row
  have h_later : S_joined.Γ.lookup (Str.ofString "later") = some 1 := by decide +kernel
  have v_later : ∀ p, SE C n S_joined (.Name (Str.ofString "later") p) (dLoc 1) := fun p => SE.loc h_later
  have h_place : S_joined.Γ.lookup (Str.ofString "place") = some 6 := by decide +kernel
  have v_place : ∀ p, SE C n S_joined (.Name (Str.ofString "place") p) (dLoc 6) := fun p => SE.loc h_place
  have g_place_at : ∀ p, SE C n S_joined (.Name (Str.ofString "place_at") p) (dCst (.fn i_place_at)) := fun p => SE.glb B (by decide +kernel) G.f_place_at fun _ _ => .fn _
  have g_tuple : ∀ p, SE C n S_joined (.Name (Str.ofString "tuple") p) (dCst (.bi .tuple)) := fun p => SE.blt B (by decide +kernel) G.b_tuple.1 G.b_tuple.2
  have h1_rules : S_joined_1.Γ.lookup (Str.ofString "rules") = some 5 := by decide +kernel
  have v1_rules : ∀ p, SE C n S_joined_1 (.Name (Str.ofString "rules") p) (dLoc 5) := fun p => SE.loc h1_rules
  have h1_rule : S_joined_1.Γ.lookup (Str.ofString "rule") = some 7 := by decide +kernel
  have v1_rule : ∀ p, SE C n S_joined_1 (.Name (Str.ofString "rule") p) (dLoc 7) := fun p => SE.loc h1_rule
  have g1_joined_rule : ∀ p, SE C n S_joined_1 (.Name (Str.ofString "joined_rule") p) (dCst (.fn i_joined_rule)) := fun p => SE.glb B (by decide +kernel) G.f_joined_rule fun _ _ => .fn _
  unfold k_joined
  exact SSs.cons (SS.asg (SE.newL SEs.nil) h_found) (SSs.cons (SS.for_ (TG.many (TNs.cons h_row (TNs.cons h_other (TNs.cons h_rules TNs.nil)))) LG.tuple (v_places _) (SSs.cons (SS.asg (SE.callF hF (g_place_at _) (SEs.cons (v_later _) (SEs.cons (v_other _) SEs.nil))) h_place) (SSs.one (SS.ifs (ST.cmp (op := .isNot) (v_place _) SE.cstNone) (SSs.one (SS.expr (SE.meth PySem.slot_list_append PySem.F.type_list_append append_ok (v_found _) (SEs.cons (SE.tup (SEs.cons (v_row _) (SEs.cons (SE.sub (v_place _) SE.cstInt) (SEs.cons (SE.callF hF (g_tuple _) (SEs.cons (SE.comp (S' := S_joined_1) (SE.sub (v_place _) SE.cstInt) (CompS.of (by decide +kernel)) (SE.callF hF (g1_joined_rule _) (SEs.cons (v1_rules _) (SEs.cons (v1_rule _) SEs.nil))) STf.none) SEs.nil)) SEs.nil)))) SEs.nil)))) SSs.nil)))) (SSs.one (SS.ret (v_found _))))

noncomputable def S_l_cell_at : Sco := { Γ := [((Str.ofString "_law_script"), 0), ((Str.ofString "_law_k"), 1)], G := [(Str.ofString "len")], K := [] }
noncomputable def k_l_cell_at (Φ : Fns) : DS :=
  sSeq (sIf (tVal (dCmp .lt (dLoc 1) (dCall Φ (dCst (.bi .len)) [dLoc 0]))) (sRet (dSub (dLoc 0) (dLoc 1))) sNil) (sRet (dCst (.int 0)))
theorem s_l_cell_at (G : GF C mg mb) (hF : FS C Φ n) : SSs C n S_l_cell_at (fbody PySem.Challenge.pw_uf030012_06 6) (k_l_cell_at Φ) := by
  have B := G.B
  have h_l_k : S_l_cell_at.Γ.lookup (Str.ofString "_law_k") = some 1 := by decide +kernel
  have v_l_k : ∀ p, SE C n S_l_cell_at (.Name (Str.ofString "_law_k") p) (dLoc 1) := fun p => SE.loc h_l_k
  have h_l_script : S_l_cell_at.Γ.lookup (Str.ofString "_law_script") = some 0 := by decide +kernel
  have v_l_script : ∀ p, SE C n S_l_cell_at (.Name (Str.ofString "_law_script") p) (dLoc 0) := fun p => SE.loc h_l_script
  have g_len : ∀ p, SE C n S_l_cell_at (.Name (Str.ofString "len") p) (dCst (.bi .len)) := fun p => SE.blt B (by decide +kernel) G.b_len.1 G.b_len.2
  unfold k_l_cell_at
  exact SSs.cons (SS.ifs (ST.cmp (op := .lt) (v_l_k _) (SE.callF hF (g_len _) (SEs.cons (v_l_script _) SEs.nil))) (SSs.one (SS.ret (SE.sub (v_l_script _) (v_l_k _)))) SSs.nil) (SSs.one (SS.ret SE.cstInt))

noncomputable def S_l_next : Sco := { Γ := [((Str.ofString "_law_seed"), 0)], G := [], K := [] }
noncomputable def k_l_next (Φ : Fns) : DS :=
  sRet (dBin .mod (dBin .add (dBin .mul (dLoc 0) (dCst (.int 48271))) (dCst (.int 11))) (dCst (.int 2147483647)))
theorem s_l_next (G : GF C mg mb) (hF : FS C Φ n) : SSs C n S_l_next (fbody PySem.Challenge.pw_uf030012_06 7) (k_l_next Φ) := by
  have B := G.B
  have h_l_seed : S_l_next.Γ.lookup (Str.ofString "_law_seed") = some 0 := by decide +kernel
  have v_l_seed : ∀ p, SE C n S_l_next (.Name (Str.ofString "_law_seed") p) (dLoc 0) := fun p => SE.loc h_l_seed
  unfold k_l_next
  exact SSs.one (SS.ret (SE.bin B (SE.bin B (SE.bin B (v_l_seed _) SE.cstInt) SE.cstInt) SE.cstInt))

noncomputable def S_l_row : Sco := { Γ := [((Str.ofString "_law_seed"), 0), ((Str.ofString "_law_boxes"), 1), ((Str.ofString "_law_most"), 2), ((Str.ofString "_law_many"), 3), ((Str.ofString "_law_pick"), 4), ((Str.ofString "_law_box"), 5)], G := [], K := [] }
noncomputable def k_l_row (Φ : Fns) : DS :=
  sSeq (sAsg 4 (dBin .mod (dLoc 0) (dCst (.int 10)))) (sSeq (sIf (tVal (dCmp .eq (dLoc 1) (dCst (.int 0)))) (sRet (dSub (dLst [dTup [dCst (.str (Str.ofString "go")), dBin .mod (dBin .fdiv (dLoc 0) (dCst (.int 10))) (dLoc 3)], dTup [dCst (.str (Str.ofString "stop"))]]) (dBin .fdiv (dLoc 4) (dCst (.int 7))))) sNil) (sSeq (sAsg 5 (dBin .mod (dBin .fdiv (dLoc 0) (dCst (.int 10))) (dLoc 1))) (sSeq (sIf (tVal (dCmp .lt (dLoc 4) (dCst (.int 2)))) (sRet (dTup [dCst (.str (Str.ofString "put")), dLoc 5, dBin .mod (dBin .fdiv (dLoc 0) (dCst (.int 50))) (dBin .add (dLoc 2) (dCst (.int 1)))])) sNil) (sSeq (sIf (tVal (dCmp .lt (dLoc 4) (dCst (.int 4)))) (sRet (dTup [dCst (.str (Str.ofString "more")), dLoc 5])) sNil) (sSeq (sIf (tVal (dCmp .eq (dLoc 4) (dCst (.int 4)))) (sRet (dTup [dCst (.str (Str.ofString "copy")), dLoc 5, dBin .mod (dBin .fdiv (dLoc 0) (dCst (.int 50))) (dLoc 1)])) sNil) (sSeq (sIf (tVal (dCmp .lt (dLoc 4) (dCst (.int 7)))) (sRet (dTup [dCst (.str (Str.ofString "tell")), dLoc 5])) sNil) (sSeq (sIf (tVal (dCmp .eq (dLoc 4) (dCst (.int 7)))) (sRet (dSub (dLst [dTup [dCst (.str (Str.ofString "go")), dBin .mod (dBin .fdiv (dLoc 0) (dCst (.int 50))) (dLoc 3)], dTup [dCst (.str (Str.ofString "stop"))]]) (dBin .mod (dBin .fdiv (dLoc 0) (dCst (.int 20))) (dCst (.int 2))))) sNil) (sRet (dTup [dCst (.str (Str.ofString "ask")), dLoc 5, dBin .mod (dBin .fdiv (dLoc 0) (dCst (.int 50))) (dLoc 3)])))))))))
theorem s_l_row (G : GF C mg mb) (hF : FS C Φ n) : SSs C n S_l_row (fbody PySem.Challenge.pw_uf030012_06 8) (k_l_row Φ) := by
  have B := G.B
  have h_l_seed : S_l_row.Γ.lookup (Str.ofString "_law_seed") = some 0 := by decide +kernel
  have v_l_seed : ∀ p, SE C n S_l_row (.Name (Str.ofString "_law_seed") p) (dLoc 0) := fun p => SE.loc h_l_seed
  have h_l_pick : S_l_row.Γ.lookup (Str.ofString "_law_pick") = some 4 := by decide +kernel
  have v_l_pick : ∀ p, SE C n S_l_row (.Name (Str.ofString "_law_pick") p) (dLoc 4) := fun p => SE.loc h_l_pick
  have h_l_boxes : S_l_row.Γ.lookup (Str.ofString "_law_boxes") = some 1 := by decide +kernel
  have v_l_boxes : ∀ p, SE C n S_l_row (.Name (Str.ofString "_law_boxes") p) (dLoc 1) := fun p => SE.loc h_l_boxes
  have h_l_many : S_l_row.Γ.lookup (Str.ofString "_law_many") = some 3 := by decide +kernel
  have v_l_many : ∀ p, SE C n S_l_row (.Name (Str.ofString "_law_many") p) (dLoc 3) := fun p => SE.loc h_l_many
  have h_l_box : S_l_row.Γ.lookup (Str.ofString "_law_box") = some 5 := by decide +kernel
  have v_l_box : ∀ p, SE C n S_l_row (.Name (Str.ofString "_law_box") p) (dLoc 5) := fun p => SE.loc h_l_box
  have h_l_most : S_l_row.Γ.lookup (Str.ofString "_law_most") = some 2 := by decide +kernel
  have v_l_most : ∀ p, SE C n S_l_row (.Name (Str.ofString "_law_most") p) (dLoc 2) := fun p => SE.loc h_l_most
  unfold k_l_row
  exact SSs.cons (SS.asg (SE.bin B (v_l_seed _) SE.cstInt) h_l_pick) (SSs.cons (SS.ifs (ST.cmp (op := .eq) (v_l_boxes _) SE.cstInt) (SSs.one (SS.ret (SE.sub (SE.lst (SEs.cons (SE.tup (SEs.cons SE.cstStr (SEs.cons (SE.bin B (SE.bin B (v_l_seed _) SE.cstInt) (v_l_many _)) SEs.nil))) (SEs.cons (SE.tup (SEs.cons SE.cstStr SEs.nil)) SEs.nil))) (SE.bin B (v_l_pick _) SE.cstInt)))) SSs.nil) (SSs.cons (SS.asg (SE.bin B (SE.bin B (v_l_seed _) SE.cstInt) (v_l_boxes _)) h_l_box) (SSs.cons (SS.ifs (ST.cmp (op := .lt) (v_l_pick _) SE.cstInt) (SSs.one (SS.ret (SE.tup (SEs.cons SE.cstStr (SEs.cons (v_l_box _) (SEs.cons (SE.bin B (SE.bin B (v_l_seed _) SE.cstInt) (SE.bin B (v_l_most _) SE.cstInt)) SEs.nil)))))) SSs.nil) (SSs.cons (SS.ifs (ST.cmp (op := .lt) (v_l_pick _) SE.cstInt) (SSs.one (SS.ret (SE.tup (SEs.cons SE.cstStr (SEs.cons (v_l_box _) SEs.nil))))) SSs.nil) (SSs.cons (SS.ifs (ST.cmp (op := .eq) (v_l_pick _) SE.cstInt) (SSs.one (SS.ret (SE.tup (SEs.cons SE.cstStr (SEs.cons (v_l_box _) (SEs.cons (SE.bin B (SE.bin B (v_l_seed _) SE.cstInt) (v_l_boxes _)) SEs.nil)))))) SSs.nil) (SSs.cons (SS.ifs (ST.cmp (op := .lt) (v_l_pick _) SE.cstInt) (SSs.one (SS.ret (SE.tup (SEs.cons SE.cstStr (SEs.cons (v_l_box _) SEs.nil))))) SSs.nil) (SSs.cons (SS.ifs (ST.cmp (op := .eq) (v_l_pick _) SE.cstInt) (SSs.one (SS.ret (SE.sub (SE.lst (SEs.cons (SE.tup (SEs.cons SE.cstStr (SEs.cons (SE.bin B (SE.bin B (v_l_seed _) SE.cstInt) (v_l_many _)) SEs.nil))) (SEs.cons (SE.tup (SEs.cons SE.cstStr SEs.nil)) SEs.nil))) (SE.bin B (SE.bin B (v_l_seed _) SE.cstInt) SE.cstInt)))) SSs.nil) (SSs.one (SS.ret (SE.tup (SEs.cons SE.cstStr (SEs.cons (v_l_box _) (SEs.cons (SE.bin B (SE.bin B (v_l_seed _) SE.cstInt) (v_l_many _)) SEs.nil)))))))))))))

noncomputable def S_l_program : Sco := { Γ := [((Str.ofString "_law_cell"), 0), ((Str.ofString "_law_seed"), 1), ((Str.ofString "_law_boxes"), 2), ((Str.ofString "_law_most"), 3), ((Str.ofString "_law_many"), 4), ((Str.ofString "_law_rows"), 5), ((Str.ofString "_law_k"), 6)], G := [(Str.ofString "_law_next"), (Str.ofString "int"), (Str.ofString "range"), (Str.ofString "_law_row")], K := [] }
noncomputable def k_l_program (Φ : Fns) : DS :=
  sSeq (sAsg 1 (dCall Φ (dCst (.fn i_l_next)) [dLoc 0])) (sSeq (sAsg 2 (dSub (dLst [dCst (.int 1), dCst (.int 2), dCst (.int 1), dCst (.int 2), dCst (.int 0), dCst (.int 3)]) (dBin .mod (dLoc 1) (dCst (.int 6))))) (sSeq (sAsg 3 (dBin .add (dCst (.int 1)) (dBin .mod (dBin .fdiv (dLoc 1) (dCst (.int 6))) (dCst (.int 4))))) (sSeq (sAsg 4 (dBin .add (dBin .add (dCst (.int 1)) (dBin .mod (dBin .fdiv (dLoc 1) (dCst (.int 24))) (dCst (.int 7)))) (dBin .mul (dCst (.int 9)) (dCall Φ (dCst (.bi .int)) [dCmp .eq (dBin .mod (dBin .fdiv (dLoc 1) (dCst (.int 200))) (dCst (.int 8))) (dCst (.int 3))])))) (sSeq (sAsg 5 (dNewL [])) (sSeq (sFor (.one 6) (dCall Φ (dCst (.bi .range)) [dLoc 4]) (sSeq (sAsg 1 (dCall Φ (dCst (.fn i_l_next)) [dBin .add (dLoc 1) (dLoc 6)])) (sExpr (dMeth appM (dLoc 5) [dCall Φ (dCst (.fn i_l_row)) [dLoc 1, dLoc 2, dLoc 3, dLoc 4]])))) (sSeq (sIf (tVal (dCmp .notIn (dSub (dSub (dLoc 5) (dNeg (dCst (.int 1)))) (dCst (.int 0))) (dTup [dCst (.str (Str.ofString "go")), dCst (.str (Str.ofString "stop"))]))) (sStore (dLoc 5) (dNeg (dCst (.int 1))) (dSub (dLst [dTup [dCst (.str (Str.ofString "go")), dBin .mod (dBin .fdiv (dLoc 1) (dCst (.int 7))) (dLoc 4)], dTup [dCst (.str (Str.ofString "stop"))]]) (dBin .fdiv (dBin .mod (dBin .fdiv (dLoc 1) (dCst (.int 1000))) (dCst (.int 3))) (dCst (.int 2))))) sNil) (sRet (dTup [dLoc 2, dLoc 3, dLoc 5]))))))))
theorem s_l_program (G : GF C mg mb) (hF : FS C Φ n) : SSs C n S_l_program (fbody PySem.Challenge.pw_uf030012_06 9) (k_l_program Φ) := by
  have B := G.B
  have h_l_cell : S_l_program.Γ.lookup (Str.ofString "_law_cell") = some 0 := by decide +kernel
  have v_l_cell : ∀ p, SE C n S_l_program (.Name (Str.ofString "_law_cell") p) (dLoc 0) := fun p => SE.loc h_l_cell
  have h_l_seed : S_l_program.Γ.lookup (Str.ofString "_law_seed") = some 1 := by decide +kernel
  have v_l_seed : ∀ p, SE C n S_l_program (.Name (Str.ofString "_law_seed") p) (dLoc 1) := fun p => SE.loc h_l_seed
  have h_l_boxes : S_l_program.Γ.lookup (Str.ofString "_law_boxes") = some 2 := by decide +kernel
  have v_l_boxes : ∀ p, SE C n S_l_program (.Name (Str.ofString "_law_boxes") p) (dLoc 2) := fun p => SE.loc h_l_boxes
  have h_l_most : S_l_program.Γ.lookup (Str.ofString "_law_most") = some 3 := by decide +kernel
  have v_l_most : ∀ p, SE C n S_l_program (.Name (Str.ofString "_law_most") p) (dLoc 3) := fun p => SE.loc h_l_most
  have h_l_many : S_l_program.Γ.lookup (Str.ofString "_law_many") = some 4 := by decide +kernel
  have v_l_many : ∀ p, SE C n S_l_program (.Name (Str.ofString "_law_many") p) (dLoc 4) := fun p => SE.loc h_l_many
  have h_l_rows : S_l_program.Γ.lookup (Str.ofString "_law_rows") = some 5 := by decide +kernel
  have v_l_rows : ∀ p, SE C n S_l_program (.Name (Str.ofString "_law_rows") p) (dLoc 5) := fun p => SE.loc h_l_rows
  have h_l_k : S_l_program.Γ.lookup (Str.ofString "_law_k") = some 6 := by decide +kernel
  have v_l_k : ∀ p, SE C n S_l_program (.Name (Str.ofString "_law_k") p) (dLoc 6) := fun p => SE.loc h_l_k
  have g_l_next : ∀ p, SE C n S_l_program (.Name (Str.ofString "_law_next") p) (dCst (.fn i_l_next)) := fun p => SE.glb B (by decide +kernel) G.f_l_next fun _ _ => .fn _
  have g_int : ∀ p, SE C n S_l_program (.Name (Str.ofString "int") p) (dCst (.bi .int)) := fun p => SE.blt B (by decide +kernel) G.b_int.1 G.b_int.2
  have g_range : ∀ p, SE C n S_l_program (.Name (Str.ofString "range") p) (dCst (.bi .range)) := fun p => SE.blt B (by decide +kernel) G.b_range.1 G.b_range.2
  have g_l_row : ∀ p, SE C n S_l_program (.Name (Str.ofString "_law_row") p) (dCst (.fn i_l_row)) := fun p => SE.glb B (by decide +kernel) G.f_l_row fun _ _ => .fn _
  unfold k_l_program
  exact SSs.cons (SS.asg (SE.callF hF (g_l_next _) (SEs.cons (v_l_cell _) SEs.nil)) h_l_seed) (SSs.cons (SS.asg (SE.sub (SE.lst (SEs.cons SE.cstInt (SEs.cons SE.cstInt (SEs.cons SE.cstInt (SEs.cons SE.cstInt (SEs.cons SE.cstInt (SEs.cons SE.cstInt SEs.nil))))))) (SE.bin B (v_l_seed _) SE.cstInt)) h_l_boxes) (SSs.cons (SS.asg (SE.bin B SE.cstInt (SE.bin B (SE.bin B (v_l_seed _) SE.cstInt) SE.cstInt)) h_l_most) (SSs.cons (SS.asg (SE.bin B (SE.bin B SE.cstInt (SE.bin B (SE.bin B (v_l_seed _) SE.cstInt) SE.cstInt)) (SE.bin B SE.cstInt (SE.callF hF (g_int _) (SEs.cons (SE.cmp (op := .eq) (SE.bin B (SE.bin B (v_l_seed _) SE.cstInt) SE.cstInt) SE.cstInt) SEs.nil)))) h_l_many) (SSs.cons (SS.asg (SE.newL SEs.nil) h_l_rows) (SSs.cons (SS.for_ (TG.one h_l_k) LG.name (SE.callF hF (g_range _) (SEs.cons (v_l_many _) SEs.nil)) (SSs.cons (SS.asg (SE.callF hF (g_l_next _) (SEs.cons (SE.bin B (v_l_seed _) (v_l_k _)) SEs.nil)) h_l_seed) (SSs.one (SS.expr (SE.meth PySem.slot_list_append PySem.F.type_list_append append_ok (v_l_rows _) (SEs.cons (SE.callF hF (g_l_row _) (SEs.cons (v_l_seed _) (SEs.cons (v_l_boxes _) (SEs.cons (v_l_most _) (SEs.cons (v_l_many _) SEs.nil))))) SEs.nil)))))) (SSs.cons (SS.ifs (ST.cmp (op := .notIn) (SE.sub (SE.sub (v_l_rows _) (SE.neg SE.cstInt)) SE.cstInt) (SE.tup (SEs.cons SE.cstStr (SEs.cons SE.cstStr SEs.nil)))) (SSs.one (SS.store (v_l_rows _) (SE.neg SE.cstInt) (SE.sub (SE.lst (SEs.cons (SE.tup (SEs.cons SE.cstStr (SEs.cons (SE.bin B (SE.bin B (v_l_seed _) SE.cstInt) (v_l_many _)) SEs.nil))) (SEs.cons (SE.tup (SEs.cons SE.cstStr SEs.nil)) SEs.nil))) (SE.bin B (SE.bin B (SE.bin B (v_l_seed _) SE.cstInt) SE.cstInt) SE.cstInt)))) SSs.nil) (SSs.one (SS.ret (SE.tup (SEs.cons (v_l_boxes _) (SEs.cons (v_l_most _) (SEs.cons (v_l_rows _) SEs.nil))))))))))))

noncomputable def S_l_rule : Sco := { Γ := [((Str.ofString "_law_seed"), 0), ((Str.ofString "_law_one"), 1), ((Str.ofString "_law_two"), 2), ((Str.ofString "_law_numbers_here"), 3), ((Str.ofString "_law_k"), 4)], G := [(Str.ofString "int"), (Str.ofString "range"), (Str.ofString "tuple")], K := [] }
noncomputable def k_l_rule (Φ : Fns) : DS :=
  sSeq (sIf (tOr (tVal (dCmp .eq (dSub (dLoc 1) (dCst (.int 0))) (dCst (.int 0)))) (tVal (dCmp .eq (dBin .mod (dLoc 0) (dCst (.int 4))) (dCst (.int 0))))) (sRet (dTup [dCst (.str (Str.ofString "is")), dSub (dLst [dBin .mod (dBin .fdiv (dLoc 0) (dCst (.int 4))) (dBin .add (dSub (dLoc 2) (dCst (.int 1))) (dCst (.int 1))), dCst .none]) (dCall Φ (dCst (.bi .int)) [dCmp .eq (dBin .mod (dBin .fdiv (dLoc 0) (dCst (.int 40))) (dCst (.int 13))) (dCst (.int 1))])])) sNil) (sSeq (sAsg 3 (dNewL [])) (sSeq (sFor (.one 4) (dCall Φ (dCst (.bi .range)) [dBin .add (dSub (dLoc 1) (dCst (.int 1))) (dCst (.int 1))]) (sExpr (dMeth appM (dLoc 3) [dSub (dLst [dBin .mod (dBin .fdiv (dLoc 0) (dBin .add (dCst (.int 4)) (dBin .mul (dCst (.int 5)) (dLoc 4)))) (dBin .add (dSub (dLoc 2) (dCst (.int 1))) (dCst (.int 1))), dCst .none]) (dCall Φ (dCst (.bi .int)) [dCmp .eq (dBin .mod (dBin .fdiv (dLoc 0) (dBin .add (dCst (.int 40)) (dBin .mul (dCst (.int 7)) (dLoc 4)))) (dCst (.int 23))) (dCst (.int 1))])]))) (sRet (dTup [dCst (.str (Str.ofString "by")), dBin .mod (dBin .fdiv (dLoc 0) (dCst (.int 400))) (dSub (dLoc 1) (dCst (.int 0))), dCall Φ (dCst (.bi .tuple)) [dLoc 3]]))))
theorem s_l_rule (G : GF C mg mb) (hF : FS C Φ n) : SSs C n S_l_rule (fbody PySem.Challenge.pw_uf030012_06 10) (k_l_rule Φ) := by
  have B := G.B
  have h_l_seed : S_l_rule.Γ.lookup (Str.ofString "_law_seed") = some 0 := by decide +kernel
  have v_l_seed : ∀ p, SE C n S_l_rule (.Name (Str.ofString "_law_seed") p) (dLoc 0) := fun p => SE.loc h_l_seed
  have h_l_one : S_l_rule.Γ.lookup (Str.ofString "_law_one") = some 1 := by decide +kernel
  have v_l_one : ∀ p, SE C n S_l_rule (.Name (Str.ofString "_law_one") p) (dLoc 1) := fun p => SE.loc h_l_one
  have h_l_two : S_l_rule.Γ.lookup (Str.ofString "_law_two") = some 2 := by decide +kernel
  have v_l_two : ∀ p, SE C n S_l_rule (.Name (Str.ofString "_law_two") p) (dLoc 2) := fun p => SE.loc h_l_two
  have h_l_numbers_here : S_l_rule.Γ.lookup (Str.ofString "_law_numbers_here") = some 3 := by decide +kernel
  have v_l_numbers_here : ∀ p, SE C n S_l_rule (.Name (Str.ofString "_law_numbers_here") p) (dLoc 3) := fun p => SE.loc h_l_numbers_here
  have h_l_k : S_l_rule.Γ.lookup (Str.ofString "_law_k") = some 4 := by decide +kernel
  have v_l_k : ∀ p, SE C n S_l_rule (.Name (Str.ofString "_law_k") p) (dLoc 4) := fun p => SE.loc h_l_k
  have g_int : ∀ p, SE C n S_l_rule (.Name (Str.ofString "int") p) (dCst (.bi .int)) := fun p => SE.blt B (by decide +kernel) G.b_int.1 G.b_int.2
  have g_range : ∀ p, SE C n S_l_rule (.Name (Str.ofString "range") p) (dCst (.bi .range)) := fun p => SE.blt B (by decide +kernel) G.b_range.1 G.b_range.2
  have g_tuple : ∀ p, SE C n S_l_rule (.Name (Str.ofString "tuple") p) (dCst (.bi .tuple)) := fun p => SE.blt B (by decide +kernel) G.b_tuple.1 G.b_tuple.2
  unfold k_l_rule
  exact SSs.cons (SS.ifs (ST.boolOp (STs.or (ST.cmp (op := .eq) (SE.sub (v_l_one _) SE.cstInt) SE.cstInt) (STs.orOne (ST.cmp (op := .eq) (SE.bin B (v_l_seed _) SE.cstInt) SE.cstInt)))) (SSs.one (SS.ret (SE.tup (SEs.cons SE.cstStr (SEs.cons (SE.sub (SE.lst (SEs.cons (SE.bin B (SE.bin B (v_l_seed _) SE.cstInt) (SE.bin B (SE.sub (v_l_two _) SE.cstInt) SE.cstInt)) (SEs.cons SE.cstNone SEs.nil))) (SE.callF hF (g_int _) (SEs.cons (SE.cmp (op := .eq) (SE.bin B (SE.bin B (v_l_seed _) SE.cstInt) SE.cstInt) SE.cstInt) SEs.nil))) SEs.nil))))) SSs.nil) (SSs.cons (SS.asg (SE.newL SEs.nil) h_l_numbers_here) (SSs.cons (SS.for_ (TG.one h_l_k) LG.name (SE.callF hF (g_range _) (SEs.cons (SE.bin B (SE.sub (v_l_one _) SE.cstInt) SE.cstInt) SEs.nil)) (SSs.one (SS.expr (SE.meth PySem.slot_list_append PySem.F.type_list_append append_ok (v_l_numbers_here _) (SEs.cons (SE.sub (SE.lst (SEs.cons (SE.bin B (SE.bin B (v_l_seed _) (SE.bin B SE.cstInt (SE.bin B SE.cstInt (v_l_k _)))) (SE.bin B (SE.sub (v_l_two _) SE.cstInt) SE.cstInt)) (SEs.cons SE.cstNone SEs.nil))) (SE.callF hF (g_int _) (SEs.cons (SE.cmp (op := .eq) (SE.bin B (SE.bin B (v_l_seed _) (SE.bin B SE.cstInt (SE.bin B SE.cstInt (v_l_k _)))) SE.cstInt) SE.cstInt) SEs.nil))) SEs.nil))))) (SSs.one (SS.ret (SE.tup (SEs.cons SE.cstStr (SEs.cons (SE.bin B (SE.bin B (v_l_seed _) SE.cstInt) (SE.sub (v_l_one _) SE.cstInt)) (SEs.cons (SE.callF hF (g_tuple _) (SEs.cons (v_l_numbers_here _) SEs.nil)) SEs.nil))))))))

noncomputable def S_l_places : Sco := { Γ := [((Str.ofString "_law_cell"), 0), ((Str.ofString "_law_one"), 1), ((Str.ofString "_law_two"), 2), ((Str.ofString "_law_found"), 3), ((Str.ofString "_law_seed"), 4), ((Str.ofString "_law_row_here"), 5), ((Str.ofString "_law_rules"), 6)], G := [(Str.ofString "_law_next"), (Str.ofString "range"), (Str.ofString "len"), (Str.ofString "tuple")], K := [(Str.ofString "_law_one"), (Str.ofString "_law_seed"), (Str.ofString "_law_two")] }
noncomputable def S_l_places_1 : Sco := { Γ := [((Str.ofString "_law_k"), 7), ((Str.ofString "_law_seed"), 4), ((Str.ofString "_law_one"), 1), ((Str.ofString "_law_two"), 2)], G := [(Str.ofString "_law_rule"), (Str.ofString "_law_next")], K := [(Str.ofString "_law_seed"), (Str.ofString "_law_one"), (Str.ofString "_law_two")] }
noncomputable def k_l_places (Φ : Fns) : DS :=
  sSeq (sAsg 3 (dNewL [])) (sSeq (sAsg 4 (dCall Φ (dCst (.fn i_l_next)) [dLoc 0])) (sSeq (sFor (.one 5) (dCall Φ (dCst (.bi .range)) [dCall Φ (dCst (.bi .len)) [dSub (dLoc 1) (dCst (.int 2))]]) (sSeq (sAsg 4 (dCall Φ (dCst (.fn i_l_next)) [dBin .add (dLoc 4) (dLoc 5)])) (sIf (tVal (dCmp .gt (dBin .mod (dLoc 4) (dCst (.int 3))) (dCst (.int 0)))) (sSeq (sAsg 6 (dCall Φ (dCst (.bi .tuple)) [dComp (dCall Φ (dCst (.fn i_l_rule)) [dCall Φ (dCst (.fn i_l_next)) [dBin .add (dLoc 4) (dBin .mul (dCst (.int 7)) (dLoc 7))], dLoc 1, dLoc 2]) tTrue 7 (dCall Φ (dCst (.bi .range)) [dSub (dLoc 2) (dCst (.int 0))])])) (sExpr (dMeth insM (dLoc 3) [dBin .mod (dBin .fdiv (dLoc 4) (dCst (.int 9))) (dBin .add (dCall Φ (dCst (.bi .len)) [dLoc 3]) (dCst (.int 1))), dTup [dLoc 5, dBin .mod (dBin .fdiv (dLoc 4) (dCst (.int 5))) (dCall Φ (dCst (.bi .len)) [dSub (dLoc 2) (dCst (.int 2))]), dLoc 6]]))) sNil))) (sRet (dLoc 3))))
theorem s_l_places (G : GF C mg mb) (hF : FS C Φ n) : SSs C n S_l_places (fbody PySem.Challenge.pw_uf030012_06 11) (k_l_places Φ) := by
  have B := G.B
  have h_l_found : S_l_places.Γ.lookup (Str.ofString "_law_found") = some 3 := by decide +kernel
  have v_l_found : ∀ p, SE C n S_l_places (.Name (Str.ofString "_law_found") p) (dLoc 3) := fun p => SE.loc h_l_found
  have h_l_cell : S_l_places.Γ.lookup (Str.ofString "_law_cell") = some 0 := by decide +kernel
  have v_l_cell : ∀ p, SE C n S_l_places (.Name (Str.ofString "_law_cell") p) (dLoc 0) := fun p => SE.loc h_l_cell
  have h_l_seed : S_l_places.Γ.lookup (Str.ofString "_law_seed") = some 4 := by decide +kernel
  have v_l_seed : ∀ p, SE C n S_l_places (.Name (Str.ofString "_law_seed") p) (dLoc 4) := fun p => SE.loc h_l_seed
  have h_l_one : S_l_places.Γ.lookup (Str.ofString "_law_one") = some 1 := by decide +kernel
  have v_l_one : ∀ p, SE C n S_l_places (.Name (Str.ofString "_law_one") p) (dLoc 1) := fun p => SE.loc h_l_one
  have h_l_row_here : S_l_places.Γ.lookup (Str.ofString "_law_row_here") = some 5 := by decide +kernel
  have v_l_row_here : ∀ p, SE C n S_l_places (.Name (Str.ofString "_law_row_here") p) (dLoc 5) := fun p => SE.loc h_l_row_here
  have h_l_two : S_l_places.Γ.lookup (Str.ofString "_law_two") = some 2 := by decide +kernel
  have v_l_two : ∀ p, SE C n S_l_places (.Name (Str.ofString "_law_two") p) (dLoc 2) := fun p => SE.loc h_l_two
  have h_l_rules : S_l_places.Γ.lookup (Str.ofString "_law_rules") = some 6 := by decide +kernel
  have v_l_rules : ∀ p, SE C n S_l_places (.Name (Str.ofString "_law_rules") p) (dLoc 6) := fun p => SE.loc h_l_rules
  have g_l_next : ∀ p, SE C n S_l_places (.Name (Str.ofString "_law_next") p) (dCst (.fn i_l_next)) := fun p => SE.glb B (by decide +kernel) G.f_l_next fun _ _ => .fn _
  have g_range : ∀ p, SE C n S_l_places (.Name (Str.ofString "range") p) (dCst (.bi .range)) := fun p => SE.blt B (by decide +kernel) G.b_range.1 G.b_range.2
  have g_len : ∀ p, SE C n S_l_places (.Name (Str.ofString "len") p) (dCst (.bi .len)) := fun p => SE.blt B (by decide +kernel) G.b_len.1 G.b_len.2
  have g_tuple : ∀ p, SE C n S_l_places (.Name (Str.ofString "tuple") p) (dCst (.bi .tuple)) := fun p => SE.blt B (by decide +kernel) G.b_tuple.1 G.b_tuple.2
  have h1_l_seed : S_l_places_1.Γ.lookup (Str.ofString "_law_seed") = some 4 := by decide +kernel
  have v1_l_seed : ∀ p, SE C n S_l_places_1 (.Name (Str.ofString "_law_seed") p) (dLoc 4) := fun p => SE.loc h1_l_seed
  have h1_l_k : S_l_places_1.Γ.lookup (Str.ofString "_law_k") = some 7 := by decide +kernel
  have v1_l_k : ∀ p, SE C n S_l_places_1 (.Name (Str.ofString "_law_k") p) (dLoc 7) := fun p => SE.loc h1_l_k
  have h1_l_one : S_l_places_1.Γ.lookup (Str.ofString "_law_one") = some 1 := by decide +kernel
  have v1_l_one : ∀ p, SE C n S_l_places_1 (.Name (Str.ofString "_law_one") p) (dLoc 1) := fun p => SE.loc h1_l_one
  have h1_l_two : S_l_places_1.Γ.lookup (Str.ofString "_law_two") = some 2 := by decide +kernel
  have v1_l_two : ∀ p, SE C n S_l_places_1 (.Name (Str.ofString "_law_two") p) (dLoc 2) := fun p => SE.loc h1_l_two
  have g1_l_rule : ∀ p, SE C n S_l_places_1 (.Name (Str.ofString "_law_rule") p) (dCst (.fn i_l_rule)) := fun p => SE.glb B (by decide +kernel) G.f_l_rule fun _ _ => .fn _
  have g1_l_next : ∀ p, SE C n S_l_places_1 (.Name (Str.ofString "_law_next") p) (dCst (.fn i_l_next)) := fun p => SE.glb B (by decide +kernel) G.f_l_next fun _ _ => .fn _
  unfold k_l_places
  exact SSs.cons (SS.asg (SE.newL SEs.nil) h_l_found) (SSs.cons (SS.asg (SE.callF hF (g_l_next _) (SEs.cons (v_l_cell _) SEs.nil)) h_l_seed) (SSs.cons (SS.for_ (TG.one h_l_row_here) LG.name (SE.callF hF (g_range _) (SEs.cons (SE.callF hF (g_len _) (SEs.cons (SE.sub (v_l_one _) SE.cstInt) SEs.nil)) SEs.nil)) (SSs.cons (SS.asg (SE.callF hF (g_l_next _) (SEs.cons (SE.bin B (v_l_seed _) (v_l_row_here _)) SEs.nil)) h_l_seed) (SSs.one (SS.ifs (ST.cmp (op := .gt) (SE.bin B (v_l_seed _) SE.cstInt) SE.cstInt) (SSs.cons (SS.asg (SE.callF hF (g_tuple _) (SEs.cons (SE.comp (S' := S_l_places_1) (SE.callF hF (g_range _) (SEs.cons (SE.sub (v_l_two _) SE.cstInt) SEs.nil)) (CompS.of (by decide +kernel)) (SE.callF hF (g1_l_rule _) (SEs.cons (SE.callF hF (g1_l_next _) (SEs.cons (SE.bin B (v1_l_seed _) (SE.bin B SE.cstInt (v1_l_k _))) SEs.nil)) (SEs.cons (v1_l_one _) (SEs.cons (v1_l_two _) SEs.nil)))) STf.none) SEs.nil)) h_l_rules) (SSs.one (SS.expr (SE.meth PySem.F.slot_list_insert PySem.F.type_list_insert insert_ok (v_l_found _) (SEs.cons (SE.bin B (SE.bin B (v_l_seed _) SE.cstInt) (SE.bin B (SE.callF hF (g_len _) (SEs.cons (v_l_found _) SEs.nil)) SE.cstInt)) (SEs.cons (SE.tup (SEs.cons (v_l_row_here _) (SEs.cons (SE.bin B (SE.bin B (v_l_seed _) SE.cstInt) (SE.callF hF (g_len _) (SEs.cons (SE.sub (v_l_two _) SE.cstInt) SEs.nil))) (SEs.cons (v_l_rules _) SEs.nil)))) SEs.nil)))))) SSs.nil)))) (SSs.one (SS.ret (v_l_found _)))))

noncomputable def S_l_numbers : Sco := { Γ := [((Str.ofString "_law_seed"), 0), ((Str.ofString "_law_program_here"), 1), ((Str.ofString "_law_found"), 2), ((Str.ofString "_law_box"), 3)], G := [(Str.ofString "range"), (Str.ofString "_law_next")], K := [] }
noncomputable def k_l_numbers (Φ : Fns) : DS :=
  sSeq (sAsg 2 (dTup [])) (sSeq (sFor (.one 3) (dCall Φ (dCst (.bi .range)) [dSub (dLoc 1) (dCst (.int 0))]) (sSeq (sAsg 0 (dCall Φ (dCst (.fn i_l_next)) [dBin .add (dLoc 0) (dLoc 3)])) (sAsg 2 (dBin .add (dLoc 2) (dTup [dBin .mod (dBin .fdiv (dLoc 0) (dCst (.int 3))) (dBin .add (dSub (dLoc 1) (dCst (.int 1))) (dCst (.int 1)))]))))) (sRet (dLoc 2)))
theorem s_l_numbers (G : GF C mg mb) (hF : FS C Φ n) : SSs C n S_l_numbers (fbody PySem.Challenge.pw_uf030012_06 12) (k_l_numbers Φ) := by
  have B := G.B
  have h_l_found : S_l_numbers.Γ.lookup (Str.ofString "_law_found") = some 2 := by decide +kernel
  have v_l_found : ∀ p, SE C n S_l_numbers (.Name (Str.ofString "_law_found") p) (dLoc 2) := fun p => SE.loc h_l_found
  have h_l_program_here : S_l_numbers.Γ.lookup (Str.ofString "_law_program_here") = some 1 := by decide +kernel
  have v_l_program_here : ∀ p, SE C n S_l_numbers (.Name (Str.ofString "_law_program_here") p) (dLoc 1) := fun p => SE.loc h_l_program_here
  have h_l_box : S_l_numbers.Γ.lookup (Str.ofString "_law_box") = some 3 := by decide +kernel
  have v_l_box : ∀ p, SE C n S_l_numbers (.Name (Str.ofString "_law_box") p) (dLoc 3) := fun p => SE.loc h_l_box
  have h_l_seed : S_l_numbers.Γ.lookup (Str.ofString "_law_seed") = some 0 := by decide +kernel
  have v_l_seed : ∀ p, SE C n S_l_numbers (.Name (Str.ofString "_law_seed") p) (dLoc 0) := fun p => SE.loc h_l_seed
  have g_range : ∀ p, SE C n S_l_numbers (.Name (Str.ofString "range") p) (dCst (.bi .range)) := fun p => SE.blt B (by decide +kernel) G.b_range.1 G.b_range.2
  have g_l_next : ∀ p, SE C n S_l_numbers (.Name (Str.ofString "_law_next") p) (dCst (.fn i_l_next)) := fun p => SE.glb B (by decide +kernel) G.f_l_next fun _ _ => .fn _
  unfold k_l_numbers
  exact SSs.cons (SS.asg (SE.tup SEs.nil) h_l_found) (SSs.cons (SS.for_ (TG.one h_l_box) LG.name (SE.callF hF (g_range _) (SEs.cons (SE.sub (v_l_program_here _) SE.cstInt) SEs.nil)) (SSs.cons (SS.asg (SE.callF hF (g_l_next _) (SEs.cons (SE.bin B (v_l_seed _) (v_l_box _)) SEs.nil)) h_l_seed) (SSs.one (SS.asg (SE.bin B (v_l_found _) (SE.tup (SEs.cons (SE.bin B (SE.bin B (v_l_seed _) SE.cstInt) (SE.bin B (SE.sub (v_l_program_here _) SE.cstInt) SE.cstInt)) SEs.nil))) h_l_found)))) (SSs.one (SS.ret (v_l_found _))))

noncomputable def S_l_turned : Sco := { Γ := [((Str.ofString "_law_rules"), 0), ((Str.ofString "_law_numbers_here"), 1), ((Str.ofString "_law_found"), 2), ((Str.ofString "_law_rule_here"), 3), ((Str.ofString "_law_number"), 4)], G := [(Str.ofString "tuple")], K := [] }
noncomputable def k_l_turned (Φ : Fns) : DS :=
  sSeq (sAsg 2 (dNewL [])) (sSeq (sFor (.one 3) (dLoc 0) (sSeq (sAsg 4 (dSub (dLoc 3) (dCst (.int 1)))) (sSeq (sIf (tVal (dCmp .eq (dSub (dLoc 3) (dCst (.int 0))) (dCst (.str (Str.ofString "by"))))) (sAsg 4 (dSub (dSub (dLoc 3) (dCst (.int 2))) (dSub (dLoc 1) (dSub (dLoc 3) (dCst (.int 1)))))) sNil) (sSeq (sIf (tVal (dCmp .is (dLoc 4) (dCst .none))) (sRet (dCst .none)) sNil) (sExpr (dMeth appM (dLoc 2) [dLoc 4])))))) (sRet (dCall Φ (dCst (.bi .tuple)) [dLoc 2])))
theorem s_l_turned (G : GF C mg mb) (hF : FS C Φ n) : SSs C n S_l_turned (fbody PySem.Challenge.pw_uf030012_06 13) (k_l_turned Φ) := by
  have B := G.B
  have h_l_found : S_l_turned.Γ.lookup (Str.ofString "_law_found") = some 2 := by decide +kernel
  have v_l_found : ∀ p, SE C n S_l_turned (.Name (Str.ofString "_law_found") p) (dLoc 2) := fun p => SE.loc h_l_found
  have h_l_rules : S_l_turned.Γ.lookup (Str.ofString "_law_rules") = some 0 := by decide +kernel
  have v_l_rules : ∀ p, SE C n S_l_turned (.Name (Str.ofString "_law_rules") p) (dLoc 0) := fun p => SE.loc h_l_rules
  have h_l_rule_here : S_l_turned.Γ.lookup (Str.ofString "_law_rule_here") = some 3 := by decide +kernel
  have v_l_rule_here : ∀ p, SE C n S_l_turned (.Name (Str.ofString "_law_rule_here") p) (dLoc 3) := fun p => SE.loc h_l_rule_here
  have h_l_number : S_l_turned.Γ.lookup (Str.ofString "_law_number") = some 4 := by decide +kernel
  have v_l_number : ∀ p, SE C n S_l_turned (.Name (Str.ofString "_law_number") p) (dLoc 4) := fun p => SE.loc h_l_number
  have h_l_numbers_here : S_l_turned.Γ.lookup (Str.ofString "_law_numbers_here") = some 1 := by decide +kernel
  have v_l_numbers_here : ∀ p, SE C n S_l_turned (.Name (Str.ofString "_law_numbers_here") p) (dLoc 1) := fun p => SE.loc h_l_numbers_here
  have g_tuple : ∀ p, SE C n S_l_turned (.Name (Str.ofString "tuple") p) (dCst (.bi .tuple)) := fun p => SE.blt B (by decide +kernel) G.b_tuple.1 G.b_tuple.2
  unfold k_l_turned
  exact SSs.cons (SS.asg (SE.newL SEs.nil) h_l_found) (SSs.cons (SS.for_ (TG.one h_l_rule_here) LG.name (v_l_rules _) (SSs.cons (SS.asg (SE.sub (v_l_rule_here _) SE.cstInt) h_l_number) (SSs.cons (SS.ifs (ST.cmp (op := .eq) (SE.sub (v_l_rule_here _) SE.cstInt) SE.cstStr) (SSs.one (SS.asg (SE.sub (SE.sub (v_l_rule_here _) SE.cstInt) (SE.sub (v_l_numbers_here _) (SE.sub (v_l_rule_here _) SE.cstInt))) h_l_number)) SSs.nil) (SSs.cons (SS.ifs (ST.cmp (op := .is) (v_l_number _) SE.cstNone) (SSs.one (SS.ret SE.cstNone)) SSs.nil) (SSs.one (SS.expr (SE.meth PySem.slot_list_append PySem.F.type_list_append append_ok (v_l_found _) (SEs.cons (v_l_number _) SEs.nil)))))))) (SSs.one (SS.ret (SE.callF hF (g_tuple _) (SEs.cons (v_l_found _) SEs.nil)))))

noncomputable def S_l_behind : Sco := { Γ := [((Str.ofString "_law_row_here"), 0), ((Str.ofString "_law_number"), 1)], G := [], K := [] }
noncomputable def k_l_behind (Φ : Fns) : DS :=
  sSeq (sIf (tVal (dCmp .is (dLoc 1) (dCst .none))) (sRet (dCst .none)) sNil) (sRet (dSub (dLoc 0) (dLoc 1)))
theorem s_l_behind (G : GF C mg mb) (hF : FS C Φ n) : SSs C n S_l_behind (fbody PySem.Challenge.pw_uf030012_06 14) (k_l_behind Φ) := by
  have B := G.B
  have h_l_number : S_l_behind.Γ.lookup (Str.ofString "_law_number") = some 1 := by decide +kernel
  have v_l_number : ∀ p, SE C n S_l_behind (.Name (Str.ofString "_law_number") p) (dLoc 1) := fun p => SE.loc h_l_number
  have h_l_row_here : S_l_behind.Γ.lookup (Str.ofString "_law_row_here") = some 0 := by decide +kernel
  have v_l_row_here : ∀ p, SE C n S_l_behind (.Name (Str.ofString "_law_row_here") p) (dLoc 0) := fun p => SE.loc h_l_row_here
  unfold k_l_behind
  exact SSs.cons (SS.ifs (ST.cmp (op := .is) (v_l_number _) SE.cstNone) (SSs.one (SS.ret SE.cstNone)) SSs.nil) (SSs.one (SS.ret (SE.sub (v_l_row_here _) (v_l_number _))))

noncomputable def S_l_rule_due : Sco := { Γ := [((Str.ofString "_law_rules"), 0), ((Str.ofString "_law_rule_here"), 1), ((Str.ofString "_law_former"), 2)], G := [(Str.ofString "_law_behind"), (Str.ofString "tuple")], K := [(Str.ofString "_law_rule_here")] }
noncomputable def S_l_rule_due_1 : Sco := { Γ := [((Str.ofString "_law_number"), 3), ((Str.ofString "_law_rule_here"), 1)], G := [(Str.ofString "_law_behind")], K := [(Str.ofString "_law_rule_here")] }
noncomputable def k_l_rule_due (Φ : Fns) : DS :=
  sSeq (sIf (tVal (dCmp .eq (dSub (dLoc 1) (dCst (.int 0))) (dCst (.str (Str.ofString "is"))))) (sRet (dLoc 1)) sNil) (sSeq (sAsg 2 (dSub (dLoc 0) (dSub (dLoc 1) (dCst (.int 1))))) (sSeq (sIf (tVal (dCmp .eq (dSub (dLoc 2) (dCst (.int 0))) (dCst (.str (Str.ofString "is"))))) (sRet (dTup [dCst (.str (Str.ofString "is")), dCall Φ (dCst (.fn i_l_behind)) [dSub (dLoc 1) (dCst (.int 2)), dSub (dLoc 2) (dCst (.int 1))]])) sNil) (sRet (dTup [dCst (.str (Str.ofString "by")), dSub (dLoc 2) (dCst (.int 1)), dCall Φ (dCst (.bi .tuple)) [dComp (dCall Φ (dCst (.fn i_l_behind)) [dSub (dLoc 1) (dCst (.int 2)), dLoc 3]) tTrue 3 (dSub (dLoc 2) (dCst (.int 2)))]]))))
theorem s_l_rule_due (G : GF C mg mb) (hF : FS C Φ n) : SSs C n S_l_rule_due (fbody PySem.Challenge.pw_uf030012_06 15) (k_l_rule_due Φ) := by
  have B := G.B
  have h_l_rule_here : S_l_rule_due.Γ.lookup (Str.ofString "_law_rule_here") = some 1 := by decide +kernel
  have v_l_rule_here : ∀ p, SE C n S_l_rule_due (.Name (Str.ofString "_law_rule_here") p) (dLoc 1) := fun p => SE.loc h_l_rule_here
  have h_l_rules : S_l_rule_due.Γ.lookup (Str.ofString "_law_rules") = some 0 := by decide +kernel
  have v_l_rules : ∀ p, SE C n S_l_rule_due (.Name (Str.ofString "_law_rules") p) (dLoc 0) := fun p => SE.loc h_l_rules
  have h_l_former : S_l_rule_due.Γ.lookup (Str.ofString "_law_former") = some 2 := by decide +kernel
  have v_l_former : ∀ p, SE C n S_l_rule_due (.Name (Str.ofString "_law_former") p) (dLoc 2) := fun p => SE.loc h_l_former
  have g_l_behind : ∀ p, SE C n S_l_rule_due (.Name (Str.ofString "_law_behind") p) (dCst (.fn i_l_behind)) := fun p => SE.glb B (by decide +kernel) G.f_l_behind fun _ _ => .fn _
  have g_tuple : ∀ p, SE C n S_l_rule_due (.Name (Str.ofString "tuple") p) (dCst (.bi .tuple)) := fun p => SE.blt B (by decide +kernel) G.b_tuple.1 G.b_tuple.2
  have h1_l_rule_here : S_l_rule_due_1.Γ.lookup (Str.ofString "_law_rule_here") = some 1 := by decide +kernel
  have v1_l_rule_here : ∀ p, SE C n S_l_rule_due_1 (.Name (Str.ofString "_law_rule_here") p) (dLoc 1) := fun p => SE.loc h1_l_rule_here
  have h1_l_number : S_l_rule_due_1.Γ.lookup (Str.ofString "_law_number") = some 3 := by decide +kernel
  have v1_l_number : ∀ p, SE C n S_l_rule_due_1 (.Name (Str.ofString "_law_number") p) (dLoc 3) := fun p => SE.loc h1_l_number
  have g1_l_behind : ∀ p, SE C n S_l_rule_due_1 (.Name (Str.ofString "_law_behind") p) (dCst (.fn i_l_behind)) := fun p => SE.glb B (by decide +kernel) G.f_l_behind fun _ _ => .fn _
  unfold k_l_rule_due
  exact SSs.cons (SS.ifs (ST.cmp (op := .eq) (SE.sub (v_l_rule_here _) SE.cstInt) SE.cstStr) (SSs.one (SS.ret (v_l_rule_here _))) SSs.nil) (SSs.cons (SS.asg (SE.sub (v_l_rules _) (SE.sub (v_l_rule_here _) SE.cstInt)) h_l_former) (SSs.cons (SS.ifs (ST.cmp (op := .eq) (SE.sub (v_l_former _) SE.cstInt) SE.cstStr) (SSs.one (SS.ret (SE.tup (SEs.cons SE.cstStr (SEs.cons (SE.callF hF (g_l_behind _) (SEs.cons (SE.sub (v_l_rule_here _) SE.cstInt) (SEs.cons (SE.sub (v_l_former _) SE.cstInt) SEs.nil))) SEs.nil))))) SSs.nil) (SSs.one (SS.ret (SE.tup (SEs.cons SE.cstStr (SEs.cons (SE.sub (v_l_former _) SE.cstInt) (SEs.cons (SE.callF hF (g_tuple _) (SEs.cons (SE.comp (S' := S_l_rule_due_1) (SE.sub (v_l_former _) SE.cstInt) (CompS.of (by decide +kernel)) (SE.callF hF (g1_l_behind _) (SEs.cons (SE.sub (v1_l_rule_here _) SE.cstInt) (SEs.cons (v1_l_number _) SEs.nil))) STf.none) SEs.nil)) SEs.nil))))))))

noncomputable def S_l_due : Sco := { Γ := [((Str.ofString "_law_places_here"), 0), ((Str.ofString "_law_later"), 1), ((Str.ofString "_law_found"), 2), ((Str.ofString "_law_row_here"), 3), ((Str.ofString "_law_other"), 4), ((Str.ofString "_law_rules"), 5), ((Str.ofString "_law_place"), 6)], G := [(Str.ofString "tuple")], K := [(Str.ofString "_law_rules")] }
noncomputable def S_l_due_1 : Sco := { Γ := [((Str.ofString "_law_rule_here"), 7), ((Str.ofString "_law_rules"), 5)], G := [(Str.ofString "_law_rule_due")], K := [(Str.ofString "_law_rules")] }
noncomputable def k_l_due (Φ : Fns) : DS :=
  sSeq (sAsg 2 (dNewL [])) (sSeq (sFor (.many [3, 4, 5]) (dLoc 0) (sFor (.one 6) (dLoc 1) (sIf (tVal (dCmp .eq (dSub (dLoc 6) (dCst (.int 0))) (dLoc 4))) (sExpr (dMeth appM (dLoc 2) [dTup [dLoc 3, dSub (dLoc 6) (dCst (.int 1)), dCall Φ (dCst (.bi .tuple)) [dComp (dCall Φ (dCst (.fn i_l_rule_due)) [dLoc 5, dLoc 7]) tTrue 7 (dSub (dLoc 6) (dCst (.int 2)))]]])) sNil))) (sRet (dLoc 2)))
theorem s_l_due (G : GF C mg mb) (hF : FS C Φ n) : SSs C n S_l_due (fbody PySem.Challenge.pw_uf030012_06 16) (k_l_due Φ) := by
  have B := G.B
  have h_l_found : S_l_due.Γ.lookup (Str.ofString "_law_found") = some 2 := by decide +kernel
  have v_l_found : ∀ p, SE C n S_l_due (.Name (Str.ofString "_law_found") p) (dLoc 2) := fun p => SE.loc h_l_found
  have h_l_places_here : S_l_due.Γ.lookup (Str.ofString "_law_places_here") = some 0 := by decide +kernel
  have v_l_places_here : ∀ p, SE C n S_l_due (.Name (Str.ofString "_law_places_here") p) (dLoc 0) := fun p => SE.loc h_l_places_here
  have h_l_rules : S_l_due.Γ.lookup (Str.ofString "_law_rules") = some 5 := by decide +kernel
  have v_l_rules : ∀ p, SE C n S_l_due (.Name (Str.ofString "_law_rules") p) (dLoc 5) := fun p => SE.loc h_l_rules
  have h_l_other : S_l_due.Γ.lookup (Str.ofString "_law_other") = some 4 := by decide +kernel
  have v_l_other : ∀ p, SE C n S_l_due (.Name (Str.ofString "_law_other") p) (dLoc 4) := fun p => SE.loc h_l_other
  have h_l_row_here : S_l_due.Γ.lookup (Str.ofString "_law_row_here") = some 3 := by decide +kernel
  have v_l_row_here : ∀ p, SE C n S_l_due (.Name (Str.ofString "_law_row_here") p) (dLoc 3) := fun p => SE.loc h_l_row_here
  have h_l_later : S_l_due.Γ.lookup (Str.ofString "_law_later") = some 1 := by decide +kernel
  have v_l_later : ∀ p, SE C n S_l_due (.Name (Str.ofString "_law_later") p) (dLoc 1) := fun p => SE.loc h_l_later
  have h_l_place : S_l_due.Γ.lookup (Str.ofString "_law_place") = some 6 := by decide +kernel
  have v_l_place : ∀ p, SE C n S_l_due (.Name (Str.ofString "_law_place") p) (dLoc 6) := fun p => SE.loc h_l_place
  have g_tuple : ∀ p, SE C n S_l_due (.Name (Str.ofString "tuple") p) (dCst (.bi .tuple)) := fun p => SE.blt B (by decide +kernel) G.b_tuple.1 G.b_tuple.2
  have h1_l_rules : S_l_due_1.Γ.lookup (Str.ofString "_law_rules") = some 5 := by decide +kernel
  have v1_l_rules : ∀ p, SE C n S_l_due_1 (.Name (Str.ofString "_law_rules") p) (dLoc 5) := fun p => SE.loc h1_l_rules
  have h1_l_rule_here : S_l_due_1.Γ.lookup (Str.ofString "_law_rule_here") = some 7 := by decide +kernel
  have v1_l_rule_here : ∀ p, SE C n S_l_due_1 (.Name (Str.ofString "_law_rule_here") p) (dLoc 7) := fun p => SE.loc h1_l_rule_here
  have g1_l_rule_due : ∀ p, SE C n S_l_due_1 (.Name (Str.ofString "_law_rule_due") p) (dCst (.fn i_l_rule_due)) := fun p => SE.glb B (by decide +kernel) G.f_l_rule_due fun _ _ => .fn _
  unfold k_l_due
  exact SSs.cons (SS.asg (SE.newL SEs.nil) h_l_found) (SSs.cons (SS.for_ (TG.many (TNs.cons h_l_row_here (TNs.cons h_l_other (TNs.cons h_l_rules TNs.nil)))) LG.tuple (v_l_places_here _) (SSs.one (SS.for_ (TG.one h_l_place) LG.name (v_l_later _) (SSs.one (SS.ifs (ST.cmp (op := .eq) (SE.sub (v_l_place _) SE.cstInt) (v_l_other _)) (SSs.one (SS.expr (SE.meth PySem.slot_list_append PySem.F.type_list_append append_ok (v_l_found _) (SEs.cons (SE.tup (SEs.cons (v_l_row_here _) (SEs.cons (SE.sub (v_l_place _) SE.cstInt) (SEs.cons (SE.callF hF (g_tuple _) (SEs.cons (SE.comp (S' := S_l_due_1) (SE.sub (v_l_place _) SE.cstInt) (CompS.of (by decide +kernel)) (SE.callF hF (g1_l_rule_due _) (SEs.cons (v1_l_rules _) (SEs.cons (v1_l_rule_here _) SEs.nil))) STf.none) SEs.nil)) SEs.nil)))) SEs.nil)))) SSs.nil))))) (SSs.one (SS.ret (v_l_found _))))

noncomputable def S_l_at_once : Sco := { Γ := [((Str.ofString "_law_places_here"), 0), ((Str.ofString "_law_later"), 1), ((Str.ofString "_law_found"), 2), ((Str.ofString "_law_numbers_here"), 3), ((Str.ofString "_law_row_here"), 4), ((Str.ofString "_law_third"), 5), ((Str.ofString "_law_rules"), 6), ((Str.ofString "_law_former"), 7), ((Str.ofString "_law_next_one"), 8), ((Str.ofString "_law_middle"), 9), ((Str.ofString "_law_due_here"), 10)], G := [(Str.ofString "_law_turned")], K := [(Str.ofString "_law_former"), (Str.ofString "_law_row_here")] }
noncomputable def S_l_at_once_1 : Sco := { Γ := [((Str.ofString "_law_place"), 11), ((Str.ofString "_law_row_here"), 4)], G := [], K := [(Str.ofString "_law_row_here")] }
noncomputable def S_l_at_once_2 : Sco := { Γ := [((Str.ofString "_law_place"), 12), ((Str.ofString "_law_former"), 7)], G := [], K := [(Str.ofString "_law_former")] }
noncomputable def k_l_at_once (Φ : Fns) : DS :=
  sSeq (sFor (.many [4, 5, 6]) (dLoc 2) (sSeq (sAsg 7 (dSub (dComp (dLoc 11) (tVal (dCmp .eq (dSub (dLoc 11) (dCst (.int 0))) (dLoc 4))) 11 (dLoc 0)) (dCst (.int 0)))) (sSeq (sAsg 8 (dSub (dComp (dLoc 12) (tVal (dCmp .eq (dSub (dLoc 12) (dCst (.int 0))) (dSub (dLoc 7) (dCst (.int 1))))) 12 (dLoc 1)) (dCst (.int 0)))) (sSeq (sAsg 9 (dCall Φ (dCst (.fn i_l_turned)) [dSub (dLoc 7) (dCst (.int 2)), dLoc 3])) (sIf (tVal (dCmp .isNot (dLoc 9) (dCst .none))) (sSeq (sAsg 10 (dCall Φ (dCst (.fn i_l_turned)) [dSub (dLoc 8) (dCst (.int 2)), dLoc 9])) (sIf (tAnd (tVal (dCmp .isNot (dLoc 10) (dCst .none))) (tVal (dCmp .ne (dCall Φ (dCst (.fn i_l_turned)) [dLoc 6, dLoc 3]) (dLoc 10)))) (sRet (dCst (.bool false))) sNil)) sNil))))) (sRet (dCst (.bool true)))
theorem s_l_at_once (G : GF C mg mb) (hF : FS C Φ n) : SSs C n S_l_at_once (fbody PySem.Challenge.pw_uf030012_06 17) (k_l_at_once Φ) := by
  have B := G.B
  have h_l_found : S_l_at_once.Γ.lookup (Str.ofString "_law_found") = some 2 := by decide +kernel
  have v_l_found : ∀ p, SE C n S_l_at_once (.Name (Str.ofString "_law_found") p) (dLoc 2) := fun p => SE.loc h_l_found
  have h_l_rules : S_l_at_once.Γ.lookup (Str.ofString "_law_rules") = some 6 := by decide +kernel
  have v_l_rules : ∀ p, SE C n S_l_at_once (.Name (Str.ofString "_law_rules") p) (dLoc 6) := fun p => SE.loc h_l_rules
  have h_l_third : S_l_at_once.Γ.lookup (Str.ofString "_law_third") = some 5 := by decide +kernel
  have v_l_third : ∀ p, SE C n S_l_at_once (.Name (Str.ofString "_law_third") p) (dLoc 5) := fun p => SE.loc h_l_third
  have h_l_row_here : S_l_at_once.Γ.lookup (Str.ofString "_law_row_here") = some 4 := by decide +kernel
  have v_l_row_here : ∀ p, SE C n S_l_at_once (.Name (Str.ofString "_law_row_here") p) (dLoc 4) := fun p => SE.loc h_l_row_here
  have h_l_places_here : S_l_at_once.Γ.lookup (Str.ofString "_law_places_here") = some 0 := by decide +kernel
  have v_l_places_here : ∀ p, SE C n S_l_at_once (.Name (Str.ofString "_law_places_here") p) (dLoc 0) := fun p => SE.loc h_l_places_here
  have h_l_former : S_l_at_once.Γ.lookup (Str.ofString "_law_former") = some 7 := by decide +kernel
  have v_l_former : ∀ p, SE C n S_l_at_once (.Name (Str.ofString "_law_former") p) (dLoc 7) := fun p => SE.loc h_l_former
  have h_l_later : S_l_at_once.Γ.lookup (Str.ofString "_law_later") = some 1 := by decide +kernel
  have v_l_later : ∀ p, SE C n S_l_at_once (.Name (Str.ofString "_law_later") p) (dLoc 1) := fun p => SE.loc h_l_later
  have h_l_next_one : S_l_at_once.Γ.lookup (Str.ofString "_law_next_one") = some 8 := by decide +kernel
  have v_l_next_one : ∀ p, SE C n S_l_at_once (.Name (Str.ofString "_law_next_one") p) (dLoc 8) := fun p => SE.loc h_l_next_one
  have h_l_numbers_here : S_l_at_once.Γ.lookup (Str.ofString "_law_numbers_here") = some 3 := by decide +kernel
  have v_l_numbers_here : ∀ p, SE C n S_l_at_once (.Name (Str.ofString "_law_numbers_here") p) (dLoc 3) := fun p => SE.loc h_l_numbers_here
  have h_l_middle : S_l_at_once.Γ.lookup (Str.ofString "_law_middle") = some 9 := by decide +kernel
  have v_l_middle : ∀ p, SE C n S_l_at_once (.Name (Str.ofString "_law_middle") p) (dLoc 9) := fun p => SE.loc h_l_middle
  have h_l_due_here : S_l_at_once.Γ.lookup (Str.ofString "_law_due_here") = some 10 := by decide +kernel
  have v_l_due_here : ∀ p, SE C n S_l_at_once (.Name (Str.ofString "_law_due_here") p) (dLoc 10) := fun p => SE.loc h_l_due_here
  have g_l_turned : ∀ p, SE C n S_l_at_once (.Name (Str.ofString "_law_turned") p) (dCst (.fn i_l_turned)) := fun p => SE.glb B (by decide +kernel) G.f_l_turned fun _ _ => .fn _
  have h1_l_place : S_l_at_once_1.Γ.lookup (Str.ofString "_law_place") = some 11 := by decide +kernel
  have v1_l_place : ∀ p, SE C n S_l_at_once_1 (.Name (Str.ofString "_law_place") p) (dLoc 11) := fun p => SE.loc h1_l_place
  have h1_l_row_here : S_l_at_once_1.Γ.lookup (Str.ofString "_law_row_here") = some 4 := by decide +kernel
  have v1_l_row_here : ∀ p, SE C n S_l_at_once_1 (.Name (Str.ofString "_law_row_here") p) (dLoc 4) := fun p => SE.loc h1_l_row_here
  have h2_l_place : S_l_at_once_2.Γ.lookup (Str.ofString "_law_place") = some 12 := by decide +kernel
  have v2_l_place : ∀ p, SE C n S_l_at_once_2 (.Name (Str.ofString "_law_place") p) (dLoc 12) := fun p => SE.loc h2_l_place
  have h2_l_former : S_l_at_once_2.Γ.lookup (Str.ofString "_law_former") = some 7 := by decide +kernel
  have v2_l_former : ∀ p, SE C n S_l_at_once_2 (.Name (Str.ofString "_law_former") p) (dLoc 7) := fun p => SE.loc h2_l_former
  unfold k_l_at_once
  exact SSs.cons (SS.for_ (TG.many (TNs.cons h_l_row_here (TNs.cons h_l_third (TNs.cons h_l_rules TNs.nil)))) LG.tuple (v_l_found _) (SSs.cons (SS.asg (SE.sub (SE.comp (S' := S_l_at_once_1) (v_l_places_here _) (CompS.of (by decide +kernel)) (v1_l_place _) (STf.one (ST.cmp (op := .eq) (SE.sub (v1_l_place _) SE.cstInt) (v1_l_row_here _)))) SE.cstInt) h_l_former) (SSs.cons (SS.asg (SE.sub (SE.comp (S' := S_l_at_once_2) (v_l_later _) (CompS.of (by decide +kernel)) (v2_l_place _) (STf.one (ST.cmp (op := .eq) (SE.sub (v2_l_place _) SE.cstInt) (SE.sub (v2_l_former _) SE.cstInt)))) SE.cstInt) h_l_next_one) (SSs.cons (SS.asg (SE.callF hF (g_l_turned _) (SEs.cons (SE.sub (v_l_former _) SE.cstInt) (SEs.cons (v_l_numbers_here _) SEs.nil))) h_l_middle) (SSs.one (SS.ifs (ST.cmp (op := .isNot) (v_l_middle _) SE.cstNone) (SSs.cons (SS.asg (SE.callF hF (g_l_turned _) (SEs.cons (SE.sub (v_l_next_one _) SE.cstInt) (SEs.cons (v_l_middle _) SEs.nil))) h_l_due_here) (SSs.one (SS.ifs (ST.boolOp (STs.and (ST.cmp (op := .isNot) (v_l_due_here _) SE.cstNone) (STs.andOne (ST.cmp (op := .ne) (SE.callF hF (g_l_turned _) (SEs.cons (v_l_rules _) (SEs.cons (v_l_numbers_here _) SEs.nil))) (v_l_due_here _))))) (SSs.one (SS.ret SE.cstBool)) SSs.nil))) SSs.nil)))))) (SSs.one (SS.ret SE.cstBool))

noncomputable def S_l_plain : Sco := { Γ := [((Str.ofString "_law_thing"), 0)], G := [(Str.ofString "isinstance"), (Str.ofString "tuple"), (Str.ofString "list"), (Str.ofString "all"), (Str.ofString "bool")], K := [] }
noncomputable def S_l_plain_1 : Sco := { Γ := [((Str.ofString "_law_part"), 1)], G := [(Str.ofString "_law_plain")], K := [] }
noncomputable def k_l_plain (Φ : Fns) : DS :=
  sSeq (sIf (tVal (dIsiT (dLoc 0) [.tuple, .list])) (sRet (dCall Φ (dCst (.bi .all)) [dComp (dCall Φ (dCst (.fn i_l_plain)) [dLoc 1]) tTrue 1 (dLoc 0)])) sNil) (sRet (dNot (tVal (dCall Φ (dCst (.bi .isinstance)) [dLoc 0, dCst (.bi .bool)]))))
theorem s_l_plain (G : GF C mg mb) (hF : FS C Φ n) : SSs C n S_l_plain (fbody PySem.Challenge.pw_uf030012_06 18) (k_l_plain Φ) := by
  have B := G.B
  have h_l_thing : S_l_plain.Γ.lookup (Str.ofString "_law_thing") = some 0 := by decide +kernel
  have v_l_thing : ∀ p, SE C n S_l_plain (.Name (Str.ofString "_law_thing") p) (dLoc 0) := fun p => SE.loc h_l_thing
  have g_isinstance : ∀ p, SE C n S_l_plain (.Name (Str.ofString "isinstance") p) (dCst (.bi .isinstance)) := fun p => SE.blt B (by decide +kernel) G.b_isinstance.1 G.b_isinstance.2
  have g_tuple : ∀ p, SE C n S_l_plain (.Name (Str.ofString "tuple") p) (dCst (.bi .tuple)) := fun p => SE.blt B (by decide +kernel) G.b_tuple.1 G.b_tuple.2
  have g_list : ∀ p, SE C n S_l_plain (.Name (Str.ofString "list") p) (dCst (.bi .list)) := fun p => SE.blt B (by decide +kernel) G.b_list.1 G.b_list.2
  have g_all : ∀ p, SE C n S_l_plain (.Name (Str.ofString "all") p) (dCst (.bi .all)) := fun p => SE.blt B (by decide +kernel) G.b_all.1 G.b_all.2
  have g_bool : ∀ p, SE C n S_l_plain (.Name (Str.ofString "bool") p) (dCst (.bi .bool)) := fun p => SE.blt B (by decide +kernel) G.b_bool.1 G.b_bool.2
  have h1_l_part : S_l_plain_1.Γ.lookup (Str.ofString "_law_part") = some 1 := by decide +kernel
  have v1_l_part : ∀ p, SE C n S_l_plain_1 (.Name (Str.ofString "_law_part") p) (dLoc 1) := fun p => SE.loc h1_l_part
  have g1_l_plain : ∀ p, SE C n S_l_plain_1 (.Name (Str.ofString "_law_plain") p) (dCst (.fn i_l_plain)) := fun p => SE.glb B (by decide +kernel) G.f_l_plain fun _ _ => .fn _
  unfold k_l_plain
  exact SSs.cons (SS.ifs (ST.val (SE.isiT (g_isinstance _) (v_l_thing _) (SEs.cons (g_tuple _) (SEs.cons (g_list _) SEs.nil)))) (SSs.one (SS.ret (SE.callF hF (g_all _) (SEs.cons (SE.comp (S' := S_l_plain_1) (v_l_thing _) (CompS.of (by decide +kernel)) (SE.callF hF (g1_l_plain _) (SEs.cons (v1_l_part _) SEs.nil)) STf.none) SEs.nil)))) SSs.nil) (SSs.one (SS.ret (SE.not (SE.callF hF (g_isinstance _) (SEs.cons (v_l_thing _) (SEs.cons (g_bool _) SEs.nil))))))

noncomputable def S_law : Sco := { Γ := [((Str.ofString "_law_script"), 0), ((Str.ofString "_law_one"), 1), ((Str.ofString "_law_two"), 2), ((Str.ofString "_law_three"), 3), ((Str.ofString "_law_places_here"), 4), ((Str.ofString "_law_later"), 5), ((Str.ofString "_law_handed"), 6), ((Str.ofString "_law_due_here"), 7), ((Str.ofString "_law_found"), 8), ((Str.ofString "_law_fewer"), 9)], G := [(Str.ofString "_law_program"), (Str.ofString "_law_cell_at"), (Str.ofString "_law_places"), (Str.ofString "list"), (Str.ofString "_law_due"), (Str.ofString "joined"), (Str.ofString "_law_plain"), (Str.ofString "isinstance"), (Str.ofString "_law_at_once"), (Str.ofString "_law_numbers")], K := [] }
noncomputable def k_law (Φ : Fns) : DS :=
  sSeq (sAsg 1 (dCall Φ (dCst (.fn i_l_program)) [dCall Φ (dCst (.fn i_l_cell_at)) [dLoc 0, dCst (.int 0)]])) (sSeq (sAsg 2 (dCall Φ (dCst (.fn i_l_program)) [dCall Φ (dCst (.fn i_l_cell_at)) [dLoc 0, dCst (.int 1)]])) (sSeq (sAsg 3 (dCall Φ (dCst (.fn i_l_program)) [dCall Φ (dCst (.fn i_l_cell_at)) [dLoc 0, dCst (.int 2)]])) (sSeq (sAsg 4 (dCall Φ (dCst (.fn i_l_places)) [dCall Φ (dCst (.fn i_l_cell_at)) [dLoc 0, dCst (.int 3)], dLoc 1, dLoc 2])) (sSeq (sAsg 5 (dCall Φ (dCst (.fn i_l_places)) [dCall Φ (dCst (.fn i_l_cell_at)) [dLoc 0, dCst (.int 4)], dLoc 2, dLoc 3])) (sSeq (sAsg 6 (dLst [dCall Φ (dCst (.bi .list)) [dLoc 4], dCall Φ (dCst (.bi .list)) [dLoc 5]])) (sSeq (sAsg 7 (dCall Φ (dCst (.fn i_l_due)) [dLoc 4, dLoc 5])) (sSeq (sAsg 8 (dCall Φ (dCst (.fn i_joined)) [dSub (dLoc 6) (dCst (.int 0)), dSub (dLoc 6) (dCst (.int 1))])) (sSeq (sIf (tOr (tNot (tVal (dCall Φ (dCst (.bi .isinstance)) [dLoc 8, dCst (.bi .list)]))) (tOr (tVal (dCmp .ne (dLoc 8) (dLoc 7))) (tOr (tNot (tVal (dCall Φ (dCst (.fn i_l_plain)) [dLoc 8]))) (tVal (dCmp .ne (dLoc 6) (dLst [dLoc 4, dLoc 5])))))) (sRet (dCst (.bool false))) sNil) (sSeq (sIf (tNot (tVal (dCall Φ (dCst (.fn i_l_at_once)) [dLoc 4, dLoc 5, dLoc 8, dCall Φ (dCst (.fn i_l_numbers)) [dCall Φ (dCst (.fn i_l_cell_at)) [dLoc 0, dCst (.int 5)], dLoc 1]]))) (sRet (dCst (.bool false))) sNil) (sSeq (sAsg 9 (dCall Φ (dCst (.fn i_joined)) [dSub (dLoc 6) (dCst (.int 0)), dSl (dSub (dLoc 6) (dCst (.int 1))) (some (dCst (.int 1))) none])) (sSeq (sIf (tOr (tVal (dCmp .ne (dLoc 9) (dCall Φ (dCst (.fn i_l_due)) [dLoc 4, dSl (dLoc 5) (some (dCst (.int 1))) none]))) (tVal (dCmp .ne (dLoc 8) (dLoc 7)))) (sRet (dCst (.bool false))) sNil) (sSeq (sExpr (dMeth appM (dLoc 8) [dCst .none])) (sRet (dAnd (dCmp .eq (dCall Φ (dCst (.fn i_joined)) [dSub (dLoc 6) (dCst (.int 0)), dSub (dLoc 6) (dCst (.int 1))]) (dLoc 7)) (dCmp .eq (dLoc 6) (dLst [dLoc 4, dLoc 5]))))))))))))))))
theorem s_law (G : GF C mg mb) (hF : FS C Φ n) : SSs C n S_law (fbody PySem.Challenge.pw_uf030012_06 19) (k_law Φ) := by
  have B := G.B
  have h_l_script : S_law.Γ.lookup (Str.ofString "_law_script") = some 0 := by decide +kernel
  have v_l_script : ∀ p, SE C n S_law (.Name (Str.ofString "_law_script") p) (dLoc 0) := fun p => SE.loc h_l_script
  have h_l_one : S_law.Γ.lookup (Str.ofString "_law_one") = some 1 := by decide +kernel
  have v_l_one : ∀ p, SE C n S_law (.Name (Str.ofString "_law_one") p) (dLoc 1) := fun p => SE.loc h_l_one
  have h_l_two : S_law.Γ.lookup (Str.ofString "_law_two") = some 2 := by decide +kernel
  have v_l_two : ∀ p, SE C n S_law (.Name (Str.ofString "_law_two") p) (dLoc 2) := fun p => SE.loc h_l_two
  have h_l_three : S_law.Γ.lookup (Str.ofString "_law_three") = some 3 := by decide +kernel
  have v_l_three : ∀ p, SE C n S_law (.Name (Str.ofString "_law_three") p) (dLoc 3) := fun p => SE.loc h_l_three
  have h_l_places_here : S_law.Γ.lookup (Str.ofString "_law_places_here") = some 4 := by decide +kernel
  have v_l_places_here : ∀ p, SE C n S_law (.Name (Str.ofString "_law_places_here") p) (dLoc 4) := fun p => SE.loc h_l_places_here
  have h_l_later : S_law.Γ.lookup (Str.ofString "_law_later") = some 5 := by decide +kernel
  have v_l_later : ∀ p, SE C n S_law (.Name (Str.ofString "_law_later") p) (dLoc 5) := fun p => SE.loc h_l_later
  have h_l_handed : S_law.Γ.lookup (Str.ofString "_law_handed") = some 6 := by decide +kernel
  have v_l_handed : ∀ p, SE C n S_law (.Name (Str.ofString "_law_handed") p) (dLoc 6) := fun p => SE.loc h_l_handed
  have h_l_due_here : S_law.Γ.lookup (Str.ofString "_law_due_here") = some 7 := by decide +kernel
  have v_l_due_here : ∀ p, SE C n S_law (.Name (Str.ofString "_law_due_here") p) (dLoc 7) := fun p => SE.loc h_l_due_here
  have h_l_found : S_law.Γ.lookup (Str.ofString "_law_found") = some 8 := by decide +kernel
  have v_l_found : ∀ p, SE C n S_law (.Name (Str.ofString "_law_found") p) (dLoc 8) := fun p => SE.loc h_l_found
  have h_l_fewer : S_law.Γ.lookup (Str.ofString "_law_fewer") = some 9 := by decide +kernel
  have v_l_fewer : ∀ p, SE C n S_law (.Name (Str.ofString "_law_fewer") p) (dLoc 9) := fun p => SE.loc h_l_fewer
  have g_l_program : ∀ p, SE C n S_law (.Name (Str.ofString "_law_program") p) (dCst (.fn i_l_program)) := fun p => SE.glb B (by decide +kernel) G.f_l_program fun _ _ => .fn _
  have g_l_cell_at : ∀ p, SE C n S_law (.Name (Str.ofString "_law_cell_at") p) (dCst (.fn i_l_cell_at)) := fun p => SE.glb B (by decide +kernel) G.f_l_cell_at fun _ _ => .fn _
  have g_l_places : ∀ p, SE C n S_law (.Name (Str.ofString "_law_places") p) (dCst (.fn i_l_places)) := fun p => SE.glb B (by decide +kernel) G.f_l_places fun _ _ => .fn _
  have g_list : ∀ p, SE C n S_law (.Name (Str.ofString "list") p) (dCst (.bi .list)) := fun p => SE.blt B (by decide +kernel) G.b_list.1 G.b_list.2
  have g_l_due : ∀ p, SE C n S_law (.Name (Str.ofString "_law_due") p) (dCst (.fn i_l_due)) := fun p => SE.glb B (by decide +kernel) G.f_l_due fun _ _ => .fn _
  have g_joined : ∀ p, SE C n S_law (.Name (Str.ofString "joined") p) (dCst (.fn i_joined)) := fun p => SE.glb B (by decide +kernel) G.f_joined fun _ _ => .fn _
  have g_l_plain : ∀ p, SE C n S_law (.Name (Str.ofString "_law_plain") p) (dCst (.fn i_l_plain)) := fun p => SE.glb B (by decide +kernel) G.f_l_plain fun _ _ => .fn _
  have g_isinstance : ∀ p, SE C n S_law (.Name (Str.ofString "isinstance") p) (dCst (.bi .isinstance)) := fun p => SE.blt B (by decide +kernel) G.b_isinstance.1 G.b_isinstance.2
  have g_l_at_once : ∀ p, SE C n S_law (.Name (Str.ofString "_law_at_once") p) (dCst (.fn i_l_at_once)) := fun p => SE.glb B (by decide +kernel) G.f_l_at_once fun _ _ => .fn _
  have g_l_numbers : ∀ p, SE C n S_law (.Name (Str.ofString "_law_numbers") p) (dCst (.fn i_l_numbers)) := fun p => SE.glb B (by decide +kernel) G.f_l_numbers fun _ _ => .fn _
  unfold k_law
  exact SSs.cons (SS.asg (SE.callF hF (g_l_program _) (SEs.cons (SE.callF hF (g_l_cell_at _) (SEs.cons (v_l_script _) (SEs.cons SE.cstInt SEs.nil))) SEs.nil)) h_l_one) (SSs.cons (SS.asg (SE.callF hF (g_l_program _) (SEs.cons (SE.callF hF (g_l_cell_at _) (SEs.cons (v_l_script _) (SEs.cons SE.cstInt SEs.nil))) SEs.nil)) h_l_two) (SSs.cons (SS.asg (SE.callF hF (g_l_program _) (SEs.cons (SE.callF hF (g_l_cell_at _) (SEs.cons (v_l_script _) (SEs.cons SE.cstInt SEs.nil))) SEs.nil)) h_l_three) (SSs.cons (SS.asg (SE.callF hF (g_l_places _) (SEs.cons (SE.callF hF (g_l_cell_at _) (SEs.cons (v_l_script _) (SEs.cons SE.cstInt SEs.nil))) (SEs.cons (v_l_one _) (SEs.cons (v_l_two _) SEs.nil)))) h_l_places_here) (SSs.cons (SS.asg (SE.callF hF (g_l_places _) (SEs.cons (SE.callF hF (g_l_cell_at _) (SEs.cons (v_l_script _) (SEs.cons SE.cstInt SEs.nil))) (SEs.cons (v_l_two _) (SEs.cons (v_l_three _) SEs.nil)))) h_l_later) (SSs.cons (SS.asg (SE.lst (SEs.cons (SE.callF hF (g_list _) (SEs.cons (v_l_places_here _) SEs.nil)) (SEs.cons (SE.callF hF (g_list _) (SEs.cons (v_l_later _) SEs.nil)) SEs.nil))) h_l_handed) (SSs.cons (SS.asg (SE.callF hF (g_l_due _) (SEs.cons (v_l_places_here _) (SEs.cons (v_l_later _) SEs.nil))) h_l_due_here) (SSs.cons (SS.asg (SE.callF hF (g_joined _) (SEs.cons (SE.sub (v_l_handed _) SE.cstInt) (SEs.cons (SE.sub (v_l_handed _) SE.cstInt) SEs.nil))) h_l_found) (SSs.cons (SS.ifs (ST.boolOp (STs.or (ST.not (ST.val (SE.callF hF (g_isinstance _) (SEs.cons (v_l_found _) (SEs.cons (g_list _) SEs.nil))))) (STs.or (ST.cmp (op := .ne) (v_l_found _) (v_l_due_here _)) (STs.or (ST.not (ST.val (SE.callF hF (g_l_plain _) (SEs.cons (v_l_found _) SEs.nil)))) (STs.orOne (ST.cmp (op := .ne) (v_l_handed _) (SE.lst (SEs.cons (v_l_places_here _) (SEs.cons (v_l_later _) SEs.nil))))))))) (SSs.one (SS.ret SE.cstBool)) SSs.nil) (SSs.cons (SS.ifs (ST.not (ST.val (SE.callF hF (g_l_at_once _) (SEs.cons (v_l_places_here _) (SEs.cons (v_l_later _) (SEs.cons (v_l_found _) (SEs.cons (SE.callF hF (g_l_numbers _) (SEs.cons (SE.callF hF (g_l_cell_at _) (SEs.cons (v_l_script _) (SEs.cons SE.cstInt SEs.nil))) (SEs.cons (v_l_one _) SEs.nil))) SEs.nil))))))) (SSs.one (SS.ret SE.cstBool)) SSs.nil) (SSs.cons (SS.asg (SE.callF hF (g_joined _) (SEs.cons (SE.sub (v_l_handed _) SE.cstInt) (SEs.cons (SE.slc (SE.sub (v_l_handed _) SE.cstInt) (SP.some SE.cstInt) SP.none) SEs.nil))) h_l_fewer) (SSs.cons (SS.ifs (ST.boolOp (STs.or (ST.cmp (op := .ne) (v_l_fewer _) (SE.callF hF (g_l_due _) (SEs.cons (v_l_places_here _) (SEs.cons (SE.slc (v_l_later _) (SP.some SE.cstInt) SP.none) SEs.nil)))) (STs.orOne (ST.cmp (op := .ne) (v_l_found _) (v_l_due_here _))))) (SSs.one (SS.ret SE.cstBool)) SSs.nil) (SSs.cons (SS.expr (SE.meth PySem.slot_list_append PySem.F.type_list_append append_ok (v_l_found _) (SEs.cons SE.cstNone SEs.nil))) (SSs.one (SS.ret (SE.boolOp (SBs.and (SE.cmp (op := .eq) (SE.callF hF (g_joined _) (SEs.cons (SE.sub (v_l_handed _) SE.cstInt) (SEs.cons (SE.sub (v_l_handed _) SE.cstInt) SEs.nil))) (v_l_due_here _)) (SBs.one (SE.cmp (op := .eq) (v_l_handed _) (SE.lst (SEs.cons (v_l_places_here _) (SEs.cons (v_l_later _) SEs.nil)))))))))))))))))))))

end
noncomputable def tbl : Nat → Option Fun
  | 0 => some ⟨2, true, k_place_at⟩
  | 1 => some ⟨2, true, k_through⟩
  | 2 => some ⟨2, true, k_joined_rule⟩
  | 3 => some ⟨2, false, k_joined⟩
  | 4 => some ⟨2, true, k_l_cell_at⟩
  | 5 => some ⟨1, true, k_l_next⟩
  | 6 => some ⟨4, true, k_l_row⟩
  | 7 => some ⟨1, true, k_l_program⟩
  | 8 => some ⟨3, true, k_l_rule⟩
  | 9 => some ⟨3, true, k_l_places⟩
  | 10 => some ⟨2, true, k_l_numbers⟩
  | 11 => some ⟨2, true, k_l_turned⟩
  | 12 => some ⟨2, true, k_l_behind⟩
  | 13 => some ⟨2, true, k_l_rule_due⟩
  | 14 => some ⟨2, true, k_l_due⟩
  | 15 => some ⟨4, true, k_l_at_once⟩
  | 16 => some ⟨1, true, k_l_plain⟩
  | 17 => some ⟨1, true, k_law⟩
  | _ => none
theorem e_place_at {n : Nat} {args : List AV} {H : AH} {Q : AV → AH → Prop} (h : W (Fun.run ⟨2, true, k_place_at⟩ (fns tbl n) args H) Q) : W (fns tbl (n + 1) i_place_at args H) Q := fns_w rfl h
theorem e_through {n : Nat} {args : List AV} {H : AH} {Q : AV → AH → Prop} (h : W (Fun.run ⟨2, true, k_through⟩ (fns tbl n) args H) Q) : W (fns tbl (n + 1) i_through args H) Q := fns_w rfl h
theorem e_joined_rule {n : Nat} {args : List AV} {H : AH} {Q : AV → AH → Prop} (h : W (Fun.run ⟨2, true, k_joined_rule⟩ (fns tbl n) args H) Q) : W (fns tbl (n + 1) i_joined_rule args H) Q := fns_w rfl h
theorem e_joined {n : Nat} {args : List AV} {H : AH} {Q : AV → AH → Prop} (h : W (Fun.run ⟨2, false, k_joined⟩ (fns tbl n) args H) Q) : W (fns tbl (n + 1) i_joined args H) Q := fns_w rfl h
theorem e_l_cell_at {n : Nat} {args : List AV} {H : AH} {Q : AV → AH → Prop} (h : W (Fun.run ⟨2, true, k_l_cell_at⟩ (fns tbl n) args H) Q) : W (fns tbl (n + 1) i_l_cell_at args H) Q := fns_w rfl h
theorem e_l_next {n : Nat} {args : List AV} {H : AH} {Q : AV → AH → Prop} (h : W (Fun.run ⟨1, true, k_l_next⟩ (fns tbl n) args H) Q) : W (fns tbl (n + 1) i_l_next args H) Q := fns_w rfl h
theorem e_l_row {n : Nat} {args : List AV} {H : AH} {Q : AV → AH → Prop} (h : W (Fun.run ⟨4, true, k_l_row⟩ (fns tbl n) args H) Q) : W (fns tbl (n + 1) i_l_row args H) Q := fns_w rfl h
theorem e_l_program {n : Nat} {args : List AV} {H : AH} {Q : AV → AH → Prop} (h : W (Fun.run ⟨1, true, k_l_program⟩ (fns tbl n) args H) Q) : W (fns tbl (n + 1) i_l_program args H) Q := fns_w rfl h
theorem e_l_rule {n : Nat} {args : List AV} {H : AH} {Q : AV → AH → Prop} (h : W (Fun.run ⟨3, true, k_l_rule⟩ (fns tbl n) args H) Q) : W (fns tbl (n + 1) i_l_rule args H) Q := fns_w rfl h
theorem e_l_places {n : Nat} {args : List AV} {H : AH} {Q : AV → AH → Prop} (h : W (Fun.run ⟨3, true, k_l_places⟩ (fns tbl n) args H) Q) : W (fns tbl (n + 1) i_l_places args H) Q := fns_w rfl h
theorem e_l_numbers {n : Nat} {args : List AV} {H : AH} {Q : AV → AH → Prop} (h : W (Fun.run ⟨2, true, k_l_numbers⟩ (fns tbl n) args H) Q) : W (fns tbl (n + 1) i_l_numbers args H) Q := fns_w rfl h
theorem e_l_turned {n : Nat} {args : List AV} {H : AH} {Q : AV → AH → Prop} (h : W (Fun.run ⟨2, true, k_l_turned⟩ (fns tbl n) args H) Q) : W (fns tbl (n + 1) i_l_turned args H) Q := fns_w rfl h
theorem e_l_behind {n : Nat} {args : List AV} {H : AH} {Q : AV → AH → Prop} (h : W (Fun.run ⟨2, true, k_l_behind⟩ (fns tbl n) args H) Q) : W (fns tbl (n + 1) i_l_behind args H) Q := fns_w rfl h
theorem e_l_rule_due {n : Nat} {args : List AV} {H : AH} {Q : AV → AH → Prop} (h : W (Fun.run ⟨2, true, k_l_rule_due⟩ (fns tbl n) args H) Q) : W (fns tbl (n + 1) i_l_rule_due args H) Q := fns_w rfl h
theorem e_l_due {n : Nat} {args : List AV} {H : AH} {Q : AV → AH → Prop} (h : W (Fun.run ⟨2, true, k_l_due⟩ (fns tbl n) args H) Q) : W (fns tbl (n + 1) i_l_due args H) Q := fns_w rfl h
theorem e_l_at_once {n : Nat} {args : List AV} {H : AH} {Q : AV → AH → Prop} (h : W (Fun.run ⟨4, true, k_l_at_once⟩ (fns tbl n) args H) Q) : W (fns tbl (n + 1) i_l_at_once args H) Q := fns_w rfl h
theorem e_l_plain {n : Nat} {args : List AV} {H : AH} {Q : AV → AH → Prop} (h : W (Fun.run ⟨1, true, k_l_plain⟩ (fns tbl n) args H) Q) : W (fns tbl (n + 1) i_l_plain args H) Q := fns_w rfl h
theorem e_law {n : Nat} {args : List AV} {H : AH} {Q : AV → AH → Prop} (h : W (Fun.run ⟨1, true, k_law⟩ (fns tbl n) args H) Q) : W (fns tbl (n + 1) i_law args H) Q := fns_w rfl h
noncomputable def fnames : List Str := [(Str.ofString "place_at"), (Str.ofString "through"), (Str.ofString "joined_rule"), (Str.ofString "joined"), (Str.ofString "_law_cell_at"), (Str.ofString "_law_next"), (Str.ofString "_law_row"), (Str.ofString "_law_program"), (Str.ofString "_law_rule"), (Str.ofString "_law_places"), (Str.ofString "_law_numbers"), (Str.ofString "_law_turned"), (Str.ofString "_law_behind"), (Str.ofString "_law_rule_due"), (Str.ofString "_law_due"), (Str.ofString "_law_at_once"), (Str.ofString "_law_plain"), (Str.ofString "law")]
theorem tie {w : World} {s₁ : Shared} {mg mb : Str → Option Value} {K : PySem.W.Frag} {p : Program} {loose : List Str} {mean : ExcName → Option Value} (X : K.In s₁.heap) (T : Top p loose mean mg mb s₁.heap) (hseer : importsNone p = true) {fa : Addr} (hmg : mg (Str.ofString "law") = some (.ref fa))
    {l : Addr} {vs : List Value} {ns : List Int} (hl : s₁.heap.IsList l vs.toArray) (hi : IntsAre vs ns)
    (n0 : isGlob K (Str.ofString "place_at") = true) (d0 : FdOk K (Str.ofString "place_at") PySem.Challenge.pw_uf030012_06 1 [(Str.ofString "places"), (Str.ofString "row")])
    (n1 : isGlob K (Str.ofString "through") = true) (d1 : FdOk K (Str.ofString "through") PySem.Challenge.pw_uf030012_06 2 [(Str.ofString "numbers"), (Str.ofString "number")])
    (n2 : isGlob K (Str.ofString "joined_rule") = true) (d2 : FdOk K (Str.ofString "joined_rule") PySem.Challenge.pw_uf030012_06 3 [(Str.ofString "rules"), (Str.ofString "rule")])
    (n3 : isGlob K (Str.ofString "joined") = true) (d3 : FdOk K (Str.ofString "joined") PySem.Challenge.pw_uf030012_06 4 [(Str.ofString "places"), (Str.ofString "later")])
    (n4 : isGlob K (Str.ofString "_law_cell_at") = true) (d4 : FdOk K (Str.ofString "_law_cell_at") PySem.Challenge.pw_uf030012_06 6 [(Str.ofString "_law_script"), (Str.ofString "_law_k")])
    (n5 : isGlob K (Str.ofString "_law_next") = true) (d5 : FdOk K (Str.ofString "_law_next") PySem.Challenge.pw_uf030012_06 7 [(Str.ofString "_law_seed")])
    (n6 : isGlob K (Str.ofString "_law_row") = true) (d6 : FdOk K (Str.ofString "_law_row") PySem.Challenge.pw_uf030012_06 8 [(Str.ofString "_law_seed"), (Str.ofString "_law_boxes"), (Str.ofString "_law_most"), (Str.ofString "_law_many")])
    (n7 : isGlob K (Str.ofString "_law_program") = true) (d7 : FdOk K (Str.ofString "_law_program") PySem.Challenge.pw_uf030012_06 9 [(Str.ofString "_law_cell")])
    (n8 : isGlob K (Str.ofString "_law_rule") = true) (d8 : FdOk K (Str.ofString "_law_rule") PySem.Challenge.pw_uf030012_06 10 [(Str.ofString "_law_seed"), (Str.ofString "_law_one"), (Str.ofString "_law_two")])
    (n9 : isGlob K (Str.ofString "_law_places") = true) (d9 : FdOk K (Str.ofString "_law_places") PySem.Challenge.pw_uf030012_06 11 [(Str.ofString "_law_cell"), (Str.ofString "_law_one"), (Str.ofString "_law_two")])
    (n10 : isGlob K (Str.ofString "_law_numbers") = true) (d10 : FdOk K (Str.ofString "_law_numbers") PySem.Challenge.pw_uf030012_06 12 [(Str.ofString "_law_seed"), (Str.ofString "_law_program_here")])
    (n11 : isGlob K (Str.ofString "_law_turned") = true) (d11 : FdOk K (Str.ofString "_law_turned") PySem.Challenge.pw_uf030012_06 13 [(Str.ofString "_law_rules"), (Str.ofString "_law_numbers_here")])
    (n12 : isGlob K (Str.ofString "_law_behind") = true) (d12 : FdOk K (Str.ofString "_law_behind") PySem.Challenge.pw_uf030012_06 14 [(Str.ofString "_law_row_here"), (Str.ofString "_law_number")])
    (n13 : isGlob K (Str.ofString "_law_rule_due") = true) (d13 : FdOk K (Str.ofString "_law_rule_due") PySem.Challenge.pw_uf030012_06 15 [(Str.ofString "_law_rules"), (Str.ofString "_law_rule_here")])
    (n14 : isGlob K (Str.ofString "_law_due") = true) (d14 : FdOk K (Str.ofString "_law_due") PySem.Challenge.pw_uf030012_06 16 [(Str.ofString "_law_places_here"), (Str.ofString "_law_later")])
    (n15 : isGlob K (Str.ofString "_law_at_once") = true) (d15 : FdOk K (Str.ofString "_law_at_once") PySem.Challenge.pw_uf030012_06 17 [(Str.ofString "_law_places_here"), (Str.ofString "_law_later"), (Str.ofString "_law_found"), (Str.ofString "_law_numbers_here")])
    (n16 : isGlob K (Str.ofString "_law_plain") = true) (d16 : FdOk K (Str.ofString "_law_plain") PySem.Challenge.pw_uf030012_06 18 [(Str.ofString "_law_thing")])
    (n17 : isGlob K (Str.ofString "law") = true) (d17 : FdOk K (Str.ofString "law") PySem.Challenge.pw_uf030012_06 19 [(Str.ofString "_law_script")])
    (b_all : notGlob K (Str.ofString "all") = true)
    (b_bool : notGlob K (Str.ofString "bool") = true)
    (b_int : notGlob K (Str.ofString "int") = true)
    (b_isinstance : notGlob K (Str.ofString "isinstance") = true)
    (b_len : notGlob K (Str.ofString "len") = true)
    (b_list : notGlob K (Str.ofString "list") = true)
    (b_range : notGlob K (Str.ofString "range") = true)
    (b_tuple : notGlob K (Str.ofString "tuple") = true)
    (hrun : ∃ H', fns tbl 12 i_law [.lst (ns.map .int)] [] = .ok (.bool true) H')
    {R : Result → Shared → Prop} (hR : ∀ s', (∀ b o, s₁.heap.get? b = some o → s'.heap.get? b = some o) → s'.os = s₁.os → s'.gens = s₁.gens → R (.ok (.ret (.bool true))) s') :
    codeAny (model PySem.Challenge.pw_uf030012_06 w) callerA (.call (.ref fa) ⟨[.ref l], []⟩) R s₁ := by
  let C : Cx := { prog := PySem.Challenge.pw_uf030012_06, w := w, base := s₁.heap, fnv := fun k => addrOf K (fnames.getD k (Str.ofString "")), clv := fun _ => 0 }
  have B : Base C mg mb := ⟨T.g, T.b, T.nolimit, T.seer hseer, rfl⟩
  have G : GF C mg mb := {
    B := B
    f_place_at := isGlob_mg X T.g n0
    f_through := isGlob_mg X T.g n1
    f_joined_rule := isGlob_mg X T.g n2
    f_joined := isGlob_mg X T.g n3
    f_l_cell_at := isGlob_mg X T.g n4
    f_l_next := isGlob_mg X T.g n5
    f_l_row := isGlob_mg X T.g n6
    f_l_program := isGlob_mg X T.g n7
    f_l_rule := isGlob_mg X T.g n8
    f_l_places := isGlob_mg X T.g n9
    f_l_numbers := isGlob_mg X T.g n10
    f_l_turned := isGlob_mg X T.g n11
    f_l_behind := isGlob_mg X T.g n12
    f_l_rule_due := isGlob_mg X T.g n13
    f_l_due := isGlob_mg X T.g n14
    f_l_at_once := isGlob_mg X T.g n15
    f_l_plain := isGlob_mg X T.g n16
    f_law := isGlob_mg X T.g n17
    b_all := ⟨notGlob_mg X T.g b_all, (T.builtins _ (by decide +kernel)).trans (by decide +kernel)⟩
    b_bool := ⟨notGlob_mg X T.g b_bool, (T.builtins _ (by decide +kernel)).trans (by decide +kernel)⟩
    b_int := ⟨notGlob_mg X T.g b_int, (T.builtins _ (by decide +kernel)).trans (by decide +kernel)⟩
    b_isinstance := ⟨notGlob_mg X T.g b_isinstance, (T.builtins _ (by decide +kernel)).trans (by decide +kernel)⟩
    b_len := ⟨notGlob_mg X T.g b_len, (T.builtins _ (by decide +kernel)).trans (by decide +kernel)⟩
    b_list := ⟨notGlob_mg X T.g b_list, (T.builtins _ (by decide +kernel)).trans (by decide +kernel)⟩
    b_range := ⟨notGlob_mg X T.g b_range, (T.builtins _ (by decide +kernel)).trans (by decide +kernel)⟩
    b_tuple := ⟨notGlob_mg X T.g b_tuple, (T.builtins _ (by decide +kernel)).trans (by decide +kernel)⟩
  }
  have hfa : fa = C.fnv 17 := by
    have := G.f_law
    rw [hmg] at this
    exact Value.ref.inj (Option.some.inj this)
  rw [hfa]
  refine law_code (C := C) B tbl ?_ (k := 17) rfl rfl hl hi hrun hR
  intro k f hk
  match k, hk with
  | 0, hk => cases hk; exact d0.defOk X rfl S_place_at rfl (by decide +kernel) fun n Φ hF => s_place_at G hF
  | 1, hk => cases hk; exact d1.defOk X rfl S_through rfl (by decide +kernel) fun n Φ hF => s_through G hF
  | 2, hk => cases hk; exact d2.defOk X rfl S_joined_rule rfl (by decide +kernel) fun n Φ hF => s_joined_rule G hF
  | 3, hk => cases hk; exact d3.defOk X rfl S_joined rfl (by decide +kernel) fun n Φ hF => s_joined G hF
  | 4, hk => cases hk; exact d4.defOk X rfl S_l_cell_at rfl (by decide +kernel) fun n Φ hF => s_l_cell_at G hF
  | 5, hk => cases hk; exact d5.defOk X rfl S_l_next rfl (by decide +kernel) fun n Φ hF => s_l_next G hF
  | 6, hk => cases hk; exact d6.defOk X rfl S_l_row rfl (by decide +kernel) fun n Φ hF => s_l_row G hF
  | 7, hk => cases hk; exact d7.defOk X rfl S_l_program rfl (by decide +kernel) fun n Φ hF => s_l_program G hF
  | 8, hk => cases hk; exact d8.defOk X rfl S_l_rule rfl (by decide +kernel) fun n Φ hF => s_l_rule G hF
  | 9, hk => cases hk; exact d9.defOk X rfl S_l_places rfl (by decide +kernel) fun n Φ hF => s_l_places G hF
  | 10, hk => cases hk; exact d10.defOk X rfl S_l_numbers rfl (by decide +kernel) fun n Φ hF => s_l_numbers G hF
  | 11, hk => cases hk; exact d11.defOk X rfl S_l_turned rfl (by decide +kernel) fun n Φ hF => s_l_turned G hF
  | 12, hk => cases hk; exact d12.defOk X rfl S_l_behind rfl (by decide +kernel) fun n Φ hF => s_l_behind G hF
  | 13, hk => cases hk; exact d13.defOk X rfl S_l_rule_due rfl (by decide +kernel) fun n Φ hF => s_l_rule_due G hF
  | 14, hk => cases hk; exact d14.defOk X rfl S_l_due rfl (by decide +kernel) fun n Φ hF => s_l_due G hF
  | 15, hk => cases hk; exact d15.defOk X rfl S_l_at_once rfl (by decide +kernel) fun n Φ hF => s_l_at_once G hF
  | 16, hk => cases hk; exact d16.defOk X rfl S_l_plain rfl (by decide +kernel) fun n Φ hF => s_l_plain G hF
  | 17, hk => cases hk; exact d17.defOk X rfl S_law rfl (by decide +kernel) fun n Φ hF => s_law G hF
  | k + 18, hk => cases hk
end Mine

namespace Mine
open PySem
set_option Elab.async false
set_option linter.unusedVariables false
set_option maxRecDepth 10000
set_option maxHeartbeats 1000000
/-- the seeds' walk -/
noncomputable def nx (s : Int) : Int := (s * 48271 + 11).fmod 2147483647
theorem nx_lo (s : Int) : 0 ≤ nx s := (fm _ (by decide)).1
theorem next_w {n : Nat} {s : Int} {H : AH} {Q : AV → AH → Prop} (q : Q (.int (nx s)) H) : W (fns tbl (n + 1) i_l_next [.int s] H) Q := by
  refine e_l_next (run_w rfl ?_)
  unfold k_l_next
  (repeat' (first
    | refine s_seq ?_ | refine s_if ?_ | refine s_ret ?_ | refine s_asg ?_ | refine s_nil ?_ | refine s_expr ?_ | refine s_store ?_ | refine s_for ?_ | refine s_asgT ?_
    | refine w_bin ?_ | refine w_cst ?_ | refine w_loc (by first | rfl | assumption) ?_ | refine w_callF ?_ | refine w_callB ?_ | refine w_cons ?_ | refine w_nil ?_ | refine w_tup ?_ | refine w_lst ?_ | refine w_newL ?_ | refine w_sub ?_ | refine w_neg ?_ | refine w_not ?_ | refine w_meth ?_ | refine w_cmp ?_ | refine w_ite ?_ | refine w_and ?_ | refine w_or ?_ | refine w_isiT ?_ | refine w_slc ?_ | refine p_none ?_ | refine p_some ?_ | refine w_cmp2 ?_
    | refine t_cmp ?_ | refine t_val ?_ | refine t_not ?_ | refine t_and ?_ | refine t_or ?_ | refine t_true ?_
    | refine ob_add ?_ | refine ob_sub ?_ | refine ob_mod (by omega) ?_ | refine ob_fdiv (by omega) ?_ | refine ob_mul (by omega) ?_ | refine ob_eqI ?_ | refine ob_neI ?_ | refine ob_eqSt (by decide +kernel) ?_ | refine ob_eqSf (by decide +kernel) ?_ | refine ob_neSt (by decide +kernel) ?_ | refine ob_neSf (by decide +kernel) ?_
    | refine if_dec (fun _ => ?_) (fun _ => ?_) | refine if_ndec (fun _ => ?_) (fun _ => ?_) | refine if_tt ?_ | refine if_ff ?_ | refine if_ft ?_ | refine if_tf ?_ | refine bool_ex ?_ | refine int_ex ?_
    | refine ob_intB ?_ | refine ob_range (by omega) (by omega) ?_ | refine ob_iterR (by omega) (by omega) ?_ | refine OB.of (by rfl) ?_))
  exact ⟨self_take H, _, rfl, q⟩
/-- a cell of the script -/
theorem cell_w {n : Nat} {ns : List Int} (hl : ns.length ≤ 63) {k : Int} (hk : 0 ≤ k) (hk' : k ≤ 1000) {H : AH} {Q : AV → AH → Prop} (q : ∀ c, Q (.int c) H) : W (fns tbl (n + 1) i_l_cell_at [.lst (ns.map .int), .int k] H) Q := by
  refine e_l_cell_at (run_w rfl ?_)
  unfold k_l_cell_at
  refine s_seq (s_if (t_cmp (w_loc rfl (w_callB (w_cons (w_loc rfl (w_nil (OB.of (v := .int ns.length) ?_ (OB.of (v := decide (k < ns.length)) rfl (if_dec (fun h => ?_) (fun _ => ?_)))))))))))
  · show (if (ns.map AV.int).length ≤ 1048576 then some (AV.int (ns.map AV.int).length) else none) = _
    rw [if_pos (by simp; omega)]
    simp
  · have hk : k.toNat < ns.length := by omega
    refine s_ret (w_sub (w_loc rfl (w_loc rfl (OB.of (v := .int ns[k.toNat]) (itemAt_of (by omega) (by omega) (by simp [hk])) ⟨self_take H, _, rfl, q _⟩))))
  · refine s_nil (s_ret (w_cst ⟨self_take H, _, rfl, q 0⟩))
/-- the rows of a program -/
inductive Row where
  | put (b v : Int)
  | more (b : Int)
  | copy (b c : Int)
  | tell (b : Int)
  | go (k : Int)
  | stop
  | ask (b k : Int)
noncomputable def Row.av : Row → AV
  | .put b v => .tup [.str (Str.ofString "put"), .int b, .int v]
  | .more b => .tup [.str (Str.ofString "more"), .int b]
  | .copy b c => .tup [.str (Str.ofString "copy"), .int b, .int c]
  | .tell b => .tup [.str (Str.ofString "tell"), .int b]
  | .go k => .tup [.str (Str.ofString "go"), .int k]
  | .stop => .tup [.str (Str.ofString "stop")]
  | .ask b k => .tup [.str (Str.ofString "ask"), .int b, .int k]
noncomputable def Row.word : Row → Str
  | .put _ _ => Str.ofString "put"
  | .more _ => Str.ofString "more"
  | .copy _ _ => Str.ofString "copy"
  | .tell _ => Str.ofString "tell"
  | .go _ => Str.ofString "go"
  | .stop => Str.ofString "stop"
  | .ask _ _ => Str.ofString "ask"
/-- a row that a program of so many boxes, of such numbers and so many rows may hold -/
noncomputable def Row.Ok (n m k : Int) : Row → Prop
  | .put b v => (0 ≤ b ∧ b < n) ∧ 0 ≤ v ∧ v ≤ m
  | .more b => 0 ≤ b ∧ b < n
  | .copy b c => (0 ≤ b ∧ b < n) ∧ 0 ≤ c ∧ c < n
  | .tell b => 0 ≤ b ∧ b < n
  | .go j => 0 ≤ j ∧ j < k
  | .stop => True
  | .ask b j => (0 ≤ b ∧ b < n) ∧ 0 ≤ j ∧ j < k
noncomputable def Row.last : Row → Prop
  | .go _ => True
  | .stop => True
  | _ => False
theorem Row.flat (r : Row) : Mine.flat 2 r.av = true := by cases r <;> rfl
theorem Row.flat_of (r : Row) {n : Nat} (h : 2 ≤ n) : Mine.flat n r.av = true := flat_mono _ h r.flat
theorem row_w {n : Nat} {s b m k : Int} (hs : 0 ≤ s) (hb : 0 ≤ b) (hm : 0 ≤ m) (hk : 0 < k) {H : AH} {Q : AV → AH → Prop} (q : ∀ r : Row, r.Ok b m k → Q r.av H) : W (fns tbl (n + 1) i_l_row [.int s, .int b, .int m, .int k] H) Q := by
  refine e_l_row (run_w rfl ?_)
  unfold k_l_row
  have ht : 0 ≤ s.fmod 10 ∧ s.fmod 10 < 10 := fm _ (by decide)
  have hk' := fun a => fm a hk
  have hm' := fun a => fm a (b := m + 1) (by omega)
  have fin : ∀ r : Row, r.Ok b m k → H.take H.length = H ∧ OB (freeze H.length H 12 r.av) fun v' => Q v' H := fun r hr => fin_same (r.flat_of (by omega)) (q r hr)
  have hq : 0 ≤ (s.fmod 10).fdiv 7 ∧ (s.fmod 10).fdiv 7 < 2 := by
    rw [fdiv_ediv _ (by decide)]
    omega
  (repeat' (first
    | refine s_seq ?_ | refine s_if ?_ | refine s_ret ?_ | refine s_asg ?_ | refine s_nil ?_ | refine s_expr ?_ | refine s_store ?_ | refine s_for ?_ | refine s_asgT ?_
    | refine w_bin ?_ | refine w_cst ?_ | refine w_loc (by first | rfl | assumption) ?_ | refine w_callF ?_ | refine w_callB ?_ | refine w_cons ?_ | refine w_nil ?_ | refine w_tup ?_ | refine w_lst ?_ | refine w_newL ?_ | refine w_sub ?_ | refine w_neg ?_ | refine w_not ?_ | refine w_meth ?_ | refine w_cmp ?_ | refine w_ite ?_ | refine w_and ?_ | refine w_or ?_ | refine w_isiT ?_ | refine w_slc ?_ | refine p_none ?_ | refine p_some ?_ | refine w_cmp2 ?_
    | refine t_cmp ?_ | refine t_val ?_ | refine t_not ?_ | refine t_and ?_ | refine t_or ?_ | refine t_true ?_
    | refine ob_add ?_ | refine ob_sub ?_ | refine ob_mod (by omega) ?_ | refine ob_fdiv (by omega) ?_ | refine ob_mul (by omega) ?_ | refine ob_eqI ?_ | refine ob_neI ?_ | refine ob_eqSt (by decide +kernel) ?_ | refine ob_eqSf (by decide +kernel) ?_ | refine ob_neSt (by decide +kernel) ?_ | refine ob_neSf (by decide +kernel) ?_
    | refine if_dec (fun _ => ?_) (fun _ => ?_) | refine if_ndec (fun _ => ?_) (fun _ => ?_) | refine if_tt ?_ | refine if_ff ?_ | refine if_ft ?_ | refine if_tf ?_ | refine bool_ex ?_ | refine int_ex ?_
    | refine ob_intB ?_ | refine ob_range (by omega) (by omega) ?_ | refine ob_iterR (by omega) (by omega) ?_ | refine OB.of (by rfl) ?_))
  · exact ob_two hq.1 hq.2 (fun _ => fin (.go _) (hk' _)) fun _ => fin .stop trivial
  all_goals have hb' := fun a => fm a (b := b) (by omega)
  · exact fin (.put _ _) ⟨hb' _, (hm' _).1, by have := (hm' (s.fdiv 50)).2; omega⟩
  · exact fin (.more _) (hb' _)
  · exact fin (.copy _ _) ⟨hb' _, hb' _⟩
  · exact fin (.tell _) (hb' _)
  · exact ob_two (fm _ (by decide)).1 (fm _ (by decide)).2 (fun _ => fin (.go _) (hk' _)) fun _ => fin .stop trivial
  · exact fin (.ask _ _) ⟨hb' _, hk' _⟩
/-- a program -/
structure Prog where
  boxes : Int
  most : Int
  rows : List Row
noncomputable def Prog.av (P : Prog) : AV := .tup [.int P.boxes, .int P.most, .lst (P.rows.map Row.av)]
structure Prog.Ok (P : Prog) : Prop where
  b0 : 0 ≤ P.boxes
  b3 : P.boxes ≤ 3
  m1 : 1 ≤ P.most
  m4 : P.most ≤ 4
  r1 : 1 ≤ P.rows.length
  r16 : P.rows.length ≤ 16
  ok : ∀ r ∈ P.rows, r.Ok P.boxes P.most P.rows.length
  last : ∃ ini r, P.rows = ini ++ [r] ∧ r.last
theorem rows_flat {l : List Row} {n : Nat} (h : 2 ≤ n) : ∀ v ∈ l.map Row.av, flat n v = true := by
  intro v hv
  obtain ⟨r, _, rfl⟩ := List.mem_map.mp hv
  exact r.flat_of h
theorem Prog.flat (P : Prog) : Mine.flat 12 P.av = true := by
  refine flat_tup ?_
  intro v hv
  simp at hv
  rcases hv with rfl | rfl | rfl
  · rfl
  · rfl
  · exact flat_lst (rows_flat (by omega))
theorem word_notIn {H : AH} (r : Row) {Q : Bool → Prop} (h₁ : r.last → Q false) (h₂ : ¬ r.last → Q true) : OB (cmpop H .notIn (.str r.word) (.tup [.str (Str.ofString "go"), .str (Str.ofString "stop")])) Q := by
  have key : ∀ w : Str, SeqAt.shaped (.str w) = true → cmpop H .notIn (.str w) (.tup [.str (Str.ofString "go"), .str (Str.ofString "stop")]) = some (!(decide (Str.ofString "go" = w) || (decide (Str.ofString "stop" = w) || false))) := by
    intro w hw
    unfold cmpop inOp
    simp only [anyEq]
    rw [eqD_str H (by decide +kernel) hw, eqD_str H (by decide +kernel) hw]
    rfl
  cases r with
  | go k => exact ⟨false, (key (Str.ofString "go") (by decide +kernel)).trans (by decide +kernel), h₁ trivial⟩
  | stop => exact ⟨false, (key (Str.ofString "stop") (by decide +kernel)).trans (by decide +kernel), h₁ trivial⟩
  | put _ _ => exact ⟨true, (key (Str.ofString "put") (by decide +kernel)).trans (by decide +kernel), h₂ fun h => h⟩
  | more _ => exact ⟨true, (key (Str.ofString "more") (by decide +kernel)).trans (by decide +kernel), h₂ fun h => h⟩
  | copy _ _ => exact ⟨true, (key (Str.ofString "copy") (by decide +kernel)).trans (by decide +kernel), h₂ fun h => h⟩
  | tell _ => exact ⟨true, (key (Str.ofString "tell") (by decide +kernel)).trans (by decide +kernel), h₂ fun h => h⟩
  | ask _ _ => exact ⟨true, (key (Str.ofString "ask") (by decide +kernel)).trans (by decide +kernel), h₂ fun h => h⟩
theorem word_at {H : AH} (r : Row) {Q : AV → Prop} (q : Q (.str r.word)) : OB (subop H r.av (.int 0)) Q := ⟨_, by cases r <;> rfl, q⟩
theorem rows_last {H : AH} {ini : List Row} {r : Row} {Q : AV → Prop} (h : ini.length ≤ 1000) (q : Q r.av) : OB (subop (H ++ [.list ((ini ++ [r]).map Row.av)]) (.ref H.length) (.int (-1))) Q := by
  refine ⟨_, ?_, q⟩
  show (match listOf? (H ++ [AO.list ((ini ++ [r]).map Row.av)]) (.ref H.length) with | some l => itemAt l (-1) | none => none) = _
  rw [app_listOf]
  show itemAt _ _ = _
  unfold itemAt
  rw [if_pos ⟨by omega, by omega⟩, if_neg (by omega), if_pos (by simp; omega)]
  have : (-1 + (((ini ++ [r]).map Row.av).length : Int)).toNat = (ini.map Row.av).length := by simp; omega
  rw [this]
  simp
theorem rows_store {H : AH} {ini : List Row} {r : Row} {v : AV} {Q : AH → Prop} (h : ini.length ≤ 1000) (q : Q (H ++ [.list (ini.map Row.av ++ [v])])) : OB (setAt (H ++ [.list ((ini ++ [r]).map Row.av)]) (.ref H.length) (stoF (.int (-1)) v)) Q := by
  refine ⟨_, app_setAt ?_, q⟩
  unfold stoF
  simp only
  rw [if_pos ⟨by simp; omega, by simp; omega, by simp; omega⟩, if_neg (by omega)]
  have : (-1 + (((ini ++ [r]).map Row.av).length : Int)).toNat = (ini.map Row.av).length := by simp; omega
  rw [this]
  simp
theorem program_w {n : Nat} {c : Int} {H : AH} {Q : AV → AH → Prop} (q : ∀ P : Prog, P.Ok → Q P.av H) : W (fns tbl (n + 2) i_l_program [.int c] H) Q := by
  refine e_l_program (run_w rfl ?_)
  unfold k_l_program
  have hs := nx_lo c
  have hd := fun k : Int => fd (nx c) (b := k) hs
  have h6 : 0 ≤ (nx c).fmod 6 ∧ (nx c).fmod 6 < 6 := fm _ (by decide)
  have h4 : 0 ≤ ((nx c).fdiv 6).fmod 4 ∧ ((nx c).fdiv 6).fmod 4 < 4 := fm _ (by decide)
  have h7 : 0 ≤ ((nx c).fdiv 24).fmod 7 ∧ ((nx c).fdiv 24).fmod 7 < 7 := fm _ (by decide)
  (repeat' (first
    | refine next_w ?_
    | refine s_seq ?_ | refine s_if ?_ | refine s_ret ?_ | refine s_asg ?_ | refine s_nil ?_ | refine s_expr ?_ | refine s_store ?_ | refine s_for ?_ | refine s_asgT ?_
    | refine w_bin ?_ | refine w_cst ?_ | refine w_loc (by first | rfl | assumption) ?_ | refine w_callF ?_ | refine w_callB ?_ | refine w_cons ?_ | refine w_nil ?_ | refine w_tup ?_ | refine w_lst ?_ | refine w_newL ?_ | refine w_sub ?_ | refine w_neg ?_ | refine w_not ?_ | refine w_meth ?_ | refine w_cmp ?_ | refine w_ite ?_ | refine w_and ?_ | refine w_or ?_ | refine w_isiT ?_ | refine w_slc ?_ | refine p_none ?_ | refine p_some ?_ | refine w_cmp2 ?_
    | refine t_cmp ?_ | refine t_val ?_ | refine t_not ?_ | refine t_and ?_ | refine t_or ?_ | refine t_true ?_
    | refine ob_add ?_ | refine ob_sub ?_ | refine ob_mod (by omega) ?_ | refine ob_fdiv (by omega) ?_ | refine ob_mul (by omega) ?_ | refine ob_eqI ?_ | refine ob_neI ?_ | refine ob_eqSt (by decide +kernel) ?_ | refine ob_eqSf (by decide +kernel) ?_ | refine ob_neSt (by decide +kernel) ?_ | refine ob_neSf (by decide +kernel) ?_
    | refine if_dec (fun _ => ?_) (fun _ => ?_) | refine if_ndec (fun _ => ?_) (fun _ => ?_) | refine if_tt ?_ | refine if_ff ?_ | refine if_ft ?_ | refine if_tf ?_ | refine bool_ex ?_ | refine int_ex ?_
    | refine ob_intB ?_ | refine ob_range (by omega) (by omega) ?_ | refine ob_iterR (by omega) (by omega) ?_ | refine OB.of (by rfl) ?_))
  have hb : ∃ b : Int, 0 ≤ b ∧ b ≤ 3 ∧ ([AV.int 1, AV.int 2, AV.int 1, AV.int 2, AV.int 0, AV.int 3] : List AV)[((nx c).fmod 6).toNat]? = some (.int b) := by
    have : (nx c).fmod 6 = 0 ∨ (nx c).fmod 6 = 1 ∨ (nx c).fmod 6 = 2 ∨ (nx c).fmod 6 = 3 ∨ (nx c).fmod 6 = 4 ∨ (nx c).fmod 6 = 5 := by omega
    rcases this with e | e | e | e | e | e <;> rw [e]
    · exact ⟨1, by decide, by decide, rfl⟩
    · exact ⟨2, by decide, by decide, rfl⟩
    · exact ⟨1, by decide, by decide, rfl⟩
    · exact ⟨2, by decide, by decide, rfl⟩
    · exact ⟨0, by decide, by decide, rfl⟩
    · exact ⟨3, by decide, by decide, rfl⟩
  obtain ⟨b, b0, b3, eb⟩ := hb
  refine ob_itemL h6.1 (by omega) eb ?_
  (repeat' (first
    | refine s_seq ?_ | refine s_if ?_ | refine s_ret ?_ | refine s_asg ?_ | refine s_nil ?_ | refine s_expr ?_ | refine s_store ?_ | refine s_for ?_ | refine s_asgT ?_
    | refine w_bin ?_ | refine w_cst ?_ | refine w_loc (by first | rfl | assumption) ?_ | refine w_callF ?_ | refine w_callB ?_ | refine w_cons ?_ | refine w_nil ?_ | refine w_tup ?_ | refine w_lst ?_ | refine w_newL ?_ | refine w_sub ?_ | refine w_neg ?_ | refine w_not ?_ | refine w_meth ?_ | refine w_cmp ?_ | refine w_ite ?_ | refine w_and ?_ | refine w_or ?_ | refine w_isiT ?_ | refine w_slc ?_ | refine p_none ?_ | refine p_some ?_ | refine w_cmp2 ?_
    | refine t_cmp ?_ | refine t_val ?_ | refine t_not ?_ | refine t_and ?_ | refine t_or ?_ | refine t_true ?_
    | refine ob_add ?_ | refine ob_sub ?_ | refine ob_mod (by omega) ?_ | refine ob_fdiv (by omega) ?_ | refine ob_mul (by omega) ?_ | refine ob_eqI ?_ | refine ob_neI ?_ | refine ob_eqSt (by decide +kernel) ?_ | refine ob_eqSf (by decide +kernel) ?_ | refine ob_neSt (by decide +kernel) ?_ | refine ob_neSf (by decide +kernel) ?_
    | refine if_dec (fun _ => ?_) (fun _ => ?_) | refine if_ndec (fun _ => ?_) (fun _ => ?_) | refine if_tt ?_ | refine if_ff ?_ | refine if_ft ?_ | refine if_tf ?_ | refine bool_ex ?_ | refine int_ex ?_
    | refine ob_intB ?_ | refine ob_range (by omega) (by omega) ?_ | refine ob_iterR (by omega) (by omega) ?_ | refine OB.of (by rfl) ?_))
  generalize hM : (1 + ((nx c).fdiv 24).fmod 7 + 9 * if decide (((nx c).fdiv 200).fmod 8 = 3) = true then 1 else 0) = M
  have hM' : 1 ≤ M ∧ M ≤ 16 := by omega
  generalize hm : 1 + ((nx c).fdiv 6).fmod 4 = mo
  have hm' : 1 ≤ mo ∧ mo ≤ 4 := by omega
  refine forRange_w (fun j σ H' => σ 2 = some (.int b) ∧ σ 3 = some (.int mo) ∧ σ 4 = some (.int M) ∧ σ 5 = some (.ref H.length) ∧ (∃ s, 0 ≤ s ∧ σ 1 = some (.int s)) ∧ ∃ rows : List Row, rows.length = j ∧ (∀ r ∈ rows, r.Ok b mo M) ∧ H' = H ++ [AO.list (rows.map Row.av)]) ?_ ?_ ⟨rfl, rfl, rfl, rfl, ⟨_, hs, rfl⟩, [], rfl, fun r h => (nomatch h), rfl⟩
  · intro j σ H' hj h
    obtain ⟨s2, s3, s4, s5, ⟨s, hs, s1⟩, rows, hl, hr, rfl⟩ := h
    have hs' := nx_lo (s + j)
    (repeat' (first
    | refine next_w ?_ | refine row_w (nx_lo _) b0 (by omega) (by omega) (fun r hr' => ?_) | refine ob_app (by simp; omega) ?_ | refine And.intro (app_isL _ _) ?_
    | refine s_seq ?_ | refine s_if ?_ | refine s_ret ?_ | refine s_asg ?_ | refine s_nil ?_ | refine s_expr ?_ | refine s_store ?_ | refine s_for ?_ | refine s_asgT ?_
    | refine w_bin ?_ | refine w_cst ?_ | refine w_loc (by first | rfl | assumption) ?_ | refine w_callF ?_ | refine w_callB ?_ | refine w_cons ?_ | refine w_nil ?_ | refine w_tup ?_ | refine w_lst ?_ | refine w_newL ?_ | refine w_sub ?_ | refine w_neg ?_ | refine w_not ?_ | refine w_meth ?_ | refine w_cmp ?_ | refine w_ite ?_ | refine w_and ?_ | refine w_or ?_ | refine w_isiT ?_ | refine w_slc ?_ | refine p_none ?_ | refine p_some ?_ | refine w_cmp2 ?_
    | refine t_cmp ?_ | refine t_val ?_ | refine t_not ?_ | refine t_and ?_ | refine t_or ?_ | refine t_true ?_
    | refine ob_add ?_ | refine ob_sub ?_ | refine ob_mod (by omega) ?_ | refine ob_fdiv (by omega) ?_ | refine ob_mul (by omega) ?_ | refine ob_eqI ?_ | refine ob_neI ?_ | refine ob_eqSt (by decide +kernel) ?_ | refine ob_eqSf (by decide +kernel) ?_ | refine ob_neSt (by decide +kernel) ?_ | refine ob_neSf (by decide +kernel) ?_
    | refine if_dec (fun _ => ?_) (fun _ => ?_) | refine if_ndec (fun _ => ?_) (fun _ => ?_) | refine if_tt ?_ | refine if_ff ?_ | refine if_ft ?_ | refine if_tf ?_ | refine bool_ex ?_ | refine int_ex ?_
    | refine ob_intB ?_ | refine ob_range (by omega) (by omega) ?_ | refine ob_iterR (by omega) (by omega) ?_ | refine OB.of (by rfl) ?_))
    refine ⟨s2, s3, s4, s5, ⟨_, nx_lo _, rfl⟩, rows ++ [r], by simp [hl], ?_, by simp⟩
    intro r' h'
    rcases List.mem_append.mp h' with h' | h'
    · exact hr r' h'
    · rw [List.mem_singleton.mp h']; exact hr'
  · intro σ H' h
    obtain ⟨s2, s3, s4, s5, ⟨s, hs, s1⟩, rows, hl, hr, rfl⟩ := h
    have hne : rows ≠ [] := by intro e; rw [e] at hl; simp at hl; omega
    obtain ⟨ini, r, rfl⟩ : ∃ ini r, rows = ini ++ [r] := ⟨rows.dropLast, rows.getLast hne, (List.dropLast_concat_getLast hne).symm⟩
    have hil : ini.length + 1 = M.toNat := by simpa using hl
    have fin : ∀ r : Row, r.Ok b mo M → r.last → (H ++ [AO.list ((ini ++ [r]).map Row.av)]).take H.length = H ∧ OB (freeze H.length (H ++ [.list ((ini ++ [r]).map Row.av)]) 12 (.tup [.int b, .int mo, .ref H.length])) fun v' => Q v' H := by
      intro r h₁ h₂
      have hok : (Prog.mk b mo (ini ++ [r])).Ok := by
        refine ⟨b0, b3, hm'.1, hm'.2, ?_, ?_, ?_, ini, r, rfl, h₂⟩
        · show 1 ≤ (ini ++ [r]).length
          simp
        · show (ini ++ [r]).length ≤ 16
          simp; omega
        · intro r' h'
          have : ((ini ++ [r]).length : Int) = M := by simp; omega
          show r'.Ok b mo ((ini ++ [r]).length : Int)
          rw [this]
          rcases List.mem_append.mp h' with h' | h'
          · exact hr r' (List.mem_append_left _ h')
          · rw [List.mem_singleton.mp h']; exact h₁
      refine ⟨app_take _ _, (Prog.mk b mo (ini ++ [r])).av, ?_, q _ hok⟩
      exact freeze_tup (mapM_step freeze_int (mapM_step freeze_int (mapM_step (freeze_ref (n := 10) (rows_flat (by omega))) mapM_end)))
    refine s_seq (s_if (t_cmp ?_))
    (repeat' (first
    | refine rows_last (by omega) ?_ | refine word_at r ?_ | refine word_notIn r (fun h => if_ff ?_) (fun h => if_tt ?_) | refine s_store (W.mono (P := fun v H' => H' = (H ++ [AO.list ((ini ++ [r]).map Row.av)]) ∧ ∃ r : Row, r.Ok b mo M ∧ r.last ∧ v = r.av) ?_ ?_)
    | refine s_seq ?_ | refine s_if ?_ | refine s_ret ?_ | refine s_asg ?_ | refine s_nil ?_ | refine s_expr ?_ | refine s_store ?_ | refine s_for ?_ | refine s_asgT ?_
    | refine w_bin ?_ | refine w_cst ?_ | refine w_loc (by first | rfl | assumption) ?_ | refine w_callF ?_ | refine w_callB ?_ | refine w_cons ?_ | refine w_nil ?_ | refine w_tup ?_ | refine w_lst ?_ | refine w_newL ?_ | refine w_sub ?_ | refine w_neg ?_ | refine w_not ?_ | refine w_meth ?_ | refine w_cmp ?_ | refine w_ite ?_ | refine w_and ?_ | refine w_or ?_ | refine w_isiT ?_ | refine w_slc ?_ | refine p_none ?_ | refine p_some ?_ | refine w_cmp2 ?_
    | refine t_cmp ?_ | refine t_val ?_ | refine t_not ?_ | refine t_and ?_ | refine t_or ?_ | refine t_true ?_
    | refine ob_add ?_ | refine ob_sub ?_ | refine ob_mod (by omega) ?_ | refine ob_fdiv (by omega) ?_ | refine ob_mul (by omega) ?_ | refine ob_eqI ?_ | refine ob_neI ?_ | refine ob_eqSt (by decide +kernel) ?_ | refine ob_eqSf (by decide +kernel) ?_ | refine ob_neSt (by decide +kernel) ?_ | refine ob_neSf (by decide +kernel) ?_
    | refine if_dec (fun _ => ?_) (fun _ => ?_) | refine if_ndec (fun _ => ?_) (fun _ => ?_) | refine if_tt ?_ | refine if_ff ?_ | refine if_ft ?_ | refine if_tf ?_ | refine bool_ex ?_ | refine int_ex ?_
    | refine ob_intB ?_ | refine ob_range (by omega) (by omega) ?_ | refine ob_iterR (by omega) (by omega) ?_ | refine OB.of (by rfl) ?_))
    · exact fin r (hr r (by simp)) h
    · have hq : 0 ≤ ((s.fdiv 1000).fmod 3).fdiv 2 ∧ ((s.fdiv 1000).fmod 3).fdiv 2 < 2 := by
        have := fm (s.fdiv 1000) (b := 3) (by decide)
        rw [fdiv_ediv _ (b := 2) (by decide)]
        omega
      have hg := fm (s.fdiv 7) (b := M) (by omega)
      exact ob_two hq.1 hq.2 (fun _ => ⟨rfl, .go _, hg, trivial, rfl⟩) fun _ => ⟨rfl, .stop, trivial, trivial, rfl⟩
    · intro v H' h
      obtain ⟨rfl, r', hok, hla, rfl⟩ := h
      (repeat' (first
    | refine rows_store (by omega) ?_
    | refine s_seq ?_ | refine s_if ?_ | refine s_ret ?_ | refine s_asg ?_ | refine s_nil ?_ | refine s_expr ?_ | refine s_store ?_ | refine s_for ?_ | refine s_asgT ?_
    | refine w_bin ?_ | refine w_cst ?_ | refine w_loc (by first | rfl | assumption) ?_ | refine w_callF ?_ | refine w_callB ?_ | refine w_cons ?_ | refine w_nil ?_ | refine w_tup ?_ | refine w_lst ?_ | refine w_newL ?_ | refine w_sub ?_ | refine w_neg ?_ | refine w_not ?_ | refine w_meth ?_ | refine w_cmp ?_ | refine w_ite ?_ | refine w_and ?_ | refine w_or ?_ | refine w_isiT ?_ | refine w_slc ?_ | refine p_none ?_ | refine p_some ?_ | refine w_cmp2 ?_
    | refine t_cmp ?_ | refine t_val ?_ | refine t_not ?_ | refine t_and ?_ | refine t_or ?_ | refine t_true ?_
    | refine ob_add ?_ | refine ob_sub ?_ | refine ob_mod (by omega) ?_ | refine ob_fdiv (by omega) ?_ | refine ob_mul (by omega) ?_ | refine ob_eqI ?_ | refine ob_neI ?_ | refine ob_eqSt (by decide +kernel) ?_ | refine ob_eqSf (by decide +kernel) ?_ | refine ob_neSt (by decide +kernel) ?_ | refine ob_neSf (by decide +kernel) ?_
    | refine if_dec (fun _ => ?_) (fun _ => ?_) | refine if_ndec (fun _ => ?_) (fun _ => ?_) | refine if_tt ?_ | refine if_ff ?_ | refine if_ft ?_ | refine if_tf ?_ | refine bool_ex ?_ | refine int_ex ?_
    | refine ob_intB ?_ | refine ob_range (by omega) (by omega) ?_ | refine ob_iterR (by omega) (by omega) ?_ | refine OB.of (by rfl) ?_))
      have := fin r' hok hla
      rw [List.map_append] at this
      exact this
/-- rules -/
inductive Rule where
  | is (v : Option Int)
  | byBox (b : Int) (vs : List (Option Int))
noncomputable def Rule.av : Rule → AV
  | .is v => .tup [.str (Str.ofString "is"), ov v]
  | .byBox b vs => .tup [.str (Str.ofString "by"), .int b, .tup (vs.map ov)]
noncomputable def OkN (M : Int) (v : Option Int) : Prop := ∀ i, v = some i → 0 ≤ i ∧ i ≤ M
noncomputable def Rule.Ok (n m M : Int) : Rule → Prop
  | .is v => OkN M v
  | .byBox b vs => (0 ≤ b ∧ b < n) ∧ (vs.length : Int) = m + 1 ∧ ∀ v ∈ vs, OkN M v
theorem ovs_flat {l : List (Option Int)} {n : Nat} : ∀ v ∈ l.map ov, flat (n + 1) v = true := by
  intro v hv
  obtain ⟨r, _, rfl⟩ := List.mem_map.mp hv
  exact ov_flat r
theorem Rule.flat_of (r : Rule) {n : Nat} (h : 3 ≤ n) : Mine.flat n r.av = true := by
  refine flat_mono _ h ?_
  cases r with
  | is v => cases v <;> rfl
  | byBox b vs =>
    refine flat_tup ?_
    intro v hv
    simp at hv
    rcases hv with rfl | rfl | rfl
    · rfl
    · rfl
    · exact flat_tup ovs_flat
theorem rule_w {n : Nat} {s : Int} {one two : Prog} (h1 : one.Ok) (h2 : two.Ok) (hs : 0 ≤ s) {H : AH} {Q : AV → AH → Prop} (q : ∀ r : Rule, r.Ok one.boxes one.most two.most → Q r.av H) : W (fns tbl (n + 1) i_l_rule [.int s, one.av, two.av] H) Q := by
  refine e_l_rule (run_w rfl ?_)
  unfold k_l_rule
  have b0 := h1.b0
  have m1 := h2.m1
  have n1 := h1.m1
  have n4 := h1.m4
  have hm := fun a => fm a (b := two.most + 1) (by omega)
  have hv : ∀ a (v : Option Int), (∀ i, v = some i → i = Int.fmod a (two.most + 1)) → OkN two.most v := by
    intro a v h i e
    have := hm a
    rw [← h i e] at this
    omega
  (repeat' (first
    | refine s_seq ?_ | refine s_if ?_ | refine s_ret ?_ | refine s_asg ?_ | refine s_nil ?_ | refine s_expr ?_ | refine s_store ?_ | refine s_for ?_ | refine s_asgT ?_
    | refine w_bin ?_ | refine w_cst ?_ | refine w_loc (by first | rfl | assumption) ?_ | refine w_callF ?_ | refine w_callB ?_ | refine w_cons ?_ | refine w_nil ?_ | refine w_tup ?_ | refine w_lst ?_ | refine w_newL ?_ | refine w_sub ?_ | refine w_neg ?_ | refine w_not ?_ | refine w_meth ?_ | refine w_cmp ?_ | refine w_ite ?_ | refine w_and ?_ | refine w_or ?_ | refine w_isiT ?_ | refine w_slc ?_ | refine p_none ?_ | refine p_some ?_ | refine w_cmp2 ?_
    | refine t_cmp ?_ | refine t_val ?_ | refine t_not ?_ | refine t_and ?_ | refine t_or ?_ | refine t_true ?_
    | refine ob_add ?_ | refine ob_sub ?_ | refine ob_mod (by omega) ?_ | refine ob_fdiv (by omega) ?_ | refine ob_mul (by omega) ?_ | refine ob_eqI ?_ | refine ob_neI ?_ | refine ob_eqSt (by decide +kernel) ?_ | refine ob_eqSf (by decide +kernel) ?_ | refine ob_neSt (by decide +kernel) ?_ | refine ob_neSf (by decide +kernel) ?_
    | refine if_dec (fun _ => ?_) (fun _ => ?_) | refine if_ndec (fun _ => ?_) (fun _ => ?_) | refine if_tt ?_ | refine if_ff ?_ | refine if_ft ?_ | refine if_tf ?_ | refine bool_ex ?_ | refine int_ex ?_
    | refine ob_intB ?_ | refine ob_range (by omega) (by omega) ?_ | refine ob_iterR (by omega) (by omega) ?_ | refine OB.of (by rfl) ?_))
  · exact ob_opt fun v h => w_nil (fin_same ((Rule.is v).flat_of (by omega)) (q (.is v) (hv _ v h)))
  · exact ob_opt fun v h => w_nil (fin_same ((Rule.is v).flat_of (by omega)) (q (.is v) (hv _ v h)))
  · refine forRange_w (fun j σ H' => σ 0 = some (.int s) ∧ σ 1 = some one.av ∧ σ 2 = some two.av ∧ σ 3 = some (.ref H.length) ∧ ∃ vs : List (Option Int), vs.length = j ∧ (∀ v ∈ vs, OkN two.most v) ∧ H' = H ++ [AO.list (vs.map ov)]) ?_ ?_ ⟨rfl, rfl, rfl, rfl, [], rfl, fun r h => (nomatch h), rfl⟩
    · intro j σ H' hj h
      obtain ⟨s0, s1, s2, s3, vs, hl, hr, rfl⟩ := h
      refine s_expr (w_meth (w_loc s3 ⟨app_isL H _, ?_⟩))
      (repeat' (first
    | refine s_seq ?_ | refine s_if ?_ | refine s_ret ?_ | refine s_asg ?_ | refine s_nil ?_ | refine s_expr ?_ | refine s_store ?_ | refine s_for ?_ | refine s_asgT ?_
    | refine w_bin ?_ | refine w_cst ?_ | refine w_loc (by first | rfl | assumption) ?_ | refine w_callF ?_ | refine w_callB ?_ | refine w_cons ?_ | refine w_nil ?_ | refine w_tup ?_ | refine w_lst ?_ | refine w_newL ?_ | refine w_sub ?_ | refine w_neg ?_ | refine w_not ?_ | refine w_meth ?_ | refine w_cmp ?_ | refine w_ite ?_ | refine w_and ?_ | refine w_or ?_ | refine w_isiT ?_ | refine w_slc ?_ | refine p_none ?_ | refine p_some ?_ | refine w_cmp2 ?_
    | refine t_cmp ?_ | refine t_val ?_ | refine t_not ?_ | refine t_and ?_ | refine t_or ?_ | refine t_true ?_
    | refine ob_add ?_ | refine ob_sub ?_ | refine ob_mod (by omega) ?_ | refine ob_fdiv (by omega) ?_ | refine ob_mul (by omega) ?_ | refine ob_eqI ?_ | refine ob_neI ?_ | refine ob_eqSt (by decide +kernel) ?_ | refine ob_eqSf (by decide +kernel) ?_ | refine ob_neSt (by decide +kernel) ?_ | refine ob_neSf (by decide +kernel) ?_
    | refine if_dec (fun _ => ?_) (fun _ => ?_) | refine if_ndec (fun _ => ?_) (fun _ => ?_) | refine if_tt ?_ | refine if_ff ?_ | refine if_ft ?_ | refine if_tf ?_ | refine bool_ex ?_ | refine int_ex ?_
    | refine ob_intB ?_ | refine ob_range (by omega) (by omega) ?_ | refine ob_iterR (by omega) (by omega) ?_ | refine OB.of (by rfl) ?_))
      refine ob_opt fun v h => w_nil (ob_app (by simp; omega) ?_)
      refine ⟨s0, s1, s2, s3, vs ++ [v], by simp [hl], ?_, by simp⟩
      intro r' h'
      rcases List.mem_append.mp h' with h' | h'
      · exact hr r' h'
      · rw [List.mem_singleton.mp h']; exact hv _ v h
    · intro σ H' h
      obtain ⟨s0, s1, s2, s3, vs, hl, hr, rfl⟩ := h
      (repeat' (first
    | refine s_seq ?_ | refine s_if ?_ | refine s_ret ?_ | refine s_asg ?_ | refine s_nil ?_ | refine s_expr ?_ | refine s_store ?_ | refine s_for ?_ | refine s_asgT ?_
    | refine w_bin ?_ | refine w_cst ?_ | refine w_loc (by first | rfl | assumption) ?_ | refine w_callF ?_ | refine w_callB ?_ | refine w_cons ?_ | refine w_nil ?_ | refine w_tup ?_ | refine w_lst ?_ | refine w_newL ?_ | refine w_sub ?_ | refine w_neg ?_ | refine w_not ?_ | refine w_meth ?_ | refine w_cmp ?_ | refine w_ite ?_ | refine w_and ?_ | refine w_or ?_ | refine w_isiT ?_ | refine w_slc ?_ | refine p_none ?_ | refine p_some ?_ | refine w_cmp2 ?_
    | refine t_cmp ?_ | refine t_val ?_ | refine t_not ?_ | refine t_and ?_ | refine t_or ?_ | refine t_true ?_
    | refine ob_add ?_ | refine ob_sub ?_ | refine ob_mod (by omega) ?_ | refine ob_fdiv (by omega) ?_ | refine ob_mul (by omega) ?_ | refine ob_eqI ?_ | refine ob_neI ?_ | refine ob_eqSt (by decide +kernel) ?_ | refine ob_eqSf (by decide +kernel) ?_ | refine ob_neSt (by decide +kernel) ?_ | refine ob_neSf (by decide +kernel) ?_
    | refine if_dec (fun _ => ?_) (fun _ => ?_) | refine if_ndec (fun _ => ?_) (fun _ => ?_) | refine if_tt ?_ | refine if_ff ?_ | refine if_ft ?_ | refine if_tf ?_ | refine bool_ex ?_ | refine int_ex ?_
    | refine ob_intB ?_ | refine ob_range (by omega) (by omega) ?_ | refine ob_iterR (by omega) (by omega) ?_ | refine OB.of (by rfl) ?_))
      refine ob_tupR (by simp; omega) (w_nil ?_)
      have hb := fm (s.fdiv 400) (b := one.boxes) (by omega)
      exact fin_flat ((Rule.byBox _ vs).flat_of (by omega)) (q (.byBox _ vs) ⟨hb, by omega, hr⟩)
/-- numbers of a program's boxes -/
noncomputable def NumsOk (P : Prog) (xs : List Int) : Prop := (xs.length : Int) = P.boxes ∧ ∀ x ∈ xs, 0 ≤ x ∧ x ≤ P.most
theorem ints_flat {l : List Int} {n : Nat} : ∀ v ∈ l.map AV.int, flat (n + 1) v = true := by
  intro v hv
  obtain ⟨r, _, rfl⟩ := List.mem_map.mp hv
  rfl
theorem numbers_w {n : Nat} {s : Int} {P : Prog} (hP : P.Ok) {H : AH} {Q : AV → AH → Prop} (q : ∀ xs, NumsOk P xs → Q (.tup (xs.map .int)) H) : W (fns tbl (n + 2) i_l_numbers [.int s, P.av] H) Q := by
  refine e_l_numbers (run_w rfl ?_)
  unfold k_l_numbers
  have b0 := hP.b0
  have b3 := hP.b3
  have m1 := hP.m1
  (repeat' (first
    | refine s_seq ?_ | refine s_if ?_ | refine s_ret ?_ | refine s_asg ?_ | refine s_nil ?_ | refine s_expr ?_ | refine s_store ?_ | refine s_for ?_ | refine s_asgT ?_
    | refine w_bin ?_ | refine w_cst ?_ | refine w_loc (by first | rfl | assumption) ?_ | refine w_callF ?_ | refine w_callB ?_ | refine w_cons ?_ | refine w_nil ?_ | refine w_tup ?_ | refine w_lst ?_ | refine w_newL ?_ | refine w_sub ?_ | refine w_neg ?_ | refine w_not ?_ | refine w_meth ?_ | refine w_cmp ?_ | refine w_ite ?_ | refine w_and ?_ | refine w_or ?_ | refine w_isiT ?_ | refine w_slc ?_ | refine p_none ?_ | refine p_some ?_ | refine w_cmp2 ?_
    | refine t_cmp ?_ | refine t_val ?_ | refine t_not ?_ | refine t_and ?_ | refine t_or ?_ | refine t_true ?_
    | refine ob_add ?_ | refine ob_sub ?_ | refine ob_mod (by omega) ?_ | refine ob_fdiv (by omega) ?_ | refine ob_mul (by omega) ?_ | refine ob_eqI ?_ | refine ob_neI ?_ | refine ob_eqSt (by decide +kernel) ?_ | refine ob_eqSf (by decide +kernel) ?_ | refine ob_neSt (by decide +kernel) ?_ | refine ob_neSf (by decide +kernel) ?_
    | refine if_dec (fun _ => ?_) (fun _ => ?_) | refine if_ndec (fun _ => ?_) (fun _ => ?_) | refine if_tt ?_ | refine if_ff ?_ | refine if_ft ?_ | refine if_tf ?_ | refine bool_ex ?_ | refine int_ex ?_
    | refine ob_intB ?_ | refine ob_range (by omega) (by omega) ?_ | refine ob_iterR (by omega) (by omega) ?_ | refine OB.of (by rfl) ?_))
  refine forRange_w (fun j σ H' => σ 1 = some P.av ∧ (∃ s, σ 0 = some (.int s)) ∧ ∃ xs : List Int, xs.length = j ∧ (∀ x ∈ xs, 0 ≤ x ∧ x ≤ P.most) ∧ σ 2 = some (.tup (xs.map .int)) ∧ H' = H) ?_ ?_ ⟨rfl, ⟨_, rfl⟩, [], rfl, fun r h => (nomatch h), rfl, rfl⟩
  · intro j σ H' hj h
    obtain ⟨s1, ⟨s, s0⟩, xs, hl, hr, s2, rfl⟩ := h
    (repeat' (first
    | refine next_w ?_
    | refine s_seq ?_ | refine s_if ?_ | refine s_ret ?_ | refine s_asg ?_ | refine s_nil ?_ | refine s_expr ?_ | refine s_store ?_ | refine s_for ?_ | refine s_asgT ?_
    | refine w_bin ?_ | refine w_cst ?_ | refine w_loc (by first | rfl | assumption) ?_ | refine w_callF ?_ | refine w_callB ?_ | refine w_cons ?_ | refine w_nil ?_ | refine w_tup ?_ | refine w_lst ?_ | refine w_newL ?_ | refine w_sub ?_ | refine w_neg ?_ | refine w_not ?_ | refine w_meth ?_ | refine w_cmp ?_ | refine w_ite ?_ | refine w_and ?_ | refine w_or ?_ | refine w_isiT ?_ | refine w_slc ?_ | refine p_none ?_ | refine p_some ?_ | refine w_cmp2 ?_
    | refine t_cmp ?_ | refine t_val ?_ | refine t_not ?_ | refine t_and ?_ | refine t_or ?_ | refine t_true ?_
    | refine ob_add ?_ | refine ob_sub ?_ | refine ob_mod (by omega) ?_ | refine ob_fdiv (by omega) ?_ | refine ob_mul (by omega) ?_ | refine ob_eqI ?_ | refine ob_neI ?_ | refine ob_eqSt (by decide +kernel) ?_ | refine ob_eqSf (by decide +kernel) ?_ | refine ob_neSt (by decide +kernel) ?_ | refine ob_neSf (by decide +kernel) ?_
    | refine if_dec (fun _ => ?_) (fun _ => ?_) | refine if_ndec (fun _ => ?_) (fun _ => ?_) | refine if_tt ?_ | refine if_ff ?_ | refine if_ft ?_ | refine if_tf ?_ | refine bool_ex ?_ | refine int_ex ?_
    | refine ob_intB ?_ | refine ob_range (by omega) (by omega) ?_ | refine ob_iterR (by omega) (by omega) ?_ | refine OB.of (by rfl) ?_))
    refine ob_cat (by simp; omega) ⟨s1, ⟨_, rfl⟩, xs ++ [((nx (s + j)).fdiv 3).fmod (P.most + 1)], by simp [hl], ?_, by simp, rfl⟩
    intro r' h'
    rcases List.mem_append.mp h' with h' | h'
    · exact hr r' h'
    · have := fm ((nx (s + j)).fdiv 3) (b := P.most + 1) (by omega)
      rw [List.mem_singleton.mp h']; omega
  · intro σ H' h
    obtain ⟨s1, ⟨s, s0⟩, xs, hl, hr, s2, rfl⟩ := h
    (repeat' (first
    | refine s_seq ?_ | refine s_if ?_ | refine s_ret ?_ | refine s_asg ?_ | refine s_nil ?_ | refine s_expr ?_ | refine s_store ?_ | refine s_for ?_ | refine s_asgT ?_
    | refine w_bin ?_ | refine w_cst ?_ | refine w_loc (by first | rfl | assumption) ?_ | refine w_callF ?_ | refine w_callB ?_ | refine w_cons ?_ | refine w_nil ?_ | refine w_tup ?_ | refine w_lst ?_ | refine w_newL ?_ | refine w_sub ?_ | refine w_neg ?_ | refine w_not ?_ | refine w_meth ?_ | refine w_cmp ?_ | refine w_ite ?_ | refine w_and ?_ | refine w_or ?_ | refine w_isiT ?_ | refine w_slc ?_ | refine p_none ?_ | refine p_some ?_ | refine w_cmp2 ?_
    | refine t_cmp ?_ | refine t_val ?_ | refine t_not ?_ | refine t_and ?_ | refine t_or ?_ | refine t_true ?_
    | refine ob_add ?_ | refine ob_sub ?_ | refine ob_mod (by omega) ?_ | refine ob_fdiv (by omega) ?_ | refine ob_mul (by omega) ?_ | refine ob_eqI ?_ | refine ob_neI ?_ | refine ob_eqSt (by decide +kernel) ?_ | refine ob_eqSf (by decide +kernel) ?_ | refine ob_neSt (by decide +kernel) ?_ | refine ob_neSf (by decide +kernel) ?_
    | refine if_dec (fun _ => ?_) (fun _ => ?_) | refine if_ndec (fun _ => ?_) (fun _ => ?_) | refine if_tt ?_ | refine if_ff ?_ | refine if_ft ?_ | refine if_tf ?_ | refine bool_ex ?_ | refine int_ex ?_
    | refine ob_intB ?_ | refine ob_range (by omega) (by omega) ?_ | refine ob_iterR (by omega) (by omega) ?_ | refine OB.of (by rfl) ?_))
    exact fin_same (flat_tup ints_flat) (q xs ⟨by omega, hr⟩)
/-- what a rule tells of numbers -/
noncomputable def numOf (xs : List Int) : Rule → Option Int
  | .is v => v
  | .byBox b vs => vs.getD (xs.getD b.toNat 0).toNat none
theorem getD_some {α : Type} {l : List α} {k : Nat} {d : α} (h : k < l.length) : l[k]? = some (l.getD k d) := by
  rw [List.getD_eq_getElem?_getD, List.getElem?_eq_getElem h]; rfl
theorem nums_at {one : Prog} {xs : List Int} (hx : NumsOk one xs) {b : Int} (h0 : 0 ≤ b) (h1 : b < one.boxes) : (xs.map AV.int)[b.toNat]? = some (.int (xs.getD b.toNat 0)) ∧ 0 ≤ xs.getD b.toNat 0 ∧ xs.getD b.toNat 0 ≤ one.most := by
  have hl := hx.1
  have hlt : b.toNat < xs.length := by omega
  have e := getD_some (d := 0) hlt
  refine ⟨?_, hx.2 _ ?_⟩
  · rw [List.getElem?_map, e]; rfl
  · exact List.mem_of_getElem? e
theorem vs_at {vs : List (Option Int)} {k : Int} (h0 : 0 ≤ k) (h1 : k < vs.length) : (vs.map ov)[k.toNat]? = some (ov (vs.getD k.toNat none)) := by
  rw [List.getElem?_map, getD_some (d := none) (by omega)]; rfl
/-- all the numbers, or none -/
noncomputable def tv (l : List (Option Int)) : AV := if l.any Option.isNone then .none else .tup (l.map ov)
theorem lturned_w {n : Nat} {one : Prog} {M : Int} (h1 : one.Ok) {rs : List Rule} (hl : rs.length ≤ 1000) (hr : ∀ r ∈ rs, r.Ok one.boxes one.most M) {xs : List Int} (hx : NumsOk one xs) {H : AH} {Q : AV → AH → Prop} (q : Q (tv (rs.map (numOf xs))) H) :
    W (fns tbl (n + 1) i_l_turned [.tup (rs.map Rule.av), .tup (xs.map .int)] H) Q := by
  refine e_l_turned (run_w rfl ?_)
  unfold k_l_turned
  (repeat' (first
    | refine s_seq ?_ | refine s_if ?_ | refine s_ret ?_ | refine s_asg ?_ | refine s_nil ?_ | refine s_expr ?_ | refine s_store ?_ | refine s_for ?_ | refine s_asgT ?_
    | refine w_bin ?_ | refine w_cst ?_ | refine w_loc (by first | rfl | assumption) ?_ | refine w_callF ?_ | refine w_callB ?_ | refine w_cons ?_ | refine w_nil ?_ | refine w_tup ?_ | refine w_lst ?_ | refine w_newL ?_ | refine w_sub ?_ | refine w_neg ?_ | refine w_not ?_ | refine w_meth ?_ | refine w_cmp ?_ | refine w_ite ?_ | refine w_and ?_ | refine w_or ?_ | refine w_isiT ?_ | refine w_slc ?_ | refine p_none ?_ | refine p_some ?_ | refine w_cmp2 ?_
    | refine t_cmp ?_ | refine t_val ?_ | refine t_not ?_ | refine t_and ?_ | refine t_or ?_ | refine t_true ?_
    | refine ob_add ?_ | refine ob_sub ?_ | refine ob_mod (by omega) ?_ | refine ob_fdiv (by omega) ?_ | refine ob_mul (by omega) ?_ | refine ob_eqI ?_ | refine ob_neI ?_ | refine ob_eqSt (by decide +kernel) ?_ | refine ob_eqSf (by decide +kernel) ?_ | refine ob_neSt (by decide +kernel) ?_ | refine ob_neSf (by decide +kernel) ?_
    | refine if_dec (fun _ => ?_) (fun _ => ?_) | refine if_ndec (fun _ => ?_) (fun _ => ?_) | refine if_tt ?_ | refine if_ff ?_ | refine if_ft ?_ | refine if_tf ?_ | refine bool_ex ?_ | refine int_ex ?_
    | refine ob_intB ?_ | refine ob_range (by omega) (by omega) ?_ | refine ob_iterR (by omega) (by omega) ?_ | refine OB.of (by rfl) ?_))
  refine forMap_w (fun rest σ H' => σ 1 = some (.tup (xs.map .int)) ∧ σ 2 = some (.ref H.length) ∧ ∃ done, rs = done ++ rest ∧ (∀ r ∈ done, (numOf xs r).isNone = false) ∧ H' = H ++ [AO.list ((done.map (numOf xs)).map ov)]) ?_ ?_ ⟨rfl, rfl, [], rfl, fun r h => (nomatch h), rfl⟩
  · intro r rest σ H' h
    obtain ⟨s1, s2, done, e, hd, rfl⟩ := h
    have hr' : r ∈ rs := by rw [e]; simp
    have hok := hr r hr'
    have hdl : done.length ≤ 1000 := by rw [e] at hl; simp at hl; omega
    have tail : ∀ σ : Loc, σ 1 = some (.tup (xs.map .int)) → σ 2 = some (.ref H.length) → σ 4 = some (ov (numOf xs r)) →
      WS (sSeq (sIf (tVal (dCmp .is (dLoc 4) (dCst .none))) (sRet (dCst .none)) sNil) (sExpr (dMeth appM (dLoc 2) [dLoc 4])) σ (H ++ [AO.list ((done.map (numOf xs)).map ov)]))
        (fun σ H' => σ 1 = some (.tup (xs.map .int)) ∧ σ 2 = some (.ref H.length) ∧ ∃ done, rs = done ++ rest ∧ (∀ r ∈ done, (numOf xs r).isNone = false) ∧ H' = H ++ [AO.list ((done.map (numOf xs)).map ov)])
        (fun v H₁ => List.take (List.length H) H₁ = H ∧ OB (freeze (List.length H) H₁ 12 v) fun v' => Q v' H) := by
      intro σ s1 s2 s4
      cases hn : numOf xs r with
      | none =>
        rw [hn] at s4
        (repeat' (first
    | refine s_seq ?_ | refine s_if ?_ | refine s_ret ?_ | refine s_asg ?_ | refine s_nil ?_ | refine s_expr ?_ | refine s_store ?_ | refine s_for ?_ | refine s_asgT ?_
    | refine w_bin ?_ | refine w_cst ?_ | refine w_loc (by first | rfl | assumption) ?_ | refine w_callF ?_ | refine w_callB ?_ | refine w_cons ?_ | refine w_nil ?_ | refine w_tup ?_ | refine w_lst ?_ | refine w_newL ?_ | refine w_sub ?_ | refine w_neg ?_ | refine w_not ?_ | refine w_meth ?_ | refine w_cmp ?_ | refine w_ite ?_ | refine w_and ?_ | refine w_or ?_ | refine w_isiT ?_ | refine w_slc ?_ | refine p_none ?_ | refine p_some ?_ | refine w_cmp2 ?_
    | refine t_cmp ?_ | refine t_val ?_ | refine t_not ?_ | refine t_and ?_ | refine t_or ?_ | refine t_true ?_
    | refine ob_add ?_ | refine ob_sub ?_ | refine ob_mod (by omega) ?_ | refine ob_fdiv (by omega) ?_ | refine ob_mul (by omega) ?_ | refine ob_eqI ?_ | refine ob_neI ?_ | refine ob_eqSt (by decide +kernel) ?_ | refine ob_eqSf (by decide +kernel) ?_ | refine ob_neSt (by decide +kernel) ?_ | refine ob_neSf (by decide +kernel) ?_
    | refine if_dec (fun _ => ?_) (fun _ => ?_) | refine if_ndec (fun _ => ?_) (fun _ => ?_) | refine if_tt ?_ | refine if_ff ?_ | refine if_ft ?_ | refine if_tf ?_ | refine bool_ex ?_ | refine int_ex ?_
    | refine ob_intB ?_ | refine ob_range (by omega) (by omega) ?_ | refine ob_iterR (by omega) (by omega) ?_ | refine OB.of (by rfl) ?_))
        have e : tv (rs.map (numOf xs)) = .none := by
          unfold tv
          rw [if_pos (by rw [e]; simp [hn])]
        rw [e] at q
        exact fin_flat rfl q
      | some i =>
        rw [hn] at s4
        (repeat' (first
    | refine ob_app (by simp; omega) ?_ | refine And.intro (app_isL _ _) ?_
    | refine s_seq ?_ | refine s_if ?_ | refine s_ret ?_ | refine s_asg ?_ | refine s_nil ?_ | refine s_expr ?_ | refine s_store ?_ | refine s_for ?_ | refine s_asgT ?_
    | refine w_bin ?_ | refine w_cst ?_ | refine w_loc (by first | rfl | assumption) ?_ | refine w_callF ?_ | refine w_callB ?_ | refine w_cons ?_ | refine w_nil ?_ | refine w_tup ?_ | refine w_lst ?_ | refine w_newL ?_ | refine w_sub ?_ | refine w_neg ?_ | refine w_not ?_ | refine w_meth ?_ | refine w_cmp ?_ | refine w_ite ?_ | refine w_and ?_ | refine w_or ?_ | refine w_isiT ?_ | refine w_slc ?_ | refine p_none ?_ | refine p_some ?_ | refine w_cmp2 ?_
    | refine t_cmp ?_ | refine t_val ?_ | refine t_not ?_ | refine t_and ?_ | refine t_or ?_ | refine t_true ?_
    | refine ob_add ?_ | refine ob_sub ?_ | refine ob_mod (by omega) ?_ | refine ob_fdiv (by omega) ?_ | refine ob_mul (by omega) ?_ | refine ob_eqI ?_ | refine ob_neI ?_ | refine ob_eqSt (by decide +kernel) ?_ | refine ob_eqSf (by decide +kernel) ?_ | refine ob_neSt (by decide +kernel) ?_ | refine ob_neSf (by decide +kernel) ?_
    | refine if_dec (fun _ => ?_) (fun _ => ?_) | refine if_ndec (fun _ => ?_) (fun _ => ?_) | refine if_tt ?_ | refine if_ff ?_ | refine if_ft ?_ | refine if_tf ?_ | refine bool_ex ?_ | refine int_ex ?_
    | refine ob_intB ?_ | refine ob_range (by omega) (by omega) ?_ | refine ob_iterR (by omega) (by omega) ?_ | refine OB.of (by rfl) ?_))
        refine ⟨s1, s2, done ++ [r], by rw [e]; simp, ?_, by simp [hn, ov]⟩
        intro r' h'
        rcases List.mem_append.mp h' with h' | h'
        · exact hd r' h'
        · rw [List.mem_singleton.mp h', hn]; rfl
    have hb3 := h1.b3
    have hm4 := h1.m4
    cases r with
    | is v =>
      refine s_seq (s_asg (w_sub (w_loc (upd_self ..) (w_cst (OB.of (v := ov v) rfl (s_seq (s_if ?_)))))))
      (repeat' (first
    | refine tail _ s1 s2 (upd_self ..)
    | refine s_seq ?_ | refine s_if ?_ | refine s_ret ?_ | refine s_asg ?_ | refine s_nil ?_ | refine s_expr ?_ | refine s_store ?_ | refine s_for ?_ | refine s_asgT ?_
    | refine w_bin ?_ | refine w_cst ?_ | refine w_loc (by first | rfl | assumption) ?_ | refine w_callF ?_ | refine w_callB ?_ | refine w_cons ?_ | refine w_nil ?_ | refine w_tup ?_ | refine w_lst ?_ | refine w_newL ?_ | refine w_sub ?_ | refine w_neg ?_ | refine w_not ?_ | refine w_meth ?_ | refine w_cmp ?_ | refine w_ite ?_ | refine w_and ?_ | refine w_or ?_ | refine w_isiT ?_ | refine w_slc ?_ | refine p_none ?_ | refine p_some ?_ | refine w_cmp2 ?_
    | refine t_cmp ?_ | refine t_val ?_ | refine t_not ?_ | refine t_and ?_ | refine t_or ?_ | refine t_true ?_
    | refine ob_add ?_ | refine ob_sub ?_ | refine ob_mod (by omega) ?_ | refine ob_fdiv (by omega) ?_ | refine ob_mul (by omega) ?_ | refine ob_eqI ?_ | refine ob_neI ?_ | refine ob_eqSt (by decide +kernel) ?_ | refine ob_eqSf (by decide +kernel) ?_ | refine ob_neSt (by decide +kernel) ?_ | refine ob_neSf (by decide +kernel) ?_
    | refine if_dec (fun _ => ?_) (fun _ => ?_) | refine if_ndec (fun _ => ?_) (fun _ => ?_) | refine if_tt ?_ | refine if_ff ?_ | refine if_ft ?_ | refine if_tf ?_ | refine bool_ex ?_ | refine int_ex ?_
    | refine ob_intB ?_ | refine ob_range (by omega) (by omega) ?_ | refine ob_iterR (by omega) (by omega) ?_ | refine OB.of (by rfl) ?_))
    | byBox b vs =>
      have hb := nums_at hx hok.1.1 hok.1.2
      have h₁ := hok.1.1
      have h₂ := hok.1.2
      have h₃ := hok.2.1
      refine s_seq (s_asg (w_sub (w_loc (upd_self ..) (w_cst (OB.of (v := .int b) rfl (s_seq (s_if ?_)))))))
      (repeat' (first
    | refine tail _ s1 s2 (upd_self ..)
    | refine s_seq ?_ | refine s_if ?_ | refine s_ret ?_ | refine s_asg ?_ | refine s_nil ?_ | refine s_expr ?_ | refine s_store ?_ | refine s_for ?_ | refine s_asgT ?_
    | refine w_bin ?_ | refine w_cst ?_ | refine w_loc (by first | rfl | assumption) ?_ | refine w_callF ?_ | refine w_callB ?_ | refine w_cons ?_ | refine w_nil ?_ | refine w_tup ?_ | refine w_lst ?_ | refine w_newL ?_ | refine w_sub ?_ | refine w_neg ?_ | refine w_not ?_ | refine w_meth ?_ | refine w_cmp ?_ | refine w_ite ?_ | refine w_and ?_ | refine w_or ?_ | refine w_isiT ?_ | refine w_slc ?_ | refine p_none ?_ | refine p_some ?_ | refine w_cmp2 ?_
    | refine t_cmp ?_ | refine t_val ?_ | refine t_not ?_ | refine t_and ?_ | refine t_or ?_ | refine t_true ?_
    | refine ob_add ?_ | refine ob_sub ?_ | refine ob_mod (by omega) ?_ | refine ob_fdiv (by omega) ?_ | refine ob_mul (by omega) ?_ | refine ob_eqI ?_ | refine ob_neI ?_ | refine ob_eqSt (by decide +kernel) ?_ | refine ob_eqSf (by decide +kernel) ?_ | refine ob_neSt (by decide +kernel) ?_ | refine ob_neSf (by decide +kernel) ?_
    | refine if_dec (fun _ => ?_) (fun _ => ?_) | refine if_ndec (fun _ => ?_) (fun _ => ?_) | refine if_tt ?_ | refine if_ff ?_ | refine if_ft ?_ | refine if_tf ?_ | refine bool_ex ?_ | refine int_ex ?_
    | refine ob_intB ?_ | refine ob_range (by omega) (by omega) ?_ | refine ob_iterR (by omega) (by omega) ?_ | refine OB.of (by rfl) ?_))
      exact ob_item h₁ (by omega) hb.1 (ob_item hb.2.1 (by omega) (vs_at hb.2.1 (by omega)) (tail _ s1 s2 (upd_self ..)))
  · intro σ H' h
    obtain ⟨s1, s2, done, e, hd, rfl⟩ := h
    have hdl : done.length ≤ 1000 := by rw [e] at hl; simp at hl; omega
    (repeat' (first
    | refine s_seq ?_ | refine s_if ?_ | refine s_ret ?_ | refine s_asg ?_ | refine s_nil ?_ | refine s_expr ?_ | refine s_store ?_ | refine s_for ?_ | refine s_asgT ?_
    | refine w_bin ?_ | refine w_cst ?_ | refine w_loc (by first | rfl | assumption) ?_ | refine w_callF ?_ | refine w_callB ?_ | refine w_cons ?_ | refine w_nil ?_ | refine w_tup ?_ | refine w_lst ?_ | refine w_newL ?_ | refine w_sub ?_ | refine w_neg ?_ | refine w_not ?_ | refine w_meth ?_ | refine w_cmp ?_ | refine w_ite ?_ | refine w_and ?_ | refine w_or ?_ | refine w_isiT ?_ | refine w_slc ?_ | refine p_none ?_ | refine p_some ?_ | refine w_cmp2 ?_
    | refine t_cmp ?_ | refine t_val ?_ | refine t_not ?_ | refine t_and ?_ | refine t_or ?_ | refine t_true ?_
    | refine ob_add ?_ | refine ob_sub ?_ | refine ob_mod (by omega) ?_ | refine ob_fdiv (by omega) ?_ | refine ob_mul (by omega) ?_ | refine ob_eqI ?_ | refine ob_neI ?_ | refine ob_eqSt (by decide +kernel) ?_ | refine ob_eqSf (by decide +kernel) ?_ | refine ob_neSt (by decide +kernel) ?_ | refine ob_neSf (by decide +kernel) ?_
    | refine if_dec (fun _ => ?_) (fun _ => ?_) | refine if_ndec (fun _ => ?_) (fun _ => ?_) | refine if_tt ?_ | refine if_ff ?_ | refine if_ft ?_ | refine if_tf ?_ | refine bool_ex ?_ | refine int_ex ?_
    | refine ob_intB ?_ | refine ob_range (by omega) (by omega) ?_ | refine ob_iterR (by omega) (by omega) ?_ | refine OB.of (by rfl) ?_))
    refine ob_tupR (by simp; omega) ?_
    have e : tv (rs.map (numOf xs)) = .tup ((done.map (numOf xs)).map ov) := by
      unfold tv
      have : rs = done := by rw [e]; simp
      rw [this, if_neg]
      intro h
      obtain ⟨v, hv, h⟩ := List.any_eq_true.mp h
      obtain ⟨r, hr, rfl⟩ := List.mem_map.mp hv
      rw [hd r hr] at h
      cases h
    rw [e] at q
    exact fin_flat (flat_tup ovs_flat) q
end Mine

namespace Mine
open PySem
set_option Elab.async false
set_option linter.unusedVariables false
set_option maxRecDepth 10000
set_option maxHeartbeats 1000000
/-- places -/
structure Place where
  row : Int
  other : Int
  rules : List Rule
noncomputable def Place.av (p : Place) : AV := .tup [.int p.row, .int p.other, .tup (p.rules.map Rule.av)]
structure Place.Ok (one two : Prog) (p : Place) : Prop where
  r0 : 0 ≤ p.row
  r1 : p.row < one.rows.length
  o0 : 0 ≤ p.other
  o1 : p.other < two.rows.length
  rl : (p.rules.length : Int) = two.boxes
  ok : ∀ r ∈ p.rules, r.Ok one.boxes one.most two.most
structure POk (one two : Prog) (ps : List Place) : Prop where
  len : ps.length ≤ 16
  nd : (ps.map Place.row).Nodup
  ok : ∀ p ∈ ps, p.Ok one two
theorem Place.flat_of (p : Place) {n : Nat} (h : 5 ≤ n) : Mine.flat n p.av = true := by
  refine flat_mono _ h (flat_tup (n := 4) ?_)
  intro v hv
  simp at hv
  rcases hv with rfl | rfl | rfl
  · rfl
  · rfl
  · refine flat_tup (n := 3) ?_
    intro v hv
    obtain ⟨r, _, rfl⟩ := List.mem_map.mp hv
    exact r.flat_of (by omega)
theorem places_flat {l : List Place} {n : Nat} (h : 5 ≤ n) : ∀ v ∈ l.map Place.av, flat n v = true := by
  intro v hv
  obtain ⟨r, _, rfl⟩ := List.mem_map.mp hv
  exact r.flat_of h
theorem places_w {n : Nat} {c : Int} {one two : Prog} (h1 : one.Ok) (h2 : two.Ok) {H : AH} {Q : AV → AH → Prop} (q : ∀ ps, POk one two ps → Q (.lst (ps.map Place.av)) H) : W (fns tbl (n + 2) i_l_places [.int c, one.av, two.av] H) Q := by
  refine e_l_places (run_w rfl ?_)
  unfold k_l_places
  have r1 := h1.r1
  have r16 := h1.r16
  have t1 := h2.r1
  have t16 := h2.r16
  have b0 := h2.b0
  have b3 := h2.b3
  (repeat' (first
    | refine next_w ?_ | refine ob_lenM (by omega) ?_
    | refine s_seq ?_ | refine s_if ?_ | refine s_ret ?_ | refine s_asg ?_ | refine s_nil ?_ | refine s_expr ?_ | refine s_store ?_ | refine s_for ?_ | refine s_asgT ?_
    | refine w_bin ?_ | refine w_cst ?_ | refine w_loc (by first | rfl | assumption) ?_ | refine w_callF ?_ | refine w_callB ?_ | refine w_cons ?_ | refine w_nil ?_ | refine w_tup ?_ | refine w_lst ?_ | refine w_newL ?_ | refine w_sub ?_ | refine w_neg ?_ | refine w_not ?_ | refine w_meth ?_ | refine w_cmp ?_ | refine w_ite ?_ | refine w_and ?_ | refine w_or ?_ | refine w_isiT ?_ | refine w_slc ?_ | refine p_none ?_ | refine p_some ?_ | refine w_cmp2 ?_
    | refine t_cmp ?_ | refine t_val ?_ | refine t_not ?_ | refine t_and ?_ | refine t_or ?_ | refine t_true ?_
    | refine ob_add ?_ | refine ob_sub ?_ | refine ob_mod (by omega) ?_ | refine ob_fdiv (by omega) ?_ | refine ob_mul (by omega) ?_ | refine ob_eqI ?_ | refine ob_neI ?_ | refine ob_eqSt (by decide +kernel) ?_ | refine ob_eqSf (by decide +kernel) ?_ | refine ob_neSt (by decide +kernel) ?_ | refine ob_neSf (by decide +kernel) ?_
    | refine if_dec (fun _ => ?_) (fun _ => ?_) | refine if_ndec (fun _ => ?_) (fun _ => ?_) | refine if_tt ?_ | refine if_ff ?_ | refine if_ft ?_ | refine if_tf ?_ | refine bool_ex ?_ | refine int_ex ?_
    | refine ob_intB ?_ | refine ob_range (by omega) (by omega) ?_ | refine ob_iterR (by omega) (by omega) ?_ | refine OB.of (by rfl) ?_))
  refine forRange_w (fun j σ H' => σ 1 = some one.av ∧ σ 2 = some two.av ∧ σ 3 = some (.ref H.length) ∧ (∃ s, σ 4 = some (.int s)) ∧ ∃ ps : List Place, ps.length ≤ j ∧ (ps.map Place.row).Nodup ∧ (∀ p ∈ ps, p.Ok one two ∧ p.row < j) ∧ H' = H ++ [AO.list (ps.map Place.av)]) ?_ ?_ ⟨rfl, rfl, rfl, ⟨_, rfl⟩, [], by simp, by simp, fun r h => (nomatch h), rfl⟩
  · intro j σ H' hj h
    obtain ⟨s1, s2, s3, ⟨s, s4⟩, ps, hl, hnd, hok, rfl⟩ := h
    have hs' := nx_lo (s + j)
    (repeat' (first
    | refine next_w ?_
    | refine s_seq ?_ | refine s_if ?_ | refine s_ret ?_ | refine s_asg ?_ | refine s_nil ?_ | refine s_expr ?_ | refine s_store ?_ | refine s_for ?_ | refine s_asgT ?_
    | refine w_bin ?_ | refine w_cst ?_ | refine w_loc (by first | rfl | assumption) ?_ | refine w_callF ?_ | refine w_callB ?_ | refine w_cons ?_ | refine w_nil ?_ | refine w_tup ?_ | refine w_lst ?_ | refine w_newL ?_ | refine w_sub ?_ | refine w_neg ?_ | refine w_not ?_ | refine w_meth ?_ | refine w_cmp ?_ | refine w_ite ?_ | refine w_and ?_ | refine w_or ?_ | refine w_isiT ?_ | refine w_slc ?_ | refine p_none ?_ | refine p_some ?_ | refine w_cmp2 ?_
    | refine t_cmp ?_ | refine t_val ?_ | refine t_not ?_ | refine t_and ?_ | refine t_or ?_ | refine t_true ?_
    | refine ob_add ?_ | refine ob_sub ?_ | refine ob_mod (by omega) ?_ | refine ob_fdiv (by omega) ?_ | refine ob_mul (by omega) ?_ | refine ob_eqI ?_ | refine ob_neI ?_ | refine ob_eqSt (by decide +kernel) ?_ | refine ob_eqSf (by decide +kernel) ?_ | refine ob_neSt (by decide +kernel) ?_ | refine ob_neSf (by decide +kernel) ?_
    | refine if_dec (fun _ => ?_) (fun _ => ?_) | refine if_ndec (fun _ => ?_) (fun _ => ?_) | refine if_tt ?_ | refine if_ff ?_ | refine if_ft ?_ | refine if_tf ?_ | refine bool_ex ?_ | refine int_ex ?_
    | refine ob_intB ?_ | refine ob_range (by omega) (by omega) ?_ | refine ob_iterR (by omega) (by omega) ?_ | refine OB.of (by rfl) ?_))
    · refine w_compM (f := fun k : Nat => AV.int k) (P := fun _ x => ∃ r : Rule, r.Ok one.boxes one.most two.most ∧ x = r.av) ?_
      (repeat' (first
    | refine s_seq ?_ | refine s_if ?_ | refine s_ret ?_ | refine s_asg ?_ | refine s_nil ?_ | refine s_expr ?_ | refine s_store ?_ | refine s_for ?_ | refine s_asgT ?_
    | refine w_bin ?_ | refine w_cst ?_ | refine w_loc (by first | rfl | assumption) ?_ | refine w_callF ?_ | refine w_callB ?_ | refine w_cons ?_ | refine w_nil ?_ | refine w_tup ?_ | refine w_lst ?_ | refine w_newL ?_ | refine w_sub ?_ | refine w_neg ?_ | refine w_not ?_ | refine w_meth ?_ | refine w_cmp ?_ | refine w_ite ?_ | refine w_and ?_ | refine w_or ?_ | refine w_isiT ?_ | refine w_slc ?_ | refine p_none ?_ | refine p_some ?_ | refine w_cmp2 ?_
    | refine t_cmp ?_ | refine t_val ?_ | refine t_not ?_ | refine t_and ?_ | refine t_or ?_ | refine t_true ?_
    | refine ob_add ?_ | refine ob_sub ?_ | refine ob_mod (by omega) ?_ | refine ob_fdiv (by omega) ?_ | refine ob_mul (by omega) ?_ | refine ob_eqI ?_ | refine ob_neI ?_ | refine ob_eqSt (by decide +kernel) ?_ | refine ob_eqSf (by decide +kernel) ?_ | refine ob_neSt (by decide +kernel) ?_ | refine ob_neSf (by decide +kernel) ?_
    | refine if_dec (fun _ => ?_) (fun _ => ?_) | refine if_ndec (fun _ => ?_) (fun _ => ?_) | refine if_tt ?_ | refine if_ff ?_ | refine if_ft ?_ | refine if_tf ?_ | refine bool_ex ?_ | refine int_ex ?_
    | refine ob_intB ?_ | refine ob_range (by omega) (by omega) ?_ | refine ob_iterR (by omega) (by omega) ?_ | refine OB.of (by rfl) ?_))
      refine ⟨List.range two.boxes.toNat, ?_, by simp; omega, ?_, ?_⟩
      · show (if -1048576 ≤ two.boxes ∧ two.boxes ≤ 1048576 then some (rangeL two.boxes) else none) = _
        rw [if_pos ⟨by omega, by omega⟩]; rfl
      · intro k hk H'
        (repeat' (first
    | refine next_w ?_ | refine rule_w h1 h2 (nx_lo _) (fun r hr => ?_)
    | refine s_seq ?_ | refine s_if ?_ | refine s_ret ?_ | refine s_asg ?_ | refine s_nil ?_ | refine s_expr ?_ | refine s_store ?_ | refine s_for ?_ | refine s_asgT ?_
    | refine w_bin ?_ | refine w_cst ?_ | refine w_loc (by first | rfl | assumption) ?_ | refine w_callF ?_ | refine w_callB ?_ | refine w_cons ?_ | refine w_nil ?_ | refine w_tup ?_ | refine w_lst ?_ | refine w_newL ?_ | refine w_sub ?_ | refine w_neg ?_ | refine w_not ?_ | refine w_meth ?_ | refine w_cmp ?_ | refine w_ite ?_ | refine w_and ?_ | refine w_or ?_ | refine w_isiT ?_ | refine w_slc ?_ | refine p_none ?_ | refine p_some ?_ | refine w_cmp2 ?_
    | refine t_cmp ?_ | refine t_val ?_ | refine t_not ?_ | refine t_and ?_ | refine t_or ?_ | refine t_true ?_
    | refine ob_add ?_ | refine ob_sub ?_ | refine ob_mod (by omega) ?_ | refine ob_fdiv (by omega) ?_ | refine ob_mul (by omega) ?_ | refine ob_eqI ?_ | refine ob_neI ?_ | refine ob_eqSt (by decide +kernel) ?_ | refine ob_eqSf (by decide +kernel) ?_ | refine ob_neSt (by decide +kernel) ?_ | refine ob_neSf (by decide +kernel) ?_
    | refine if_dec (fun _ => ?_) (fun _ => ?_) | refine if_ndec (fun _ => ?_) (fun _ => ?_) | refine if_tt ?_ | refine if_ff ?_ | refine if_ft ?_ | refine if_tf ?_ | refine bool_ex ?_ | refine int_ex ?_
    | refine ob_intB ?_ | refine ob_range (by omega) (by omega) ?_ | refine ob_iterR (by omega) (by omega) ?_ | refine OB.of (by rfl) ?_))
        exact ⟨rfl, r.flat_of (by omega), r, hr, rfl⟩
      · intro ys ha
        have hyl := ha.length
        obtain ⟨rs, rfl, hrs⟩ := ha.pick (f := Rule.av) (R := fun r : Rule => r.Ok one.boxes one.most two.most) fun a b p => p
        have hrl : (rs.length : Int) = two.boxes := by simp at hyl; omega
        have hi := fun a => fm a (b := (ps.length : Int) + 1) (by omega)
        have hi2 := fun a => fm a (b := (two.rows.length : Int)) (by omega)
        refine w_nil (ob_tupL (by simp; omega) ?_)
        (repeat' (first
    | refine next_w ?_ | refine ob_lenM (by omega) ?_ | refine ob_lenMR (by omega) ?_ | refine And.intro (app_isL _ _) ?_
    | refine s_seq ?_ | refine s_if ?_ | refine s_ret ?_ | refine s_asg ?_ | refine s_nil ?_ | refine s_expr ?_ | refine s_store ?_ | refine s_for ?_ | refine s_asgT ?_
    | refine w_bin ?_ | refine w_cst ?_ | refine w_loc (by first | rfl | assumption) ?_ | refine w_callF ?_ | refine w_callB ?_ | refine w_cons ?_ | refine w_nil ?_ | refine w_tup ?_ | refine w_lst ?_ | refine w_newL ?_ | refine w_sub ?_ | refine w_neg ?_ | refine w_not ?_ | refine w_meth ?_ | refine w_cmp ?_ | refine w_ite ?_ | refine w_and ?_ | refine w_or ?_ | refine w_isiT ?_ | refine w_slc ?_ | refine p_none ?_ | refine p_some ?_ | refine w_cmp2 ?_
    | refine t_cmp ?_ | refine t_val ?_ | refine t_not ?_ | refine t_and ?_ | refine t_or ?_ | refine t_true ?_
    | refine ob_add ?_ | refine ob_sub ?_ | refine ob_mod (by omega) ?_ | refine ob_fdiv (by omega) ?_ | refine ob_mul (by omega) ?_ | refine ob_eqI ?_ | refine ob_neI ?_ | refine ob_eqSt (by decide +kernel) ?_ | refine ob_eqSf (by decide +kernel) ?_ | refine ob_neSt (by decide +kernel) ?_ | refine ob_neSf (by decide +kernel) ?_
    | refine if_dec (fun _ => ?_) (fun _ => ?_) | refine if_ndec (fun _ => ?_) (fun _ => ?_) | refine if_tt ?_ | refine if_ff ?_ | refine if_ft ?_ | refine if_tf ?_ | refine bool_ex ?_ | refine int_ex ?_
    | refine ob_intB ?_ | refine ob_range (by omega) (by omega) ?_ | refine ob_iterR (by omega) (by omega) ?_ | refine OB.of (by rfl) ?_))
        refine ob_ins (by simp; omega) (hi _).1 (by have := (hi ((nx (s + j)).fdiv 9)).2; simp; omega) ?_
        generalize hp : (Place.mk j (((nx (s + j)).fdiv 5).fmod two.rows.length) rs) = p
        have hpok : p.Ok one two := by
          subst hp
          exact ⟨by show (0 : Int) ≤ j; omega, by show (j : Int) < _; omega, (hi2 _).1, (hi2 _).2, hrl, hrs⟩
        have hperm := List.perm_middle (a := p) (l₁ := ps.take (((nx (s + j)).fdiv 9).fmod (ps.length + 1)).toNat) (l₂ := ps.drop (((nx (s + j)).fdiv 9).fmod (ps.length + 1)).toNat)
        rw [List.take_append_drop] at hperm
        have hrow : p.row = j := by subst hp; rfl
        refine ⟨s1, s2, s3, ⟨_, rfl⟩, ps.take (((nx (s + j)).fdiv 9).fmod (ps.length + 1)).toNat ++ p :: ps.drop (((nx (s + j)).fdiv 9).fmod (ps.length + 1)).toNat, ?_, ?_, ?_, ?_⟩
        · rw [hperm.length_eq]; simp; omega
        · rw [(hperm.map Place.row).nodup_iff, List.map_cons, List.nodup_cons]
          refine ⟨fun hm => ?_, hnd⟩
          obtain ⟨p', hp', e⟩ := List.mem_map.mp hm
          have := (hok p' hp').2
          omega
        · intro p' hp'
          rcases List.mem_cons.mp (hperm.mem_iff.mp hp') with rfl | h
          · exact ⟨hpok, by omega⟩
          · exact ⟨(hok p' h).1, by have := (hok p' h).2; omega⟩
        · subst hp
          simp [List.map_take, List.map_drop]
          rfl
    · exact ⟨s1, s2, s3, ⟨_, rfl⟩, ps, by omega, hnd, fun p hp => ⟨(hok p hp).1, by have := (hok p hp).2; omega⟩, rfl⟩
  · intro σ H' h
    obtain ⟨s1, s2, s3, ⟨s, s4⟩, ps, hl, hnd, hok, rfl⟩ := h
    (repeat' (first
    | refine s_seq ?_ | refine s_if ?_ | refine s_ret ?_ | refine s_asg ?_ | refine s_nil ?_ | refine s_expr ?_ | refine s_store ?_ | refine s_for ?_ | refine s_asgT ?_
    | refine w_bin ?_ | refine w_cst ?_ | refine w_loc (by first | rfl | assumption) ?_ | refine w_callF ?_ | refine w_callB ?_ | refine w_cons ?_ | refine w_nil ?_ | refine w_tup ?_ | refine w_lst ?_ | refine w_newL ?_ | refine w_sub ?_ | refine w_neg ?_ | refine w_not ?_ | refine w_meth ?_ | refine w_cmp ?_ | refine w_ite ?_ | refine w_and ?_ | refine w_or ?_ | refine w_isiT ?_ | refine w_slc ?_ | refine p_none ?_ | refine p_some ?_ | refine w_cmp2 ?_
    | refine t_cmp ?_ | refine t_val ?_ | refine t_not ?_ | refine t_and ?_ | refine t_or ?_ | refine t_true ?_
    | refine ob_add ?_ | refine ob_sub ?_ | refine ob_mod (by omega) ?_ | refine ob_fdiv (by omega) ?_ | refine ob_mul (by omega) ?_ | refine ob_eqI ?_ | refine ob_neI ?_ | refine ob_eqSt (by decide +kernel) ?_ | refine ob_eqSf (by decide +kernel) ?_ | refine ob_neSt (by decide +kernel) ?_ | refine ob_neSf (by decide +kernel) ?_
    | refine if_dec (fun _ => ?_) (fun _ => ?_) | refine if_ndec (fun _ => ?_) (fun _ => ?_) | refine if_tt ?_ | refine if_ff ?_ | refine if_ft ?_ | refine if_tf ?_ | refine bool_ex ?_ | refine int_ex ?_
    | refine ob_intB ?_ | refine ob_range (by omega) (by omega) ?_ | refine ob_iterR (by omega) (by omega) ?_ | refine OB.of (by rfl) ?_))
    exact fin_list (places_flat (by omega)) (q ps ⟨by omega, hnd, fun p hp => (hok p hp).1⟩)
noncomputable def pv : Option Place → AV
  | none => .none
  | some p => p.av
end Mine

namespace Mine
open PySem
set_option Elab.async false
set_option linter.unusedVariables false
set_option maxRecDepth 10000
set_option maxHeartbeats 1000000
theorem place_at_w {n : Nat} {L : List Place} {r : Int} {H : AH} {Q : AV → AH → Prop} (q : Q (pv (L.find? fun p => decide (p.row = r))) H) : W (fns tbl (n + 1) i_place_at [.lst (L.map Place.av), .int r] H) Q := by
  refine e_place_at (run_w rfl ?_)
  unfold k_place_at
  (repeat' (first
    | refine s_seq ?_ | refine s_if ?_ | refine s_ret ?_ | refine s_asg ?_ | refine s_nil ?_ | refine s_expr ?_ | refine s_store ?_ | refine s_for ?_ | refine s_asgT ?_
    | refine w_bin ?_ | refine w_cst ?_ | refine w_loc (by first | rfl | assumption) ?_ | refine w_callF ?_ | refine w_callB ?_ | refine w_cons ?_ | refine w_nil ?_ | refine w_tup ?_ | refine w_lst ?_ | refine w_newL ?_ | refine w_sub ?_ | refine w_neg ?_ | refine w_not ?_ | refine w_meth ?_ | refine w_cmp ?_ | refine w_ite ?_ | refine w_and ?_ | refine w_or ?_ | refine w_isiT ?_ | refine w_slc ?_ | refine p_none ?_ | refine p_some ?_ | refine w_cmp2 ?_
    | refine t_cmp ?_ | refine t_val ?_ | refine t_not ?_ | refine t_and ?_ | refine t_or ?_ | refine t_true ?_
    | refine ob_add ?_ | refine ob_sub ?_ | refine ob_mod (by omega) ?_ | refine ob_fdiv (by omega) ?_ | refine ob_mul (by omega) ?_ | refine ob_eqI ?_ | refine ob_neI ?_ | refine ob_eqSt (by decide +kernel) ?_ | refine ob_eqSf (by decide +kernel) ?_ | refine ob_neSt (by decide +kernel) ?_ | refine ob_neSf (by decide +kernel) ?_
    | refine if_dec (fun _ => ?_) (fun _ => ?_) | refine if_ndec (fun _ => ?_) (fun _ => ?_) | refine if_tt ?_ | refine if_ff ?_ | refine if_ft ?_ | refine if_tf ?_ | refine bool_ex ?_ | refine int_ex ?_
    | refine ob_intB ?_ | refine ob_range (by omega) (by omega) ?_ | refine ob_iterR (by omega) (by omega) ?_ | refine OB.of (by rfl) ?_))
  refine forMap_w (fun rest σ H' => σ 1 = some (.int r) ∧ H' = H ∧ L.find? (fun p => decide (p.row = r)) = rest.find? (fun p => decide (p.row = r))) ?_ ?_ ⟨rfl, rfl, rfl⟩
  · intro p rest σ H' h
    obtain ⟨s1, rfl, e⟩ := h
    (repeat' (first
    | refine s_seq ?_ | refine s_if ?_ | refine s_ret ?_ | refine s_asg ?_ | refine s_nil ?_ | refine s_expr ?_ | refine s_store ?_ | refine s_for ?_ | refine s_asgT ?_
    | refine w_bin ?_ | refine w_cst ?_ | refine w_loc (by first | rfl | assumption) ?_ | refine w_callF ?_ | refine w_callB ?_ | refine w_cons ?_ | refine w_nil ?_ | refine w_tup ?_ | refine w_lst ?_ | refine w_newL ?_ | refine w_sub ?_ | refine w_neg ?_ | refine w_not ?_ | refine w_meth ?_ | refine w_cmp ?_ | refine w_ite ?_ | refine w_and ?_ | refine w_or ?_ | refine w_isiT ?_ | refine w_slc ?_ | refine p_none ?_ | refine p_some ?_ | refine w_cmp2 ?_
    | refine t_cmp ?_ | refine t_val ?_ | refine t_not ?_ | refine t_and ?_ | refine t_or ?_ | refine t_true ?_
    | refine ob_add ?_ | refine ob_sub ?_ | refine ob_mod (by omega) ?_ | refine ob_fdiv (by omega) ?_ | refine ob_mul (by omega) ?_ | refine ob_eqI ?_ | refine ob_neI ?_ | refine ob_eqSt (by decide +kernel) ?_ | refine ob_eqSf (by decide +kernel) ?_ | refine ob_neSt (by decide +kernel) ?_ | refine ob_neSf (by decide +kernel) ?_
    | refine if_dec (fun _ => ?_) (fun _ => ?_) | refine if_ndec (fun _ => ?_) (fun _ => ?_) | refine if_tt ?_ | refine if_ff ?_ | refine if_ft ?_ | refine if_tf ?_ | refine bool_ex ?_ | refine int_ex ?_
    | refine ob_intB ?_ | refine ob_range (by omega) (by omega) ?_ | refine ob_iterR (by omega) (by omega) ?_ | refine OB.of (by rfl) ?_))
    · rename_i hp
      rw [e, List.find?_cons_of_pos (by simpa using hp)] at q
      exact fin_same (p.flat_of (by omega)) q
    · rename_i hp
      rw [List.find?_cons_of_neg (by simpa using hp)] at e
      exact ⟨s1, rfl, e⟩
  · intro σ H' h
    obtain ⟨s1, rfl, e⟩ := h
    (repeat' (first
    | refine s_seq ?_ | refine s_if ?_ | refine s_ret ?_ | refine s_asg ?_ | refine s_nil ?_ | refine s_expr ?_ | refine s_store ?_ | refine s_for ?_ | refine s_asgT ?_
    | refine w_bin ?_ | refine w_cst ?_ | refine w_loc (by first | rfl | assumption) ?_ | refine w_callF ?_ | refine w_callB ?_ | refine w_cons ?_ | refine w_nil ?_ | refine w_tup ?_ | refine w_lst ?_ | refine w_newL ?_ | refine w_sub ?_ | refine w_neg ?_ | refine w_not ?_ | refine w_meth ?_ | refine w_cmp ?_ | refine w_ite ?_ | refine w_and ?_ | refine w_or ?_ | refine w_isiT ?_ | refine w_slc ?_ | refine p_none ?_ | refine p_some ?_ | refine w_cmp2 ?_
    | refine t_cmp ?_ | refine t_val ?_ | refine t_not ?_ | refine t_and ?_ | refine t_or ?_ | refine t_true ?_
    | refine ob_add ?_ | refine ob_sub ?_ | refine ob_mod (by omega) ?_ | refine ob_fdiv (by omega) ?_ | refine ob_mul (by omega) ?_ | refine ob_eqI ?_ | refine ob_neI ?_ | refine ob_eqSt (by decide +kernel) ?_ | refine ob_eqSf (by decide +kernel) ?_ | refine ob_neSt (by decide +kernel) ?_ | refine ob_neSf (by decide +kernel) ?_
    | refine if_dec (fun _ => ?_) (fun _ => ?_) | refine if_ndec (fun _ => ?_) (fun _ => ?_) | refine if_tt ?_ | refine if_ff ?_ | refine if_ft ?_ | refine if_tf ?_ | refine bool_ex ?_ | refine int_ex ?_
    | refine ob_intB ?_ | refine ob_range (by omega) (by omega) ?_ | refine ob_iterR (by omega) (by omega) ?_ | refine OB.of (by rfl) ?_))
    rw [e] at q
    exact fin_same rfl q
noncomputable def thr (vs : List (Option Int)) : Option Int → Option Int
  | none => none
  | some i => vs.getD i.toNat none
theorem through_w {n : Nat} {vs : List (Option Int)} {M : Int} (hl : (vs.length : Int) = M + 1) (hM : M ≤ 1000) {v : Option Int} (hv : OkN M v) {H : AH} {Q : AV → AH → Prop} (q : Q (ov (thr vs v)) H) : W (fns tbl (n + 1) i_through [.tup (vs.map ov), ov v] H) Q := by
  refine e_through (run_w rfl ?_)
  unfold k_through
  cases v with
  | none =>
    (repeat' (first
    | refine s_seq ?_ | refine s_if ?_ | refine s_ret ?_ | refine s_asg ?_ | refine s_nil ?_ | refine s_expr ?_ | refine s_store ?_ | refine s_for ?_ | refine s_asgT ?_
    | refine w_bin ?_ | refine w_cst ?_ | refine w_loc (by first | rfl | assumption) ?_ | refine w_callF ?_ | refine w_callB ?_ | refine w_cons ?_ | refine w_nil ?_ | refine w_tup ?_ | refine w_lst ?_ | refine w_newL ?_ | refine w_sub ?_ | refine w_neg ?_ | refine w_not ?_ | refine w_meth ?_ | refine w_cmp ?_ | refine w_ite ?_ | refine w_and ?_ | refine w_or ?_ | refine w_isiT ?_ | refine w_slc ?_ | refine p_none ?_ | refine p_some ?_ | refine w_cmp2 ?_
    | refine t_cmp ?_ | refine t_val ?_ | refine t_not ?_ | refine t_and ?_ | refine t_or ?_ | refine t_true ?_
    | refine ob_add ?_ | refine ob_sub ?_ | refine ob_mod (by omega) ?_ | refine ob_fdiv (by omega) ?_ | refine ob_mul (by omega) ?_ | refine ob_eqI ?_ | refine ob_neI ?_ | refine ob_eqSt (by decide +kernel) ?_ | refine ob_eqSf (by decide +kernel) ?_ | refine ob_neSt (by decide +kernel) ?_ | refine ob_neSf (by decide +kernel) ?_
    | refine if_dec (fun _ => ?_) (fun _ => ?_) | refine if_ndec (fun _ => ?_) (fun _ => ?_) | refine if_tt ?_ | refine if_ff ?_ | refine if_ft ?_ | refine if_tf ?_ | refine bool_ex ?_ | refine int_ex ?_
    | refine ob_intB ?_ | refine ob_range (by omega) (by omega) ?_ | refine ob_iterR (by omega) (by omega) ?_ | refine OB.of (by rfl) ?_))
    exact fin_same rfl q
  | some i =>
    have := hv i rfl
    (repeat' (first
    | refine s_seq ?_ | refine s_if ?_ | refine s_ret ?_ | refine s_asg ?_ | refine s_nil ?_ | refine s_expr ?_ | refine s_store ?_ | refine s_for ?_ | refine s_asgT ?_
    | refine w_bin ?_ | refine w_cst ?_ | refine w_loc (by first | rfl | assumption) ?_ | refine w_callF ?_ | refine w_callB ?_ | refine w_cons ?_ | refine w_nil ?_ | refine w_tup ?_ | refine w_lst ?_ | refine w_newL ?_ | refine w_sub ?_ | refine w_neg ?_ | refine w_not ?_ | refine w_meth ?_ | refine w_cmp ?_ | refine w_ite ?_ | refine w_and ?_ | refine w_or ?_ | refine w_isiT ?_ | refine w_slc ?_ | refine p_none ?_ | refine p_some ?_ | refine w_cmp2 ?_
    | refine t_cmp ?_ | refine t_val ?_ | refine t_not ?_ | refine t_and ?_ | refine t_or ?_ | refine t_true ?_
    | refine ob_add ?_ | refine ob_sub ?_ | refine ob_mod (by omega) ?_ | refine ob_fdiv (by omega) ?_ | refine ob_mul (by omega) ?_ | refine ob_eqI ?_ | refine ob_neI ?_ | refine ob_eqSt (by decide +kernel) ?_ | refine ob_eqSf (by decide +kernel) ?_ | refine ob_neSt (by decide +kernel) ?_ | refine ob_neSf (by decide +kernel) ?_
    | refine if_dec (fun _ => ?_) (fun _ => ?_) | refine if_ndec (fun _ => ?_) (fun _ => ?_) | refine if_tt ?_ | refine if_ff ?_ | refine if_ft ?_ | refine if_tf ?_ | refine bool_ex ?_ | refine int_ex ?_
    | refine ob_intB ?_ | refine ob_range (by omega) (by omega) ?_ | refine ob_iterR (by omega) (by omega) ?_ | refine OB.of (by rfl) ?_))
    exact ob_item (by omega) (by omega) (vs_at (by omega) (by omega)) (fin_same (ov_flat _) q)
theorem behind_w {n : Nat} {vs : List (Option Int)} {M : Int} (hl : (vs.length : Int) = M + 1) (hM : M ≤ 1000) {v : Option Int} (hv : OkN M v) {H : AH} {Q : AV → AH → Prop} (q : Q (ov (thr vs v)) H) : W (fns tbl (n + 1) i_l_behind [.tup (vs.map ov), ov v] H) Q := by
  refine e_l_behind (run_w rfl ?_)
  unfold k_l_behind
  cases v with
  | none =>
    (repeat' (first
    | refine s_seq ?_ | refine s_if ?_ | refine s_ret ?_ | refine s_asg ?_ | refine s_nil ?_ | refine s_expr ?_ | refine s_store ?_ | refine s_for ?_ | refine s_asgT ?_
    | refine w_bin ?_ | refine w_cst ?_ | refine w_loc (by first | rfl | assumption) ?_ | refine w_callF ?_ | refine w_callB ?_ | refine w_cons ?_ | refine w_nil ?_ | refine w_tup ?_ | refine w_lst ?_ | refine w_newL ?_ | refine w_sub ?_ | refine w_neg ?_ | refine w_not ?_ | refine w_meth ?_ | refine w_cmp ?_ | refine w_ite ?_ | refine w_and ?_ | refine w_or ?_ | refine w_isiT ?_ | refine w_slc ?_ | refine p_none ?_ | refine p_some ?_ | refine w_cmp2 ?_
    | refine t_cmp ?_ | refine t_val ?_ | refine t_not ?_ | refine t_and ?_ | refine t_or ?_ | refine t_true ?_
    | refine ob_add ?_ | refine ob_sub ?_ | refine ob_mod (by omega) ?_ | refine ob_fdiv (by omega) ?_ | refine ob_mul (by omega) ?_ | refine ob_eqI ?_ | refine ob_neI ?_ | refine ob_eqSt (by decide +kernel) ?_ | refine ob_eqSf (by decide +kernel) ?_ | refine ob_neSt (by decide +kernel) ?_ | refine ob_neSf (by decide +kernel) ?_
    | refine if_dec (fun _ => ?_) (fun _ => ?_) | refine if_ndec (fun _ => ?_) (fun _ => ?_) | refine if_tt ?_ | refine if_ff ?_ | refine if_ft ?_ | refine if_tf ?_ | refine bool_ex ?_ | refine int_ex ?_
    | refine ob_intB ?_ | refine ob_range (by omega) (by omega) ?_ | refine ob_iterR (by omega) (by omega) ?_ | refine OB.of (by rfl) ?_))
    exact fin_same rfl q
  | some i =>
    have := hv i rfl
    (repeat' (first
    | refine s_seq ?_ | refine s_if ?_ | refine s_ret ?_ | refine s_asg ?_ | refine s_nil ?_ | refine s_expr ?_ | refine s_store ?_ | refine s_for ?_ | refine s_asgT ?_
    | refine w_bin ?_ | refine w_cst ?_ | refine w_loc (by first | rfl | assumption) ?_ | refine w_callF ?_ | refine w_callB ?_ | refine w_cons ?_ | refine w_nil ?_ | refine w_tup ?_ | refine w_lst ?_ | refine w_newL ?_ | refine w_sub ?_ | refine w_neg ?_ | refine w_not ?_ | refine w_meth ?_ | refine w_cmp ?_ | refine w_ite ?_ | refine w_and ?_ | refine w_or ?_ | refine w_isiT ?_ | refine w_slc ?_ | refine p_none ?_ | refine p_some ?_ | refine w_cmp2 ?_
    | refine t_cmp ?_ | refine t_val ?_ | refine t_not ?_ | refine t_and ?_ | refine t_or ?_ | refine t_true ?_
    | refine ob_add ?_ | refine ob_sub ?_ | refine ob_mod (by omega) ?_ | refine ob_fdiv (by omega) ?_ | refine ob_mul (by omega) ?_ | refine ob_eqI ?_ | refine ob_neI ?_ | refine ob_eqSt (by decide +kernel) ?_ | refine ob_eqSf (by decide +kernel) ?_ | refine ob_neSt (by decide +kernel) ?_ | refine ob_neSf (by decide +kernel) ?_
    | refine if_dec (fun _ => ?_) (fun _ => ?_) | refine if_ndec (fun _ => ?_) (fun _ => ?_) | refine if_tt ?_ | refine if_ff ?_ | refine if_ft ?_ | refine if_tf ?_ | refine bool_ex ?_ | refine int_ex ?_
    | refine ob_intB ?_ | refine ob_range (by omega) (by omega) ?_ | refine ob_iterR (by omega) (by omega) ?_ | refine OB.of (by rfl) ?_))
    exact ob_item (by omega) (by omega) (vs_at (by omega) (by omega)) (fin_same (ov_flat _) q)
/-- a rule behind rules -/
noncomputable def jr (rules : List Rule) : Rule → Rule
  | .is v => .is v
  | .byBox b vs => match rules.getD b.toNat (.is none) with
    | .is v => .is (thr vs v)
    | .byBox b' us => .byBox b' (us.map (thr vs))
theorem rule_at {rules : List Rule} {b : Int} (h0 : 0 ≤ b) (h1 : b < rules.length) : (rules.map Rule.av)[b.toNat]? = some (rules.getD b.toNat (.is none)).av ∧ rules.getD b.toNat (.is none) ∈ rules := by
  have e := getD_some (d := Rule.is none) (l := rules) (k := b.toNat) (by omega)
  refine ⟨?_, List.mem_of_getElem? e⟩
  rw [List.getElem?_map, e]; rfl
theorem joined_rule_w {n : Nat} {one two : Prog} {M : Int} (h1 : one.Ok) (h2 : two.Ok) {rules : List Rule} (hl : (rules.length : Int) = two.boxes) (hrs : ∀ r ∈ rules, r.Ok one.boxes one.most two.most) {r : Rule} (hr : r.Ok two.boxes two.most M) {H : AH} {Q : AV → AH → Prop} (q : Q (jr rules r).av H) :
    W (fns tbl (n + 2) i_joined_rule [.tup (rules.map Rule.av), r.av] H) Q := by
  refine e_joined_rule (run_w rfl ?_)
  unfold k_joined_rule
  cases r with
  | is v =>
    (repeat' (first
    | refine s_seq ?_ | refine s_if ?_ | refine s_ret ?_ | refine s_asg ?_ | refine s_nil ?_ | refine s_expr ?_ | refine s_store ?_ | refine s_for ?_ | refine s_asgT ?_
    | refine w_bin ?_ | refine w_cst ?_ | refine w_loc (by first | rfl | assumption) ?_ | refine w_callF ?_ | refine w_callB ?_ | refine w_cons ?_ | refine w_nil ?_ | refine w_tup ?_ | refine w_lst ?_ | refine w_newL ?_ | refine w_sub ?_ | refine w_neg ?_ | refine w_not ?_ | refine w_meth ?_ | refine w_cmp ?_ | refine w_ite ?_ | refine w_and ?_ | refine w_or ?_ | refine w_isiT ?_ | refine w_slc ?_ | refine p_none ?_ | refine p_some ?_ | refine w_cmp2 ?_
    | refine t_cmp ?_ | refine t_val ?_ | refine t_not ?_ | refine t_and ?_ | refine t_or ?_ | refine t_true ?_
    | refine ob_add ?_ | refine ob_sub ?_ | refine ob_mod (by omega) ?_ | refine ob_fdiv (by omega) ?_ | refine ob_mul (by omega) ?_ | refine ob_eqI ?_ | refine ob_neI ?_ | refine ob_eqSt (by decide +kernel) ?_ | refine ob_eqSf (by decide +kernel) ?_ | refine ob_neSt (by decide +kernel) ?_ | refine ob_neSf (by decide +kernel) ?_
    | refine if_dec (fun _ => ?_) (fun _ => ?_) | refine if_ndec (fun _ => ?_) (fun _ => ?_) | refine if_tt ?_ | refine if_ff ?_ | refine if_ft ?_ | refine if_tf ?_ | refine bool_ex ?_ | refine int_ex ?_
    | refine ob_intB ?_ | refine ob_range (by omega) (by omega) ?_ | refine ob_iterR (by omega) (by omega) ?_ | refine OB.of (by rfl) ?_))
    exact fin_same ((Rule.is v).flat_of (by omega)) q
  | byBox b vs =>
    have b3 := h2.b3
    have m4 := h2.m4
    have n4 := h1.m4
    have hb := hr.1
    have hv := hr.2.1
    obtain ⟨e, hx⟩ := rule_at (rules := rules) (b := b) hb.1 (by omega)
    have hxok := hrs _ hx
    have q : Q (match rules.getD b.toNat (.is none) with | .is v => Rule.is (thr vs v) | .byBox b' us => .byBox b' (us.map (thr vs))).av H := q
    generalize rules.getD b.toNat (.is none) = x at e hx hxok q
    (repeat' (first
    | refine s_seq ?_ | refine s_if ?_ | refine s_ret ?_ | refine s_asg ?_ | refine s_nil ?_ | refine s_expr ?_ | refine s_store ?_ | refine s_for ?_ | refine s_asgT ?_
    | refine w_bin ?_ | refine w_cst ?_ | refine w_loc (by first | rfl | assumption) ?_ | refine w_callF ?_ | refine w_callB ?_ | refine w_cons ?_ | refine w_nil ?_ | refine w_tup ?_ | refine w_lst ?_ | refine w_newL ?_ | refine w_sub ?_ | refine w_neg ?_ | refine w_not ?_ | refine w_meth ?_ | refine w_cmp ?_ | refine w_ite ?_ | refine w_and ?_ | refine w_or ?_ | refine w_isiT ?_ | refine w_slc ?_ | refine p_none ?_ | refine p_some ?_ | refine w_cmp2 ?_
    | refine t_cmp ?_ | refine t_val ?_ | refine t_not ?_ | refine t_and ?_ | refine t_or ?_ | refine t_true ?_
    | refine ob_add ?_ | refine ob_sub ?_ | refine ob_mod (by omega) ?_ | refine ob_fdiv (by omega) ?_ | refine ob_mul (by omega) ?_ | refine ob_eqI ?_ | refine ob_neI ?_ | refine ob_eqSt (by decide +kernel) ?_ | refine ob_eqSf (by decide +kernel) ?_ | refine ob_neSt (by decide +kernel) ?_ | refine ob_neSf (by decide +kernel) ?_
    | refine if_dec (fun _ => ?_) (fun _ => ?_) | refine if_ndec (fun _ => ?_) (fun _ => ?_) | refine if_tt ?_ | refine if_ff ?_ | refine if_ft ?_ | refine if_tf ?_ | refine bool_ex ?_ | refine int_ex ?_
    | refine ob_intB ?_ | refine ob_range (by omega) (by omega) ?_ | refine ob_iterR (by omega) (by omega) ?_ | refine OB.of (by rfl) ?_))
    refine ob_item hb.1 (by omega) e ?_
    cases x with
    | is v =>
      (repeat' (first
    | refine through_w hv (by omega) hxok ?_
    | refine s_seq ?_ | refine s_if ?_ | refine s_ret ?_ | refine s_asg ?_ | refine s_nil ?_ | refine s_expr ?_ | refine s_store ?_ | refine s_for ?_ | refine s_asgT ?_
    | refine w_bin ?_ | refine w_cst ?_ | refine w_loc (by first | rfl | assumption) ?_ | refine w_callF ?_ | refine w_callB ?_ | refine w_cons ?_ | refine w_nil ?_ | refine w_tup ?_ | refine w_lst ?_ | refine w_newL ?_ | refine w_sub ?_ | refine w_neg ?_ | refine w_not ?_ | refine w_meth ?_ | refine w_cmp ?_ | refine w_ite ?_ | refine w_and ?_ | refine w_or ?_ | refine w_isiT ?_ | refine w_slc ?_ | refine p_none ?_ | refine p_some ?_ | refine w_cmp2 ?_
    | refine t_cmp ?_ | refine t_val ?_ | refine t_not ?_ | refine t_and ?_ | refine t_or ?_ | refine t_true ?_
    | refine ob_add ?_ | refine ob_sub ?_ | refine ob_mod (by omega) ?_ | refine ob_fdiv (by omega) ?_ | refine ob_mul (by omega) ?_ | refine ob_eqI ?_ | refine ob_neI ?_ | refine ob_eqSt (by decide +kernel) ?_ | refine ob_eqSf (by decide +kernel) ?_ | refine ob_neSt (by decide +kernel) ?_ | refine ob_neSf (by decide +kernel) ?_
    | refine if_dec (fun _ => ?_) (fun _ => ?_) | refine if_ndec (fun _ => ?_) (fun _ => ?_) | refine if_tt ?_ | refine if_ff ?_ | refine if_ft ?_ | refine if_tf ?_ | refine bool_ex ?_ | refine int_ex ?_
    | refine ob_intB ?_ | refine ob_range (by omega) (by omega) ?_ | refine ob_iterR (by omega) (by omega) ?_ | refine OB.of (by rfl) ?_))
      exact fin_same ((Rule.is _).flat_of (by omega)) q
    | byBox b' us =>
      (repeat' (first
    | refine s_seq ?_ | refine s_if ?_ | refine s_ret ?_ | refine s_asg ?_ | refine s_nil ?_ | refine s_expr ?_ | refine s_store ?_ | refine s_for ?_ | refine s_asgT ?_
    | refine w_bin ?_ | refine w_cst ?_ | refine w_loc (by first | rfl | assumption) ?_ | refine w_callF ?_ | refine w_callB ?_ | refine w_cons ?_ | refine w_nil ?_ | refine w_tup ?_ | refine w_lst ?_ | refine w_newL ?_ | refine w_sub ?_ | refine w_neg ?_ | refine w_not ?_ | refine w_meth ?_ | refine w_cmp ?_ | refine w_ite ?_ | refine w_and ?_ | refine w_or ?_ | refine w_isiT ?_ | refine w_slc ?_ | refine p_none ?_ | refine p_some ?_ | refine w_cmp2 ?_
    | refine t_cmp ?_ | refine t_val ?_ | refine t_not ?_ | refine t_and ?_ | refine t_or ?_ | refine t_true ?_
    | refine ob_add ?_ | refine ob_sub ?_ | refine ob_mod (by omega) ?_ | refine ob_fdiv (by omega) ?_ | refine ob_mul (by omega) ?_ | refine ob_eqI ?_ | refine ob_neI ?_ | refine ob_eqSt (by decide +kernel) ?_ | refine ob_eqSf (by decide +kernel) ?_ | refine ob_neSt (by decide +kernel) ?_ | refine ob_neSf (by decide +kernel) ?_
    | refine if_dec (fun _ => ?_) (fun _ => ?_) | refine if_ndec (fun _ => ?_) (fun _ => ?_) | refine if_tt ?_ | refine if_ff ?_ | refine if_ft ?_ | refine if_tf ?_ | refine bool_ex ?_ | refine int_ex ?_
    | refine ob_intB ?_ | refine ob_range (by omega) (by omega) ?_ | refine ob_iterR (by omega) (by omega) ?_ | refine OB.of (by rfl) ?_))
      refine w_compMap (f := ov) (g := fun v => ov (thr vs v)) ?_
      (repeat' (first
    | refine s_seq ?_ | refine s_if ?_ | refine s_ret ?_ | refine s_asg ?_ | refine s_nil ?_ | refine s_expr ?_ | refine s_store ?_ | refine s_for ?_ | refine s_asgT ?_
    | refine w_bin ?_ | refine w_cst ?_ | refine w_loc (by first | rfl | assumption) ?_ | refine w_callF ?_ | refine w_callB ?_ | refine w_cons ?_ | refine w_nil ?_ | refine w_tup ?_ | refine w_lst ?_ | refine w_newL ?_ | refine w_sub ?_ | refine w_neg ?_ | refine w_not ?_ | refine w_meth ?_ | refine w_cmp ?_ | refine w_ite ?_ | refine w_and ?_ | refine w_or ?_ | refine w_isiT ?_ | refine w_slc ?_ | refine p_none ?_ | refine p_some ?_ | refine w_cmp2 ?_
    | refine t_cmp ?_ | refine t_val ?_ | refine t_not ?_ | refine t_and ?_ | refine t_or ?_ | refine t_true ?_
    | refine ob_add ?_ | refine ob_sub ?_ | refine ob_mod (by omega) ?_ | refine ob_fdiv (by omega) ?_ | refine ob_mul (by omega) ?_ | refine ob_eqI ?_ | refine ob_neI ?_ | refine ob_eqSt (by decide +kernel) ?_ | refine ob_eqSf (by decide +kernel) ?_ | refine ob_neSt (by decide +kernel) ?_ | refine ob_neSf (by decide +kernel) ?_
    | refine if_dec (fun _ => ?_) (fun _ => ?_) | refine if_ndec (fun _ => ?_) (fun _ => ?_) | refine if_tt ?_ | refine if_ff ?_ | refine if_ft ?_ | refine if_tf ?_ | refine bool_ex ?_ | refine int_ex ?_
    | refine ob_intB ?_ | refine ob_range (by omega) (by omega) ?_ | refine ob_iterR (by omega) (by omega) ?_ | refine OB.of (by rfl) ?_))
      have hul := hxok.2.1
      refine ⟨us, rfl, by omega, ?_, fun x _ => ov_flat _, ?_⟩
      · intro x hx' H'
        (repeat' (first
    | refine through_w hv (by omega) (hxok.2.2 x hx') ?_
    | refine s_seq ?_ | refine s_if ?_ | refine s_ret ?_ | refine s_asg ?_ | refine s_nil ?_ | refine s_expr ?_ | refine s_store ?_ | refine s_for ?_ | refine s_asgT ?_
    | refine w_bin ?_ | refine w_cst ?_ | refine w_loc (by first | rfl | assumption) ?_ | refine w_callF ?_ | refine w_callB ?_ | refine w_cons ?_ | refine w_nil ?_ | refine w_tup ?_ | refine w_lst ?_ | refine w_newL ?_ | refine w_sub ?_ | refine w_neg ?_ | refine w_not ?_ | refine w_meth ?_ | refine w_cmp ?_ | refine w_ite ?_ | refine w_and ?_ | refine w_or ?_ | refine w_isiT ?_ | refine w_slc ?_ | refine p_none ?_ | refine p_some ?_ | refine w_cmp2 ?_
    | refine t_cmp ?_ | refine t_val ?_ | refine t_not ?_ | refine t_and ?_ | refine t_or ?_ | refine t_true ?_
    | refine ob_add ?_ | refine ob_sub ?_ | refine ob_mod (by omega) ?_ | refine ob_fdiv (by omega) ?_ | refine ob_mul (by omega) ?_ | refine ob_eqI ?_ | refine ob_neI ?_ | refine ob_eqSt (by decide +kernel) ?_ | refine ob_eqSf (by decide +kernel) ?_ | refine ob_neSt (by decide +kernel) ?_ | refine ob_neSf (by decide +kernel) ?_
    | refine if_dec (fun _ => ?_) (fun _ => ?_) | refine if_ndec (fun _ => ?_) (fun _ => ?_) | refine if_tt ?_ | refine if_ff ?_ | refine if_ft ?_ | refine if_tf ?_ | refine bool_ex ?_ | refine int_ex ?_
    | refine ob_intB ?_ | refine ob_range (by omega) (by omega) ?_ | refine ob_iterR (by omega) (by omega) ?_ | refine OB.of (by rfl) ?_))
        exact ⟨rfl, rfl⟩
      · refine w_nil (ob_tupL (by simp; omega) (w_nil ?_))
        have e2 : us.map (fun v => ov (thr vs v)) = (us.map (thr vs)).map ov := by rw [List.map_map]; rfl
        rw [e2]
        exact fin_same ((Rule.byBox b' (us.map (thr vs))).flat_of (by omega)) q
theorem rule_due_w {n : Nat} {one two : Prog} {M : Int} (h1 : one.Ok) (h2 : two.Ok) {rules : List Rule} (hl : (rules.length : Int) = two.boxes) (hrs : ∀ r ∈ rules, r.Ok one.boxes one.most two.most) {r : Rule} (hr : r.Ok two.boxes two.most M) {H : AH} {Q : AV → AH → Prop} (q : Q (jr rules r).av H) :
    W (fns tbl (n + 2) i_l_rule_due [.tup (rules.map Rule.av), r.av] H) Q := by
  refine e_l_rule_due (run_w rfl ?_)
  unfold k_l_rule_due
  cases r with
  | is v =>
    (repeat' (first
    | refine s_seq ?_ | refine s_if ?_ | refine s_ret ?_ | refine s_asg ?_ | refine s_nil ?_ | refine s_expr ?_ | refine s_store ?_ | refine s_for ?_ | refine s_asgT ?_
    | refine w_bin ?_ | refine w_cst ?_ | refine w_loc (by first | rfl | assumption) ?_ | refine w_callF ?_ | refine w_callB ?_ | refine w_cons ?_ | refine w_nil ?_ | refine w_tup ?_ | refine w_lst ?_ | refine w_newL ?_ | refine w_sub ?_ | refine w_neg ?_ | refine w_not ?_ | refine w_meth ?_ | refine w_cmp ?_ | refine w_ite ?_ | refine w_and ?_ | refine w_or ?_ | refine w_isiT ?_ | refine w_slc ?_ | refine p_none ?_ | refine p_some ?_ | refine w_cmp2 ?_
    | refine t_cmp ?_ | refine t_val ?_ | refine t_not ?_ | refine t_and ?_ | refine t_or ?_ | refine t_true ?_
    | refine ob_add ?_ | refine ob_sub ?_ | refine ob_mod (by omega) ?_ | refine ob_fdiv (by omega) ?_ | refine ob_mul (by omega) ?_ | refine ob_eqI ?_ | refine ob_neI ?_ | refine ob_eqSt (by decide +kernel) ?_ | refine ob_eqSf (by decide +kernel) ?_ | refine ob_neSt (by decide +kernel) ?_ | refine ob_neSf (by decide +kernel) ?_
    | refine if_dec (fun _ => ?_) (fun _ => ?_) | refine if_ndec (fun _ => ?_) (fun _ => ?_) | refine if_tt ?_ | refine if_ff ?_ | refine if_ft ?_ | refine if_tf ?_ | refine bool_ex ?_ | refine int_ex ?_
    | refine ob_intB ?_ | refine ob_range (by omega) (by omega) ?_ | refine ob_iterR (by omega) (by omega) ?_ | refine OB.of (by rfl) ?_))
    exact fin_same ((Rule.is v).flat_of (by omega)) q
  | byBox b vs =>
    have b3 := h2.b3
    have m4 := h2.m4
    have n4 := h1.m4
    have hb := hr.1
    have hv := hr.2.1
    obtain ⟨e, hx⟩ := rule_at (rules := rules) (b := b) hb.1 (by omega)
    have hxok := hrs _ hx
    have q : Q (match rules.getD b.toNat (.is none) with | .is v => Rule.is (thr vs v) | .byBox b' us => .byBox b' (us.map (thr vs))).av H := q
    generalize rules.getD b.toNat (.is none) = x at e hx hxok q
    (repeat' (first
    | refine s_seq ?_ | refine s_if ?_ | refine s_ret ?_ | refine s_asg ?_ | refine s_nil ?_ | refine s_expr ?_ | refine s_store ?_ | refine s_for ?_ | refine s_asgT ?_
    | refine w_bin ?_ | refine w_cst ?_ | refine w_loc (by first | rfl | assumption) ?_ | refine w_callF ?_ | refine w_callB ?_ | refine w_cons ?_ | refine w_nil ?_ | refine w_tup ?_ | refine w_lst ?_ | refine w_newL ?_ | refine w_sub ?_ | refine w_neg ?_ | refine w_not ?_ | refine w_meth ?_ | refine w_cmp ?_ | refine w_ite ?_ | refine w_and ?_ | refine w_or ?_ | refine w_isiT ?_ | refine w_slc ?_ | refine p_none ?_ | refine p_some ?_ | refine w_cmp2 ?_
    | refine t_cmp ?_ | refine t_val ?_ | refine t_not ?_ | refine t_and ?_ | refine t_or ?_ | refine t_true ?_
    | refine ob_add ?_ | refine ob_sub ?_ | refine ob_mod (by omega) ?_ | refine ob_fdiv (by omega) ?_ | refine ob_mul (by omega) ?_ | refine ob_eqI ?_ | refine ob_neI ?_ | refine ob_eqSt (by decide +kernel) ?_ | refine ob_eqSf (by decide +kernel) ?_ | refine ob_neSt (by decide +kernel) ?_ | refine ob_neSf (by decide +kernel) ?_
    | refine if_dec (fun _ => ?_) (fun _ => ?_) | refine if_ndec (fun _ => ?_) (fun _ => ?_) | refine if_tt ?_ | refine if_ff ?_ | refine if_ft ?_ | refine if_tf ?_ | refine bool_ex ?_ | refine int_ex ?_
    | refine ob_intB ?_ | refine ob_range (by omega) (by omega) ?_ | refine ob_iterR (by omega) (by omega) ?_ | refine OB.of (by rfl) ?_))
    refine ob_item hb.1 (by omega) e ?_
    cases x with
    | is v =>
      (repeat' (first
    | refine behind_w hv (by omega) hxok ?_
    | refine s_seq ?_ | refine s_if ?_ | refine s_ret ?_ | refine s_asg ?_ | refine s_nil ?_ | refine s_expr ?_ | refine s_store ?_ | refine s_for ?_ | refine s_asgT ?_
    | refine w_bin ?_ | refine w_cst ?_ | refine w_loc (by first | rfl | assumption) ?_ | refine w_callF ?_ | refine w_callB ?_ | refine w_cons ?_ | refine w_nil ?_ | refine w_tup ?_ | refine w_lst ?_ | refine w_newL ?_ | refine w_sub ?_ | refine w_neg ?_ | refine w_not ?_ | refine w_meth ?_ | refine w_cmp ?_ | refine w_ite ?_ | refine w_and ?_ | refine w_or ?_ | refine w_isiT ?_ | refine w_slc ?_ | refine p_none ?_ | refine p_some ?_ | refine w_cmp2 ?_
    | refine t_cmp ?_ | refine t_val ?_ | refine t_not ?_ | refine t_and ?_ | refine t_or ?_ | refine t_true ?_
    | refine ob_add ?_ | refine ob_sub ?_ | refine ob_mod (by omega) ?_ | refine ob_fdiv (by omega) ?_ | refine ob_mul (by omega) ?_ | refine ob_eqI ?_ | refine ob_neI ?_ | refine ob_eqSt (by decide +kernel) ?_ | refine ob_eqSf (by decide +kernel) ?_ | refine ob_neSt (by decide +kernel) ?_ | refine ob_neSf (by decide +kernel) ?_
    | refine if_dec (fun _ => ?_) (fun _ => ?_) | refine if_ndec (fun _ => ?_) (fun _ => ?_) | refine if_tt ?_ | refine if_ff ?_ | refine if_ft ?_ | refine if_tf ?_ | refine bool_ex ?_ | refine int_ex ?_
    | refine ob_intB ?_ | refine ob_range (by omega) (by omega) ?_ | refine ob_iterR (by omega) (by omega) ?_ | refine OB.of (by rfl) ?_))
      exact fin_same ((Rule.is _).flat_of (by omega)) q
    | byBox b' us =>
      (repeat' (first
    | refine s_seq ?_ | refine s_if ?_ | refine s_ret ?_ | refine s_asg ?_ | refine s_nil ?_ | refine s_expr ?_ | refine s_store ?_ | refine s_for ?_ | refine s_asgT ?_
    | refine w_bin ?_ | refine w_cst ?_ | refine w_loc (by first | rfl | assumption) ?_ | refine w_callF ?_ | refine w_callB ?_ | refine w_cons ?_ | refine w_nil ?_ | refine w_tup ?_ | refine w_lst ?_ | refine w_newL ?_ | refine w_sub ?_ | refine w_neg ?_ | refine w_not ?_ | refine w_meth ?_ | refine w_cmp ?_ | refine w_ite ?_ | refine w_and ?_ | refine w_or ?_ | refine w_isiT ?_ | refine w_slc ?_ | refine p_none ?_ | refine p_some ?_ | refine w_cmp2 ?_
    | refine t_cmp ?_ | refine t_val ?_ | refine t_not ?_ | refine t_and ?_ | refine t_or ?_ | refine t_true ?_
    | refine ob_add ?_ | refine ob_sub ?_ | refine ob_mod (by omega) ?_ | refine ob_fdiv (by omega) ?_ | refine ob_mul (by omega) ?_ | refine ob_eqI ?_ | refine ob_neI ?_ | refine ob_eqSt (by decide +kernel) ?_ | refine ob_eqSf (by decide +kernel) ?_ | refine ob_neSt (by decide +kernel) ?_ | refine ob_neSf (by decide +kernel) ?_
    | refine if_dec (fun _ => ?_) (fun _ => ?_) | refine if_ndec (fun _ => ?_) (fun _ => ?_) | refine if_tt ?_ | refine if_ff ?_ | refine if_ft ?_ | refine if_tf ?_ | refine bool_ex ?_ | refine int_ex ?_
    | refine ob_intB ?_ | refine ob_range (by omega) (by omega) ?_ | refine ob_iterR (by omega) (by omega) ?_ | refine OB.of (by rfl) ?_))
      refine w_compMap (f := ov) (g := fun v => ov (thr vs v)) ?_
      (repeat' (first
    | refine s_seq ?_ | refine s_if ?_ | refine s_ret ?_ | refine s_asg ?_ | refine s_nil ?_ | refine s_expr ?_ | refine s_store ?_ | refine s_for ?_ | refine s_asgT ?_
    | refine w_bin ?_ | refine w_cst ?_ | refine w_loc (by first | rfl | assumption) ?_ | refine w_callF ?_ | refine w_callB ?_ | refine w_cons ?_ | refine w_nil ?_ | refine w_tup ?_ | refine w_lst ?_ | refine w_newL ?_ | refine w_sub ?_ | refine w_neg ?_ | refine w_not ?_ | refine w_meth ?_ | refine w_cmp ?_ | refine w_ite ?_ | refine w_and ?_ | refine w_or ?_ | refine w_isiT ?_ | refine w_slc ?_ | refine p_none ?_ | refine p_some ?_ | refine w_cmp2 ?_
    | refine t_cmp ?_ | refine t_val ?_ | refine t_not ?_ | refine t_and ?_ | refine t_or ?_ | refine t_true ?_
    | refine ob_add ?_ | refine ob_sub ?_ | refine ob_mod (by omega) ?_ | refine ob_fdiv (by omega) ?_ | refine ob_mul (by omega) ?_ | refine ob_eqI ?_ | refine ob_neI ?_ | refine ob_eqSt (by decide +kernel) ?_ | refine ob_eqSf (by decide +kernel) ?_ | refine ob_neSt (by decide +kernel) ?_ | refine ob_neSf (by decide +kernel) ?_
    | refine if_dec (fun _ => ?_) (fun _ => ?_) | refine if_ndec (fun _ => ?_) (fun _ => ?_) | refine if_tt ?_ | refine if_ff ?_ | refine if_ft ?_ | refine if_tf ?_ | refine bool_ex ?_ | refine int_ex ?_
    | refine ob_intB ?_ | refine ob_range (by omega) (by omega) ?_ | refine ob_iterR (by omega) (by omega) ?_ | refine OB.of (by rfl) ?_))
      have hul := hxok.2.1
      refine ⟨us, rfl, by omega, ?_, fun x _ => ov_flat _, ?_⟩
      · intro x hx' H'
        (repeat' (first
    | refine behind_w hv (by omega) (hxok.2.2 x hx') ?_
    | refine s_seq ?_ | refine s_if ?_ | refine s_ret ?_ | refine s_asg ?_ | refine s_nil ?_ | refine s_expr ?_ | refine s_store ?_ | refine s_for ?_ | refine s_asgT ?_
    | refine w_bin ?_ | refine w_cst ?_ | refine w_loc (by first | rfl | assumption) ?_ | refine w_callF ?_ | refine w_callB ?_ | refine w_cons ?_ | refine w_nil ?_ | refine w_tup ?_ | refine w_lst ?_ | refine w_newL ?_ | refine w_sub ?_ | refine w_neg ?_ | refine w_not ?_ | refine w_meth ?_ | refine w_cmp ?_ | refine w_ite ?_ | refine w_and ?_ | refine w_or ?_ | refine w_isiT ?_ | refine w_slc ?_ | refine p_none ?_ | refine p_some ?_ | refine w_cmp2 ?_
    | refine t_cmp ?_ | refine t_val ?_ | refine t_not ?_ | refine t_and ?_ | refine t_or ?_ | refine t_true ?_
    | refine ob_add ?_ | refine ob_sub ?_ | refine ob_mod (by omega) ?_ | refine ob_fdiv (by omega) ?_ | refine ob_mul (by omega) ?_ | refine ob_eqI ?_ | refine ob_neI ?_ | refine ob_eqSt (by decide +kernel) ?_ | refine ob_eqSf (by decide +kernel) ?_ | refine ob_neSt (by decide +kernel) ?_ | refine ob_neSf (by decide +kernel) ?_
    | refine if_dec (fun _ => ?_) (fun _ => ?_) | refine if_ndec (fun _ => ?_) (fun _ => ?_) | refine if_tt ?_ | refine if_ff ?_ | refine if_ft ?_ | refine if_tf ?_ | refine bool_ex ?_ | refine int_ex ?_
    | refine ob_intB ?_ | refine ob_range (by omega) (by omega) ?_ | refine ob_iterR (by omega) (by omega) ?_ | refine OB.of (by rfl) ?_))
        exact ⟨rfl, rfl⟩
      · refine w_nil (ob_tupL (by simp; omega) (w_nil ?_))
        have e2 : us.map (fun v => ov (thr vs v)) = (us.map (thr vs)).map ov := by rw [List.map_map]; rfl
        rw [e2]
        exact fin_same ((Rule.byBox b' (us.map (thr vs))).flat_of (by omega)) q
/-- the places behind one another -/
noncomputable def jp (L : List Place) (p : Place) : Option Place := (L.find? fun q => decide (q.row = p.other)).map fun q => ⟨p.row, q.other, q.rules.map (jr p.rules)⟩
noncomputable def joinL (ps L : List Place) : List Place := ps.filterMap (jp L)
theorem joined_w {n : Nat} {one two three : Prog} (h1 : one.Ok) (h2 : two.Ok) (h3 : three.Ok) {ps L : List Place} (hp : POk one two ps) (hL : POk two three L) {H : AH} {Q : AV → AH → Prop} (q : Q (.ref H.length) (H ++ [AO.list ((joinL ps L).map Place.av)])) :
    W (fns tbl (n + 3) i_joined [.lst (ps.map Place.av), .lst (L.map Place.av)] H) Q := by
  refine e_joined (run_u rfl ?_)
  unfold k_joined
  have b3 := h3.b3
  (repeat' (first
    | refine s_seq ?_ | refine s_if ?_ | refine s_ret ?_ | refine s_asg ?_ | refine s_nil ?_ | refine s_expr ?_ | refine s_store ?_ | refine s_for ?_ | refine s_asgT ?_
    | refine w_bin ?_ | refine w_cst ?_ | refine w_loc (by first | rfl | assumption) ?_ | refine w_callF ?_ | refine w_callB ?_ | refine w_cons ?_ | refine w_nil ?_ | refine w_tup ?_ | refine w_lst ?_ | refine w_newL ?_ | refine w_sub ?_ | refine w_neg ?_ | refine w_not ?_ | refine w_meth ?_ | refine w_cmp ?_ | refine w_ite ?_ | refine w_and ?_ | refine w_or ?_ | refine w_isiT ?_ | refine w_slc ?_ | refine p_none ?_ | refine p_some ?_ | refine w_cmp2 ?_
    | refine t_cmp ?_ | refine t_val ?_ | refine t_not ?_ | refine t_and ?_ | refine t_or ?_ | refine t_true ?_
    | refine ob_add ?_ | refine ob_sub ?_ | refine ob_mod (by omega) ?_ | refine ob_fdiv (by omega) ?_ | refine ob_mul (by omega) ?_ | refine ob_eqI ?_ | refine ob_neI ?_ | refine ob_eqSt (by decide +kernel) ?_ | refine ob_eqSf (by decide +kernel) ?_ | refine ob_neSt (by decide +kernel) ?_ | refine ob_neSf (by decide +kernel) ?_
    | refine if_dec (fun _ => ?_) (fun _ => ?_) | refine if_ndec (fun _ => ?_) (fun _ => ?_) | refine if_tt ?_ | refine if_ff ?_ | refine if_ft ?_ | refine if_tf ?_ | refine bool_ex ?_ | refine int_ex ?_
    | refine ob_intB ?_ | refine ob_range (by omega) (by omega) ?_ | refine ob_iterR (by omega) (by omega) ?_ | refine OB.of (by rfl) ?_))
  refine forMapT_w (fun rest σ H' => σ 1 = some (.lst (L.map Place.av)) ∧ σ 2 = some (.ref H.length) ∧ ∃ done, ps = done ++ rest ∧ H' = H ++ [AO.list ((joinL done L).map Place.av)]) ?_ ?_ ⟨rfl, rfl, [], rfl, rfl⟩
  · intro p rest σ H' h
    obtain ⟨s1, s2, done, e, rfl⟩ := h
    have hpm : p ∈ ps := by rw [e]; simp
    have hpok := hp.ok p hpm
    have hdl : done.length ≤ 16 := by have := hp.len; rw [e] at this; simp at this; omega
    have hjl : (joinL done L).length ≤ 16 := Nat.le_trans (List.length_filterMap_le _ _) hdl
    refine ⟨_, rfl, ?_⟩
    (repeat' (first
    | refine place_at_w ?_
    | refine s_seq ?_ | refine s_if ?_ | refine s_ret ?_ | refine s_asg ?_ | refine s_nil ?_ | refine s_expr ?_ | refine s_store ?_ | refine s_for ?_ | refine s_asgT ?_
    | refine w_bin ?_ | refine w_cst ?_ | refine w_loc (by first | rfl | assumption) ?_ | refine w_callF ?_ | refine w_callB ?_ | refine w_cons ?_ | refine w_nil ?_ | refine w_tup ?_ | refine w_lst ?_ | refine w_newL ?_ | refine w_sub ?_ | refine w_neg ?_ | refine w_not ?_ | refine w_meth ?_ | refine w_cmp ?_ | refine w_ite ?_ | refine w_and ?_ | refine w_or ?_ | refine w_isiT ?_ | refine w_slc ?_ | refine p_none ?_ | refine p_some ?_ | refine w_cmp2 ?_
    | refine t_cmp ?_ | refine t_val ?_ | refine t_not ?_ | refine t_and ?_ | refine t_or ?_ | refine t_true ?_
    | refine ob_add ?_ | refine ob_sub ?_ | refine ob_mod (by omega) ?_ | refine ob_fdiv (by omega) ?_ | refine ob_mul (by omega) ?_ | refine ob_eqI ?_ | refine ob_neI ?_ | refine ob_eqSt (by decide +kernel) ?_ | refine ob_eqSf (by decide +kernel) ?_ | refine ob_neSt (by decide +kernel) ?_ | refine ob_neSf (by decide +kernel) ?_
    | refine if_dec (fun _ => ?_) (fun _ => ?_) | refine if_ndec (fun _ => ?_) (fun _ => ?_) | refine if_tt ?_ | refine if_ff ?_ | refine if_ft ?_ | refine if_tf ?_ | refine bool_ex ?_ | refine int_ex ?_
    | refine ob_intB ?_ | refine ob_range (by omega) (by omega) ?_ | refine ob_iterR (by omega) (by omega) ?_ | refine OB.of (by rfl) ?_))
    cases hf : L.find? fun q => decide (q.row = p.other) with
    | none =>
      (repeat' (first
    | refine s_seq ?_ | refine s_if ?_ | refine s_ret ?_ | refine s_asg ?_ | refine s_nil ?_ | refine s_expr ?_ | refine s_store ?_ | refine s_for ?_ | refine s_asgT ?_
    | refine w_bin ?_ | refine w_cst ?_ | refine w_loc (by first | rfl | assumption) ?_ | refine w_callF ?_ | refine w_callB ?_ | refine w_cons ?_ | refine w_nil ?_ | refine w_tup ?_ | refine w_lst ?_ | refine w_newL ?_ | refine w_sub ?_ | refine w_neg ?_ | refine w_not ?_ | refine w_meth ?_ | refine w_cmp ?_ | refine w_ite ?_ | refine w_and ?_ | refine w_or ?_ | refine w_isiT ?_ | refine w_slc ?_ | refine p_none ?_ | refine p_some ?_ | refine w_cmp2 ?_
    | refine t_cmp ?_ | refine t_val ?_ | refine t_not ?_ | refine t_and ?_ | refine t_or ?_ | refine t_true ?_
    | refine ob_add ?_ | refine ob_sub ?_ | refine ob_mod (by omega) ?_ | refine ob_fdiv (by omega) ?_ | refine ob_mul (by omega) ?_ | refine ob_eqI ?_ | refine ob_neI ?_ | refine ob_eqSt (by decide +kernel) ?_ | refine ob_eqSf (by decide +kernel) ?_ | refine ob_neSt (by decide +kernel) ?_ | refine ob_neSf (by decide +kernel) ?_
    | refine if_dec (fun _ => ?_) (fun _ => ?_) | refine if_ndec (fun _ => ?_) (fun _ => ?_) | refine if_tt ?_ | refine if_ff ?_ | refine if_ft ?_ | refine if_tf ?_ | refine bool_ex ?_ | refine int_ex ?_
    | refine ob_intB ?_ | refine ob_range (by omega) (by omega) ?_ | refine ob_iterR (by omega) (by omega) ?_ | refine OB.of (by rfl) ?_))
      refine ⟨s1, s2, done ++ [p], by rw [e]; simp, ?_⟩
      have : joinL (done ++ [p]) L = joinL done L := by unfold joinL; rw [List.filterMap_append]; simp [jp, hf]
      rw [this]
    | some q' =>
      have hq'm := List.mem_of_find?_eq_some hf
      have hqok := hL.ok q' hq'm
      have hql := hqok.rl
      (repeat' (first
    | refine And.intro (app_isL _ _) ?_
    | refine s_seq ?_ | refine s_if ?_ | refine s_ret ?_ | refine s_asg ?_ | refine s_nil ?_ | refine s_expr ?_ | refine s_store ?_ | refine s_for ?_ | refine s_asgT ?_
    | refine w_bin ?_ | refine w_cst ?_ | refine w_loc (by first | rfl | assumption) ?_ | refine w_callF ?_ | refine w_callB ?_ | refine w_cons ?_ | refine w_nil ?_ | refine w_tup ?_ | refine w_lst ?_ | refine w_newL ?_ | refine w_sub ?_ | refine w_neg ?_ | refine w_not ?_ | refine w_meth ?_ | refine w_cmp ?_ | refine w_ite ?_ | refine w_and ?_ | refine w_or ?_ | refine w_isiT ?_ | refine w_slc ?_ | refine p_none ?_ | refine p_some ?_ | refine w_cmp2 ?_
    | refine t_cmp ?_ | refine t_val ?_ | refine t_not ?_ | refine t_and ?_ | refine t_or ?_ | refine t_true ?_
    | refine ob_add ?_ | refine ob_sub ?_ | refine ob_mod (by omega) ?_ | refine ob_fdiv (by omega) ?_ | refine ob_mul (by omega) ?_ | refine ob_eqI ?_ | refine ob_neI ?_ | refine ob_eqSt (by decide +kernel) ?_ | refine ob_eqSf (by decide +kernel) ?_ | refine ob_neSt (by decide +kernel) ?_ | refine ob_neSf (by decide +kernel) ?_
    | refine if_dec (fun _ => ?_) (fun _ => ?_) | refine if_ndec (fun _ => ?_) (fun _ => ?_) | refine if_tt ?_ | refine if_ff ?_ | refine if_ft ?_ | refine if_tf ?_ | refine bool_ex ?_ | refine int_ex ?_
    | refine ob_intB ?_ | refine ob_range (by omega) (by omega) ?_ | refine ob_iterR (by omega) (by omega) ?_ | refine OB.of (by rfl) ?_))
      refine w_compMap (f := Rule.av) (g := fun r => (jr p.rules r).av) ?_
      (repeat' (first
    | refine s_seq ?_ | refine s_if ?_ | refine s_ret ?_ | refine s_asg ?_ | refine s_nil ?_ | refine s_expr ?_ | refine s_store ?_ | refine s_for ?_ | refine s_asgT ?_
    | refine w_bin ?_ | refine w_cst ?_ | refine w_loc (by first | rfl | assumption) ?_ | refine w_callF ?_ | refine w_callB ?_ | refine w_cons ?_ | refine w_nil ?_ | refine w_tup ?_ | refine w_lst ?_ | refine w_newL ?_ | refine w_sub ?_ | refine w_neg ?_ | refine w_not ?_ | refine w_meth ?_ | refine w_cmp ?_ | refine w_ite ?_ | refine w_and ?_ | refine w_or ?_ | refine w_isiT ?_ | refine w_slc ?_ | refine p_none ?_ | refine p_some ?_ | refine w_cmp2 ?_
    | refine t_cmp ?_ | refine t_val ?_ | refine t_not ?_ | refine t_and ?_ | refine t_or ?_ | refine t_true ?_
    | refine ob_add ?_ | refine ob_sub ?_ | refine ob_mod (by omega) ?_ | refine ob_fdiv (by omega) ?_ | refine ob_mul (by omega) ?_ | refine ob_eqI ?_ | refine ob_neI ?_ | refine ob_eqSt (by decide +kernel) ?_ | refine ob_eqSf (by decide +kernel) ?_ | refine ob_neSt (by decide +kernel) ?_ | refine ob_neSf (by decide +kernel) ?_
    | refine if_dec (fun _ => ?_) (fun _ => ?_) | refine if_ndec (fun _ => ?_) (fun _ => ?_) | refine if_tt ?_ | refine if_ff ?_ | refine if_ft ?_ | refine if_tf ?_ | refine bool_ex ?_ | refine int_ex ?_
    | refine ob_intB ?_ | refine ob_range (by omega) (by omega) ?_ | refine ob_iterR (by omega) (by omega) ?_ | refine OB.of (by rfl) ?_))
      refine ⟨q'.rules, rfl, by omega, ?_, fun x _ => (jr p.rules x).flat_of (by omega), ?_⟩
      · intro x hx H'
        (repeat' (first
    | refine joined_rule_w h1 h2 hpok.rl hpok.ok (hqok.ok x hx) ?_
    | refine s_seq ?_ | refine s_if ?_ | refine s_ret ?_ | refine s_asg ?_ | refine s_nil ?_ | refine s_expr ?_ | refine s_store ?_ | refine s_for ?_ | refine s_asgT ?_
    | refine w_bin ?_ | refine w_cst ?_ | refine w_loc (by first | rfl | assumption) ?_ | refine w_callF ?_ | refine w_callB ?_ | refine w_cons ?_ | refine w_nil ?_ | refine w_tup ?_ | refine w_lst ?_ | refine w_newL ?_ | refine w_sub ?_ | refine w_neg ?_ | refine w_not ?_ | refine w_meth ?_ | refine w_cmp ?_ | refine w_ite ?_ | refine w_and ?_ | refine w_or ?_ | refine w_isiT ?_ | refine w_slc ?_ | refine p_none ?_ | refine p_some ?_ | refine w_cmp2 ?_
    | refine t_cmp ?_ | refine t_val ?_ | refine t_not ?_ | refine t_and ?_ | refine t_or ?_ | refine t_true ?_
    | refine ob_add ?_ | refine ob_sub ?_ | refine ob_mod (by omega) ?_ | refine ob_fdiv (by omega) ?_ | refine ob_mul (by omega) ?_ | refine ob_eqI ?_ | refine ob_neI ?_ | refine ob_eqSt (by decide +kernel) ?_ | refine ob_eqSf (by decide +kernel) ?_ | refine ob_neSt (by decide +kernel) ?_ | refine ob_neSf (by decide +kernel) ?_
    | refine if_dec (fun _ => ?_) (fun _ => ?_) | refine if_ndec (fun _ => ?_) (fun _ => ?_) | refine if_tt ?_ | refine if_ff ?_ | refine if_ft ?_ | refine if_tf ?_ | refine bool_ex ?_ | refine int_ex ?_
    | refine ob_intB ?_ | refine ob_range (by omega) (by omega) ?_ | refine ob_iterR (by omega) (by omega) ?_ | refine OB.of (by rfl) ?_))
        exact ⟨rfl, rfl⟩
      · refine w_nil (ob_tupL (by simp; omega) (w_nil (w_nil (ob_app (by simp; omega) ?_))))
        refine ⟨s1, s2, done ++ [p], by rw [e]; simp, ?_⟩
        have : joinL (done ++ [p]) L = joinL done L ++ [⟨p.row, q'.other, q'.rules.map (jr p.rules)⟩] := by unfold joinL; rw [List.filterMap_append]; simp [jp, hf]
        rw [this]
        simp [Place.av]
  · intro σ H' h
    obtain ⟨s1, s2, done, e, rfl⟩ := h
    (repeat' (first
    | refine s_seq ?_ | refine s_if ?_ | refine s_ret ?_ | refine s_asg ?_ | refine s_nil ?_ | refine s_expr ?_ | refine s_store ?_ | refine s_for ?_ | refine s_asgT ?_
    | refine w_bin ?_ | refine w_cst ?_ | refine w_loc (by first | rfl | assumption) ?_ | refine w_callF ?_ | refine w_callB ?_ | refine w_cons ?_ | refine w_nil ?_ | refine w_tup ?_ | refine w_lst ?_ | refine w_newL ?_ | refine w_sub ?_ | refine w_neg ?_ | refine w_not ?_ | refine w_meth ?_ | refine w_cmp ?_ | refine w_ite ?_ | refine w_and ?_ | refine w_or ?_ | refine w_isiT ?_ | refine w_slc ?_ | refine p_none ?_ | refine p_some ?_ | refine w_cmp2 ?_
    | refine t_cmp ?_ | refine t_val ?_ | refine t_not ?_ | refine t_and ?_ | refine t_or ?_ | refine t_true ?_
    | refine ob_add ?_ | refine ob_sub ?_ | refine ob_mod (by omega) ?_ | refine ob_fdiv (by omega) ?_ | refine ob_mul (by omega) ?_ | refine ob_eqI ?_ | refine ob_neI ?_ | refine ob_eqSt (by decide +kernel) ?_ | refine ob_eqSf (by decide +kernel) ?_ | refine ob_neSt (by decide +kernel) ?_ | refine ob_neSf (by decide +kernel) ?_
    | refine if_dec (fun _ => ?_) (fun _ => ?_) | refine if_ndec (fun _ => ?_) (fun _ => ?_) | refine if_tt ?_ | refine if_ff ?_ | refine if_ft ?_ | refine if_tf ?_ | refine bool_ex ?_ | refine int_ex ?_
    | refine ob_intB ?_ | refine ob_range (by omega) (by omega) ?_ | refine ob_iterR (by omega) (by omega) ?_ | refine OB.of (by rfl) ?_))
    rw [List.append_nil] at e
    rw [← e]
    exact q
theorem find_nodup {f : Place → Place} {x : Int} : ∀ {L : List Place}, (L.map Place.row).Nodup → L.filterMap (fun q => if q.row = x then some (f q) else none) = ((L.find? fun q => decide (q.row = x)).map f).toList
  | [], _ => rfl
  | q :: L, h => by
    rw [List.map_cons, List.nodup_cons] at h
    by_cases hq : q.row = x
    · rw [List.find?_cons_of_pos (by simpa using hq), List.filterMap_cons_some (b := f q) (by rw [if_pos hq])]
      have : L.filterMap (fun q => if q.row = x then some (f q) else none) = [] := by
        rw [List.filterMap_eq_nil_iff]
        intro q' hq'
        rw [if_neg]
        intro e
        exact h.1 (List.mem_map.mpr ⟨q', hq', by rw [e, hq]⟩)
      rw [this]; rfl
    · rw [List.find?_cons_of_neg (by simpa using hq), List.filterMap_cons_none (by rw [if_neg hq])]
      exact find_nodup h.2
theorem due_w {n : Nat} {one two three : Prog} (h1 : one.Ok) (h2 : two.Ok) (h3 : three.Ok) {ps L : List Place} (hp : POk one two ps) (hL : POk two three L) {H : AH} {Q : AV → AH → Prop} (q : Q (.lst ((joinL ps L).map Place.av)) H) :
    W (fns tbl (n + 3) i_l_due [.lst (ps.map Place.av), .lst (L.map Place.av)] H) Q := by
  refine e_l_due (run_w rfl ?_)
  unfold k_l_due
  have b3 := h3.b3
  have lL := hL.len
  (repeat' (first
    | refine s_seq ?_ | refine s_if ?_ | refine s_ret ?_ | refine s_asg ?_ | refine s_nil ?_ | refine s_expr ?_ | refine s_store ?_ | refine s_for ?_ | refine s_asgT ?_
    | refine w_bin ?_ | refine w_cst ?_ | refine w_loc (by first | rfl | assumption) ?_ | refine w_callF ?_ | refine w_callB ?_ | refine w_cons ?_ | refine w_nil ?_ | refine w_tup ?_ | refine w_lst ?_ | refine w_newL ?_ | refine w_sub ?_ | refine w_neg ?_ | refine w_not ?_ | refine w_meth ?_ | refine w_cmp ?_ | refine w_ite ?_ | refine w_and ?_ | refine w_or ?_ | refine w_isiT ?_ | refine w_slc ?_ | refine p_none ?_ | refine p_some ?_ | refine w_cmp2 ?_
    | refine t_cmp ?_ | refine t_val ?_ | refine t_not ?_ | refine t_and ?_ | refine t_or ?_ | refine t_true ?_
    | refine ob_add ?_ | refine ob_sub ?_ | refine ob_mod (by omega) ?_ | refine ob_fdiv (by omega) ?_ | refine ob_mul (by omega) ?_ | refine ob_eqI ?_ | refine ob_neI ?_ | refine ob_eqSt (by decide +kernel) ?_ | refine ob_eqSf (by decide +kernel) ?_ | refine ob_neSt (by decide +kernel) ?_ | refine ob_neSf (by decide +kernel) ?_
    | refine if_dec (fun _ => ?_) (fun _ => ?_) | refine if_ndec (fun _ => ?_) (fun _ => ?_) | refine if_tt ?_ | refine if_ff ?_ | refine if_ft ?_ | refine if_tf ?_ | refine bool_ex ?_ | refine int_ex ?_
    | refine ob_intB ?_ | refine ob_range (by omega) (by omega) ?_ | refine ob_iterR (by omega) (by omega) ?_ | refine OB.of (by rfl) ?_))
  refine forMapT_w (fun rest σ H' => σ 1 = some (.lst (L.map Place.av)) ∧ σ 2 = some (.ref H.length) ∧ ∃ done, ps = done ++ rest ∧ H' = H ++ [AO.list ((joinL done L).map Place.av)]) ?_ ?_ ⟨rfl, rfl, [], rfl, rfl⟩
  · intro p rest σ H' h
    obtain ⟨s1, s2, done, e, rfl⟩ := h
    have hpm : p ∈ ps := by rw [e]; simp
    have hpok := hp.ok p hpm
    have hdl : done.length ≤ 16 := by have := hp.len; rw [e] at this; simp at this; omega
    have hjl : (joinL done L).length ≤ 16 := Nat.le_trans (List.length_filterMap_le _ _) hdl
    refine ⟨_, rfl, ?_⟩
    (repeat' (first
    | refine s_seq ?_ | refine s_if ?_ | refine s_ret ?_ | refine s_asg ?_ | refine s_nil ?_ | refine s_expr ?_ | refine s_store ?_ | refine s_for ?_ | refine s_asgT ?_
    | refine w_bin ?_ | refine w_cst ?_ | refine w_loc (by first | rfl | assumption) ?_ | refine w_callF ?_ | refine w_callB ?_ | refine w_cons ?_ | refine w_nil ?_ | refine w_tup ?_ | refine w_lst ?_ | refine w_newL ?_ | refine w_sub ?_ | refine w_neg ?_ | refine w_not ?_ | refine w_meth ?_ | refine w_cmp ?_ | refine w_ite ?_ | refine w_and ?_ | refine w_or ?_ | refine w_isiT ?_ | refine w_slc ?_ | refine p_none ?_ | refine p_some ?_ | refine w_cmp2 ?_
    | refine t_cmp ?_ | refine t_val ?_ | refine t_not ?_ | refine t_and ?_ | refine t_or ?_ | refine t_true ?_
    | refine ob_add ?_ | refine ob_sub ?_ | refine ob_mod (by omega) ?_ | refine ob_fdiv (by omega) ?_ | refine ob_mul (by omega) ?_ | refine ob_eqI ?_ | refine ob_neI ?_ | refine ob_eqSt (by decide +kernel) ?_ | refine ob_eqSf (by decide +kernel) ?_ | refine ob_neSt (by decide +kernel) ?_ | refine ob_neSf (by decide +kernel) ?_
    | refine if_dec (fun _ => ?_) (fun _ => ?_) | refine if_ndec (fun _ => ?_) (fun _ => ?_) | refine if_tt ?_ | refine if_ff ?_ | refine if_ft ?_ | refine if_tf ?_ | refine bool_ex ?_ | refine int_ex ?_
    | refine ob_intB ?_ | refine ob_range (by omega) (by omega) ?_ | refine ob_iterR (by omega) (by omega) ?_ | refine OB.of (by rfl) ?_))
    refine forMap_w (fun lrest σ H' => σ 1 = some (.lst (L.map Place.av)) ∧ σ 2 = some (.ref H.length) ∧ σ 3 = some (.int p.row) ∧ σ 4 = some (.int p.other) ∧ σ 5 = some (.tup (p.rules.map Rule.av)) ∧ ∃ ldone, L = ldone ++ lrest ∧
      H' = H ++ [AO.list ((joinL done L ++ ldone.filterMap (fun q => if q.row = p.other then some (Place.mk p.row q.other (q.rules.map (jr p.rules))) else none)).map Place.av)]) ?_ ?_ ⟨s1, s2, rfl, rfl, rfl, [], rfl, by simp⟩
    · intro q' lrest σ H' h
      obtain ⟨s1, s2, s3, s4, s5, ldone, le, rfl⟩ := h
      have hq'm : q' ∈ L := by rw [le]; simp
      have hqok := hL.ok q' hq'm
      have hql := hqok.rl
      have hld : ldone.length ≤ 16 := by rw [le] at lL; simp at lL; omega
      have hfl := Nat.le_trans (List.length_filterMap_le (fun q => if q.row = p.other then some (Place.mk p.row q.other (q.rules.map (jr p.rules))) else none) ldone) hld
      (repeat' (first
    | refine And.intro (app_isL _ _) ?_
    | refine s_seq ?_ | refine s_if ?_ | refine s_ret ?_ | refine s_asg ?_ | refine s_nil ?_ | refine s_expr ?_ | refine s_store ?_ | refine s_for ?_ | refine s_asgT ?_
    | refine w_bin ?_ | refine w_cst ?_ | refine w_loc (by first | rfl | assumption) ?_ | refine w_callF ?_ | refine w_callB ?_ | refine w_cons ?_ | refine w_nil ?_ | refine w_tup ?_ | refine w_lst ?_ | refine w_newL ?_ | refine w_sub ?_ | refine w_neg ?_ | refine w_not ?_ | refine w_meth ?_ | refine w_cmp ?_ | refine w_ite ?_ | refine w_and ?_ | refine w_or ?_ | refine w_isiT ?_ | refine w_slc ?_ | refine p_none ?_ | refine p_some ?_ | refine w_cmp2 ?_
    | refine t_cmp ?_ | refine t_val ?_ | refine t_not ?_ | refine t_and ?_ | refine t_or ?_ | refine t_true ?_
    | refine ob_add ?_ | refine ob_sub ?_ | refine ob_mod (by omega) ?_ | refine ob_fdiv (by omega) ?_ | refine ob_mul (by omega) ?_ | refine ob_eqI ?_ | refine ob_neI ?_ | refine ob_eqSt (by decide +kernel) ?_ | refine ob_eqSf (by decide +kernel) ?_ | refine ob_neSt (by decide +kernel) ?_ | refine ob_neSf (by decide +kernel) ?_
    | refine if_dec (fun _ => ?_) (fun _ => ?_) | refine if_ndec (fun _ => ?_) (fun _ => ?_) | refine if_tt ?_ | refine if_ff ?_ | refine if_ft ?_ | refine if_tf ?_ | refine bool_ex ?_ | refine int_ex ?_
    | refine ob_intB ?_ | refine ob_range (by omega) (by omega) ?_ | refine ob_iterR (by omega) (by omega) ?_ | refine OB.of (by rfl) ?_))
      · rename_i hc
        refine w_compMap (f := Rule.av) (g := fun r => (jr p.rules r).av) ?_
        (repeat' (first
    | refine s_seq ?_ | refine s_if ?_ | refine s_ret ?_ | refine s_asg ?_ | refine s_nil ?_ | refine s_expr ?_ | refine s_store ?_ | refine s_for ?_ | refine s_asgT ?_
    | refine w_bin ?_ | refine w_cst ?_ | refine w_loc (by first | rfl | assumption) ?_ | refine w_callF ?_ | refine w_callB ?_ | refine w_cons ?_ | refine w_nil ?_ | refine w_tup ?_ | refine w_lst ?_ | refine w_newL ?_ | refine w_sub ?_ | refine w_neg ?_ | refine w_not ?_ | refine w_meth ?_ | refine w_cmp ?_ | refine w_ite ?_ | refine w_and ?_ | refine w_or ?_ | refine w_isiT ?_ | refine w_slc ?_ | refine p_none ?_ | refine p_some ?_ | refine w_cmp2 ?_
    | refine t_cmp ?_ | refine t_val ?_ | refine t_not ?_ | refine t_and ?_ | refine t_or ?_ | refine t_true ?_
    | refine ob_add ?_ | refine ob_sub ?_ | refine ob_mod (by omega) ?_ | refine ob_fdiv (by omega) ?_ | refine ob_mul (by omega) ?_ | refine ob_eqI ?_ | refine ob_neI ?_ | refine ob_eqSt (by decide +kernel) ?_ | refine ob_eqSf (by decide +kernel) ?_ | refine ob_neSt (by decide +kernel) ?_ | refine ob_neSf (by decide +kernel) ?_
    | refine if_dec (fun _ => ?_) (fun _ => ?_) | refine if_ndec (fun _ => ?_) (fun _ => ?_) | refine if_tt ?_ | refine if_ff ?_ | refine if_ft ?_ | refine if_tf ?_ | refine bool_ex ?_ | refine int_ex ?_
    | refine ob_intB ?_ | refine ob_range (by omega) (by omega) ?_ | refine ob_iterR (by omega) (by omega) ?_ | refine OB.of (by rfl) ?_))
        refine ⟨q'.rules, rfl, by omega, ?_, fun x _ => (jr p.rules x).flat_of (by omega), ?_⟩
        · intro x hx H'
          (repeat' (first
    | refine rule_due_w h1 h2 hpok.rl hpok.ok (hqok.ok x hx) ?_
    | refine s_seq ?_ | refine s_if ?_ | refine s_ret ?_ | refine s_asg ?_ | refine s_nil ?_ | refine s_expr ?_ | refine s_store ?_ | refine s_for ?_ | refine s_asgT ?_
    | refine w_bin ?_ | refine w_cst ?_ | refine w_loc (by first | rfl | assumption) ?_ | refine w_callF ?_ | refine w_callB ?_ | refine w_cons ?_ | refine w_nil ?_ | refine w_tup ?_ | refine w_lst ?_ | refine w_newL ?_ | refine w_sub ?_ | refine w_neg ?_ | refine w_not ?_ | refine w_meth ?_ | refine w_cmp ?_ | refine w_ite ?_ | refine w_and ?_ | refine w_or ?_ | refine w_isiT ?_ | refine w_slc ?_ | refine p_none ?_ | refine p_some ?_ | refine w_cmp2 ?_
    | refine t_cmp ?_ | refine t_val ?_ | refine t_not ?_ | refine t_and ?_ | refine t_or ?_ | refine t_true ?_
    | refine ob_add ?_ | refine ob_sub ?_ | refine ob_mod (by omega) ?_ | refine ob_fdiv (by omega) ?_ | refine ob_mul (by omega) ?_ | refine ob_eqI ?_ | refine ob_neI ?_ | refine ob_eqSt (by decide +kernel) ?_ | refine ob_eqSf (by decide +kernel) ?_ | refine ob_neSt (by decide +kernel) ?_ | refine ob_neSf (by decide +kernel) ?_
    | refine if_dec (fun _ => ?_) (fun _ => ?_) | refine if_ndec (fun _ => ?_) (fun _ => ?_) | refine if_tt ?_ | refine if_ff ?_ | refine if_ft ?_ | refine if_tf ?_ | refine bool_ex ?_ | refine int_ex ?_
    | refine ob_intB ?_ | refine ob_range (by omega) (by omega) ?_ | refine ob_iterR (by omega) (by omega) ?_ | refine OB.of (by rfl) ?_))
          exact ⟨rfl, rfl⟩
        · refine w_nil (ob_tupL (by simp; omega) (w_nil (w_nil (ob_app (by rw [List.length_map, List.length_append]; omega) ?_))))
          refine ⟨s1, s2, s3, s4, s5, ldone ++ [q'], by rw [le]; simp, ?_⟩
          rw [List.filterMap_append, ← List.append_assoc, List.map_append (l₁ := joinL done L ++ _)]
          simp [hc, Place.av]
      · rename_i hc
        refine ⟨s1, s2, s3, s4, s5, ldone ++ [q'], by rw [le]; simp, ?_⟩
        rw [List.filterMap_append]
        simp [hc]
    · intro σ H' h
      obtain ⟨s1, s2, s3, s4, s5, ldone, le, rfl⟩ := h
      rw [List.append_nil] at le
      refine ⟨s1, s2, done ++ [p], by rw [e]; simp, ?_⟩
      rw [← le, find_nodup (f := fun q => Place.mk p.row q.other (q.rules.map (jr p.rules))) hL.nd]
      unfold joinL
      rw [List.filterMap_append]
      simp only [List.filterMap_cons, List.filterMap_nil]
      unfold jp
      cases (L.find? fun q => decide (q.row = p.other)) <;> rfl
  · intro σ H' h
    obtain ⟨s1, s2, done, e, rfl⟩ := h
    (repeat' (first
    | refine s_seq ?_ | refine s_if ?_ | refine s_ret ?_ | refine s_asg ?_ | refine s_nil ?_ | refine s_expr ?_ | refine s_store ?_ | refine s_for ?_ | refine s_asgT ?_
    | refine w_bin ?_ | refine w_cst ?_ | refine w_loc (by first | rfl | assumption) ?_ | refine w_callF ?_ | refine w_callB ?_ | refine w_cons ?_ | refine w_nil ?_ | refine w_tup ?_ | refine w_lst ?_ | refine w_newL ?_ | refine w_sub ?_ | refine w_neg ?_ | refine w_not ?_ | refine w_meth ?_ | refine w_cmp ?_ | refine w_ite ?_ | refine w_and ?_ | refine w_or ?_ | refine w_isiT ?_ | refine w_slc ?_ | refine p_none ?_ | refine p_some ?_ | refine w_cmp2 ?_
    | refine t_cmp ?_ | refine t_val ?_ | refine t_not ?_ | refine t_and ?_ | refine t_or ?_ | refine t_true ?_
    | refine ob_add ?_ | refine ob_sub ?_ | refine ob_mod (by omega) ?_ | refine ob_fdiv (by omega) ?_ | refine ob_mul (by omega) ?_ | refine ob_eqI ?_ | refine ob_neI ?_ | refine ob_eqSt (by decide +kernel) ?_ | refine ob_eqSf (by decide +kernel) ?_ | refine ob_neSt (by decide +kernel) ?_ | refine ob_neSf (by decide +kernel) ?_
    | refine if_dec (fun _ => ?_) (fun _ => ?_) | refine if_ndec (fun _ => ?_) (fun _ => ?_) | refine if_tt ?_ | refine if_ff ?_ | refine if_ft ?_ | refine if_tf ?_ | refine bool_ex ?_ | refine int_ex ?_
    | refine ob_intB ?_ | refine ob_range (by omega) (by omega) ?_ | refine ob_iterR (by omega) (by omega) ?_ | refine OB.of (by rfl) ?_))
    rw [List.append_nil] at e
    rw [← e]
    exact fin_list (places_flat (by omega)) q
theorem ov_pln (v : Option Int) {n : Nat} : pln (n + 1) (ov v) = true := by cases v <;> rfl
theorem Rule.pln_of {r : Rule} {b m M : Int} (h : r.Ok b m M) (hm : m ≤ 100) : Mine.pln 3 r.av = true := by
  cases r with
  | is v =>
    refine pln_tup (by simp) ?_
    intro w hw
    simp at hw
    rcases hw with rfl | rfl
    · decide +kernel
    · exact ov_pln _
  | byBox b vs =>
    refine pln_tup (by simp) ?_
    intro v hv
    simp at hv
    rcases hv with rfl | rfl | rfl
    · decide +kernel
    · rfl
    · refine pln_tup (by have := h.2.1; simp; omega) ?_
      intro v hv
      obtain ⟨r, _, rfl⟩ := List.mem_map.mp hv
      exact ov_pln _
theorem Place.pln_of {one two : Prog} {p : Place} (hp : p.Ok one two) (h1 : one.Ok) (h2 : two.Ok) : Mine.pln 5 p.av = true := by
  have b3 := h2.b3
  have m4 := h1.m4
  have rl := hp.rl
  refine pln_tup (by simp) ?_
  intro v hv
  simp at hv
  rcases hv with rfl | rfl | rfl
  · rfl
  · rfl
  · refine pln_tup (by simp; omega) ?_
    intro v hv
    obtain ⟨r, hr, rfl⟩ := List.mem_map.mp hv
    exact r.pln_of (hp.ok r hr) (by omega)
theorem places_pln {one two : Prog} {ps : List Place} (hl : ps.length ≤ 16) (hp : ∀ p ∈ ps, p.Ok one two) (h1 : one.Ok) (h2 : two.Ok) : Mine.pln 6 (.lst (ps.map Place.av)) = true := by
  refine pln_lst (by simp; omega) ?_
  intro v hv
  obtain ⟨p, hm, rfl⟩ := List.mem_map.mp hv
  exact p.pln_of (hp p hm) h1 h2
theorem thr_ok {vs : List (Option Int)} {M : Int} (h : ∀ v ∈ vs, OkN M v) (v : Option Int) : OkN M (thr vs v) := by
  cases v with
  | none => intro i e; cases e
  | some k =>
    intro i e
    have e : vs.getD k.toNat none = some i := e
    rw [List.getD_eq_getElem?_getD] at e
    cases hg : vs[k.toNat]? with
    | none => rw [hg] at e; cases e
    | some w =>
      rw [hg] at e
      have e : w = some i := e
      exact h w (List.mem_of_getElem? hg) i e
theorem jr_ok {one two : Prog} {M : Int} {rules : List Rule} (hl : (rules.length : Int) = two.boxes) (hrs : ∀ r ∈ rules, r.Ok one.boxes one.most two.most) {r : Rule} (hr : r.Ok two.boxes two.most M) : (jr rules r).Ok one.boxes one.most M := by
  cases r with
  | is v => exact hr
  | byBox b vs =>
    have hb := hr.1
    obtain ⟨e, hx⟩ := rule_at (rules := rules) (b := b) hb.1 (by omega)
    have hxok := hrs _ hx
    show Rule.Ok one.boxes one.most M (match rules.getD b.toNat (.is none) with | .is v => Rule.is (thr vs v) | .byBox b' us => .byBox b' (us.map (thr vs)))
    generalize rules.getD b.toNat (.is none) = x at e hx hxok
    cases x with
    | is v => exact thr_ok hr.2.2 v
    | byBox b' us =>
      refine ⟨hxok.1, by rw [List.length_map]; exact hxok.2.1, ?_⟩
      intro v hv
      obtain ⟨u, _, rfl⟩ := List.mem_map.mp hv
      exact thr_ok hr.2.2 u
theorem jp_ok {one two three : Prog} {ps L : List Place} (hp : POk one two ps) (hL : POk two three L) {p q : Place} (hpm : p ∈ ps) (hqm : q ∈ L) : Place.Ok one three ⟨p.row, q.other, q.rules.map (jr p.rules)⟩ := by
  have p0 := hp.ok p hpm
  have q0 := hL.ok q hqm
  refine ⟨p0.r0, p0.r1, q0.o0, q0.o1, by rw [List.length_map]; exact q0.rl, ?_⟩
  intro r hr
  obtain ⟨r', hr', rfl⟩ := List.mem_map.mp hr
  exact jr_ok p0.rl p0.ok (q0.ok r' hr')
theorem join_mem {ps L : List Place} {x : Place} (h : x ∈ joinL ps L) : ∃ p ∈ ps, ∃ q, L.find? (fun q => decide (q.row = p.other)) = some q ∧ x = ⟨p.row, q.other, q.rules.map (jr p.rules)⟩ := by
  obtain ⟨p, hp, e⟩ := List.mem_filterMap.mp h
  unfold jp at e
  obtain ⟨q, hq, e⟩ := Option.map_eq_some_iff.mp e
  exact ⟨p, hp, q, hq, e.symm⟩
theorem join_ok {one two three : Prog} {ps L : List Place} (hp : POk one two ps) (hL : POk two three L) : ∀ x ∈ joinL ps L, x.Ok one three := by
  intro x hx
  obtain ⟨p, hpm, q, hq, rfl⟩ := join_mem hx
  exact jp_ok hp hL hpm (List.mem_of_find?_eq_some hq)
theorem join_len {one two : Prog} {ps L : List Place} (hp : POk one two ps) : (joinL ps L).length ≤ 16 := Nat.le_trans (List.length_filterMap_le _ _) hp.len
theorem POk.tail {one two : Prog} {ps : List Place} (hp : POk one two ps) : POk one two (ps.drop 1) :=
  ⟨by rw [List.length_drop]; have := hp.len; omega, by rw [List.map_drop]; exact hp.nd.sublist (List.drop_sublist _ _), fun p h => hp.ok p (List.mem_of_mem_drop h)⟩
theorem filter_head {α : Type} {f : α → Bool} {x : α} : ∀ {l : List α}, l.find? f = some x → ∃ r, l.filter f = x :: r
  | [], h => by cases h
  | y :: l, h => by
    by_cases hy : f y = true
    · rw [List.find?_cons_of_pos hy] at h
      cases h
      exact ⟨_, List.filter_cons_of_pos hy⟩
    · rw [List.find?_cons_of_neg hy] at h
      rw [List.filter_cons_of_neg hy]
      exact filter_head h
theorem find_self {p : Place} : ∀ {ps : List Place}, (ps.map Place.row).Nodup → p ∈ ps → ps.find? (fun q => decide (q.row = p.row)) = some p
  | [], _, h => nomatch h
  | q :: ps, hn, h => by
    rw [List.map_cons, List.nodup_cons] at hn
    rcases List.mem_cons.mp h with rfl | h
    · exact List.find?_cons_of_pos (by simp)
    · rw [List.find?_cons_of_neg]
      · exact find_self hn.2 h
      · intro e
        have e : q.row = p.row := by simpa using e
        exact hn.1 (List.mem_map.mpr ⟨p, h, e.symm⟩)
theorem tv_cases (l : List (Option Int)) : tv l = .none ∨ ∃ ms : List Int, l = ms.map some ∧ tv l = .tup (ms.map .int) := by
  by_cases hn : l.any Option.isNone = true
  · exact .inl (by unfold tv; rw [if_pos hn])
  · obtain ⟨xs, e⟩ : ∃ xs : List Int, l = xs.map some := by
      induction l with
      | nil => exact ⟨[], rfl⟩
      | cons v r ih =>
        cases v with
        | none => simp at hn
        | some i =>
          obtain ⟨xs, e⟩ := ih (by simpa using hn)
          exact ⟨i :: xs, by rw [e]; rfl⟩
    refine .inr ⟨xs, e, ?_⟩
    unfold tv
    rw [if_neg hn, e, List.map_map]; rfl
theorem numOf_jr {two : Prog} {M : Int} {rules : List Rule} (hl : (rules.length : Int) = two.boxes) {xs ms : List Int} (e : rules.map (numOf xs) = ms.map some) {r : Rule} (hr : r.Ok two.boxes two.most M) : numOf xs (jr rules r) = numOf ms r := by
  cases r with
  | is v => rfl
  | byBox b vs =>
    have hb := hr.1
    have hlt : b.toNat < rules.length := by omega
    have hml : ms.length = rules.length := by have := congrArg List.length e; simp at this; omega
    have h1 : rules[b.toNat]? = some (rules.getD b.toNat (.is none)) := getD_some hlt
    have h2 : ms[b.toNat]? = some (ms.getD b.toNat 0) := getD_some (by omega)
    have h3 : numOf xs (rules.getD b.toNat (.is none)) = some (ms.getD b.toNat 0) := by
      have := congrArg (fun l => l[b.toNat]?) e
      simp only [List.getElem?_map, h1, h2, Option.map_some] at this
      exact Option.some.inj this
    show numOf xs (match rules.getD b.toNat (.is none) with | .is v => Rule.is (thr vs v) | .byBox b' us => .byBox b' (us.map (thr vs))) = vs.getD (ms.getD b.toNat 0).toNat none
    generalize rules.getD b.toNat (.is none) = x at h3
    generalize ms.getD b.toNat 0 = m at h3
    cases x with
    | is v =>
      have h3 : v = some m := h3
      subst h3; rfl
    | byBox b' us =>
      have h3 : us.getD (xs.getD b'.toNat 0).toNat none = some m := h3
      show (us.map (thr vs)).getD (xs.getD b'.toNat 0).toNat none = _
      generalize (xs.getD b'.toNat 0).toNat = k at h3
      rw [List.getD_eq_getElem?_getD] at h3 ⊢
      rw [List.getElem?_map]
      cases hg : us[k]? with
      | none => rw [hg] at h3; cases h3
      | some w =>
        rw [hg] at h3
        have h3 : w = some m := h3
        subst h3; rfl
theorem numOf_ok {one : Prog} {M : Int} (h1 : one.Ok) {r : Rule} (hr : r.Ok one.boxes one.most M) {xs : List Int} (hx : NumsOk one xs) : OkN M (numOf xs r) := by
  cases r with
  | is v => exact hr
  | byBox b vs =>
    have hb := nums_at hx hr.1.1 hr.1.2
    have hl := hr.2.1
    have e := getD_some (d := none) (l := vs) (k := (xs.getD b.toNat 0).toNat) (by omega)
    exact hr.2.2 _ (List.mem_of_getElem? e)
theorem mid_ok {one two : Prog} (h1 : one.Ok) {rules : List Rule} (hl : (rules.length : Int) = two.boxes) (hrs : ∀ r ∈ rules, r.Ok one.boxes one.most two.most) {xs ms : List Int} (hx : NumsOk one xs) (e : rules.map (numOf xs) = ms.map some) : NumsOk two ms := by
  refine ⟨by have := congrArg List.length e; simp at this; omega, ?_⟩
  intro m hm
  have : some m ∈ rules.map (numOf xs) := by rw [e]; exact List.mem_map.mpr ⟨m, hm, rfl⟩
  obtain ⟨r, hr, er⟩ := List.mem_map.mp this
  exact numOf_ok h1 (hrs r hr) hx m er
theorem ints_pln {l : List Int} {n : Nat} (hl : l.length ≤ 1000) : pln (n + 2) (.tup (l.map .int)) = true := by
  refine pln_tup (by simpa using hl) ?_
  intro v hv
  obtain ⟨i, _, rfl⟩ := List.mem_map.mp hv
  rfl
theorem at_once_w {n : Nat} {one two three : Prog} (h1 : one.Ok) (h2 : two.Ok) (h3 : three.Ok) {ps L : List Place} (hp : POk one two ps) (hL : POk two three L) {xs : List Int} (hx : NumsOk one xs) {H : AH} {k : Nat} (hk : H[k]? = some (.list ((joinL ps L).map Place.av))) {Q : AV → AH → Prop} (q : Q (.bool true) H) :
    W (fns tbl (n + 2) i_l_at_once [.lst (ps.map Place.av), .lst (L.map Place.av), .ref k, .tup (xs.map .int)] H) Q := by
  refine e_l_at_once (run_w rfl ?_)
  unfold k_l_at_once
  have lp := hp.len
  have lL := hL.len
  have d3 := h3.b3
  have c3 := h2.b3
  refine s_seq (s_forR (w_loc rfl ⟨k, rfl, ?_⟩))
  refine forSrcT_w (f := Place.av) (l := joinL ps L) (fun rest σ H' => σ 0 = some (.lst (ps.map Place.av)) ∧ σ 1 = some (.lst (L.map Place.av)) ∧ σ 3 = some (.tup (xs.map .int)) ∧ H' = H ∧ (∀ p ∈ rest, p ∈ joinL ps L)) ?_ ?_ ?_ (by have := join_len (L := L) hp; omega) ⟨rfl, rfl, rfl, rfl, fun p h => h⟩
  · intro r σ H' h
    obtain ⟨_, _, _, rfl, _⟩ := h
    show (match H'[k]? with | some (.list l) => some l | _ => none) = _
    rw [hk]
  · intro x rest σ H' h
    obtain ⟨s0, s1, s3, rfl, hm⟩ := h
    obtain ⟨p, hpm, q', hq', rfl⟩ := join_mem (hm x (List.mem_cons_self ..))
    have hm' : ∀ p ∈ rest, p ∈ joinL ps L := fun p h => hm p (List.mem_cons_of_mem _ h)
    have hqm := List.mem_of_find?_eq_some hq'
    have pok := hp.ok p hpm
    have qok := hL.ok q' hqm
    have xok := jp_ok hp hL hpm hqm
    have prl := pok.rl
    have qrl := qok.rl
    refine ⟨_, rfl, ?_⟩
    refine s_seq (s_asg (w_sub (w_compF (f := Place.av) (g := Place.av) (p := fun p' => decide (p'.row = p.row)) ?_)))
    (repeat' (first
    | refine s_seq ?_ | refine s_if ?_ | refine s_ret ?_ | refine s_asg ?_ | refine s_nil ?_ | refine s_expr ?_ | refine s_store ?_ | refine s_for ?_ | refine s_asgT ?_
    | refine w_bin ?_ | refine w_cst ?_ | refine w_loc (by first | rfl | assumption) ?_ | refine w_callF ?_ | refine w_callB ?_ | refine w_cons ?_ | refine w_nil ?_ | refine w_tup ?_ | refine w_lst ?_ | refine w_newL ?_ | refine w_sub ?_ | refine w_neg ?_ | refine w_not ?_ | refine w_meth ?_ | refine w_cmp ?_ | refine w_ite ?_ | refine w_and ?_ | refine w_or ?_ | refine w_isiT ?_ | refine w_slc ?_ | refine p_none ?_ | refine p_some ?_ | refine w_cmp2 ?_
    | refine t_cmp ?_ | refine t_val ?_ | refine t_not ?_ | refine t_and ?_ | refine t_or ?_ | refine t_true ?_
    | refine ob_add ?_ | refine ob_sub ?_ | refine ob_mod (by omega) ?_ | refine ob_fdiv (by omega) ?_ | refine ob_mul (by omega) ?_ | refine ob_eqI ?_ | refine ob_neI ?_ | refine ob_eqSt (by decide +kernel) ?_ | refine ob_eqSf (by decide +kernel) ?_ | refine ob_neSt (by decide +kernel) ?_ | refine ob_neSf (by decide +kernel) ?_
    | refine if_dec (fun _ => ?_) (fun _ => ?_) | refine if_ndec (fun _ => ?_) (fun _ => ?_) | refine if_tt ?_ | refine if_ff ?_ | refine if_ft ?_ | refine if_tf ?_ | refine bool_ex ?_ | refine int_ex ?_
    | refine ob_intB ?_ | refine ob_range (by omega) (by omega) ?_ | refine ob_iterR (by omega) (by omega) ?_ | refine OB.of (by rfl) ?_))
    refine ⟨ps, rfl, by omega, ?_, ?_, fun x _ => x.flat_of (by omega), ?_⟩
    · intro x _ H'
      (repeat' (first
    | refine s_seq ?_ | refine s_if ?_ | refine s_ret ?_ | refine s_asg ?_ | refine s_nil ?_ | refine s_expr ?_ | refine s_store ?_ | refine s_for ?_ | refine s_asgT ?_
    | refine w_bin ?_ | refine w_cst ?_ | refine w_loc (by first | rfl | assumption) ?_ | refine w_callF ?_ | refine w_callB ?_ | refine w_cons ?_ | refine w_nil ?_ | refine w_tup ?_ | refine w_lst ?_ | refine w_newL ?_ | refine w_sub ?_ | refine w_neg ?_ | refine w_not ?_ | refine w_meth ?_ | refine w_cmp ?_ | refine w_ite ?_ | refine w_and ?_ | refine w_or ?_ | refine w_isiT ?_ | refine w_slc ?_ | refine p_none ?_ | refine p_some ?_ | refine w_cmp2 ?_
    | refine t_cmp ?_ | refine t_val ?_ | refine t_not ?_ | refine t_and ?_ | refine t_or ?_ | refine t_true ?_
    | refine ob_add ?_ | refine ob_sub ?_ | refine ob_mod (by omega) ?_ | refine ob_fdiv (by omega) ?_ | refine ob_mul (by omega) ?_ | refine ob_eqI ?_ | refine ob_neI ?_ | refine ob_eqSt (by decide +kernel) ?_ | refine ob_eqSf (by decide +kernel) ?_ | refine ob_neSt (by decide +kernel) ?_ | refine ob_neSf (by decide +kernel) ?_
    | refine if_dec (fun _ => ?_) (fun _ => ?_) | refine if_ndec (fun _ => ?_) (fun _ => ?_) | refine if_tt ?_ | refine if_ff ?_ | refine if_ft ?_ | refine if_tf ?_ | refine bool_ex ?_ | refine int_ex ?_
    | refine ob_intB ?_ | refine ob_range (by omega) (by omega) ?_ | refine ob_iterR (by omega) (by omega) ?_ | refine OB.of (by rfl) ?_))
      exact ⟨rfl, rfl⟩
    · intro x _ H'
      (repeat' (first
    | refine s_seq ?_ | refine s_if ?_ | refine s_ret ?_ | refine s_asg ?_ | refine s_nil ?_ | refine s_expr ?_ | refine s_store ?_ | refine s_for ?_ | refine s_asgT ?_
    | refine w_bin ?_ | refine w_cst ?_ | refine w_loc (by first | rfl | assumption) ?_ | refine w_callF ?_ | refine w_callB ?_ | refine w_cons ?_ | refine w_nil ?_ | refine w_tup ?_ | refine w_lst ?_ | refine w_newL ?_ | refine w_sub ?_ | refine w_neg ?_ | refine w_not ?_ | refine w_meth ?_ | refine w_cmp ?_ | refine w_ite ?_ | refine w_and ?_ | refine w_or ?_ | refine w_isiT ?_ | refine w_slc ?_ | refine p_none ?_ | refine p_some ?_ | refine w_cmp2 ?_
    | refine t_cmp ?_ | refine t_val ?_ | refine t_not ?_ | refine t_and ?_ | refine t_or ?_ | refine t_true ?_
    | refine ob_add ?_ | refine ob_sub ?_ | refine ob_mod (by omega) ?_ | refine ob_fdiv (by omega) ?_ | refine ob_mul (by omega) ?_ | refine ob_eqI ?_ | refine ob_neI ?_ | refine ob_eqSt (by decide +kernel) ?_ | refine ob_eqSf (by decide +kernel) ?_ | refine ob_neSt (by decide +kernel) ?_ | refine ob_neSf (by decide +kernel) ?_
    | refine if_dec (fun _ => ?_) (fun _ => ?_) | refine if_ndec (fun _ => ?_) (fun _ => ?_) | refine if_tt ?_ | refine if_ff ?_ | refine if_ft ?_ | refine if_tf ?_ | refine bool_ex ?_ | refine int_ex ?_
    | refine ob_intB ?_ | refine ob_range (by omega) (by omega) ?_ | refine ob_iterR (by omega) (by omega) ?_ | refine OB.of (by rfl) ?_))
      exact ⟨rfl, rfl⟩
    obtain ⟨r, er⟩ := filter_head (find_self hp.nd hpm)
    rw [er]
    (repeat' (first
    | refine s_seq ?_ | refine s_if ?_ | refine s_ret ?_ | refine s_asg ?_ | refine s_nil ?_ | refine s_expr ?_ | refine s_store ?_ | refine s_for ?_ | refine s_asgT ?_
    | refine w_bin ?_ | refine w_cst ?_ | refine w_loc (by first | rfl | assumption) ?_ | refine w_callF ?_ | refine w_callB ?_ | refine w_cons ?_ | refine w_nil ?_ | refine w_tup ?_ | refine w_lst ?_ | refine w_newL ?_ | refine w_sub ?_ | refine w_neg ?_ | refine w_not ?_ | refine w_meth ?_ | refine w_cmp ?_ | refine w_ite ?_ | refine w_and ?_ | refine w_or ?_ | refine w_isiT ?_ | refine w_slc ?_ | refine p_none ?_ | refine p_some ?_ | refine w_cmp2 ?_
    | refine t_cmp ?_ | refine t_val ?_ | refine t_not ?_ | refine t_and ?_ | refine t_or ?_ | refine t_true ?_
    | refine ob_add ?_ | refine ob_sub ?_ | refine ob_mod (by omega) ?_ | refine ob_fdiv (by omega) ?_ | refine ob_mul (by omega) ?_ | refine ob_eqI ?_ | refine ob_neI ?_ | refine ob_eqSt (by decide +kernel) ?_ | refine ob_eqSf (by decide +kernel) ?_ | refine ob_neSt (by decide +kernel) ?_ | refine ob_neSf (by decide +kernel) ?_
    | refine if_dec (fun _ => ?_) (fun _ => ?_) | refine if_ndec (fun _ => ?_) (fun _ => ?_) | refine if_tt ?_ | refine if_ff ?_ | refine if_ft ?_ | refine if_tf ?_ | refine bool_ex ?_ | refine int_ex ?_
    | refine ob_intB ?_ | refine ob_range (by omega) (by omega) ?_ | refine ob_iterR (by omega) (by omega) ?_ | refine OB.of (by rfl) ?_))
    refine w_compF (f := Place.av) (g := Place.av) (p := fun p' => decide (p'.row = p.other)) ?_
    (repeat' (first
    | refine s_seq ?_ | refine s_if ?_ | refine s_ret ?_ | refine s_asg ?_ | refine s_nil ?_ | refine s_expr ?_ | refine s_store ?_ | refine s_for ?_ | refine s_asgT ?_
    | refine w_bin ?_ | refine w_cst ?_ | refine w_loc (by first | rfl | assumption) ?_ | refine w_callF ?_ | refine w_callB ?_ | refine w_cons ?_ | refine w_nil ?_ | refine w_tup ?_ | refine w_lst ?_ | refine w_newL ?_ | refine w_sub ?_ | refine w_neg ?_ | refine w_not ?_ | refine w_meth ?_ | refine w_cmp ?_ | refine w_ite ?_ | refine w_and ?_ | refine w_or ?_ | refine w_isiT ?_ | refine w_slc ?_ | refine p_none ?_ | refine p_some ?_ | refine w_cmp2 ?_
    | refine t_cmp ?_ | refine t_val ?_ | refine t_not ?_ | refine t_and ?_ | refine t_or ?_ | refine t_true ?_
    | refine ob_add ?_ | refine ob_sub ?_ | refine ob_mod (by omega) ?_ | refine ob_fdiv (by omega) ?_ | refine ob_mul (by omega) ?_ | refine ob_eqI ?_ | refine ob_neI ?_ | refine ob_eqSt (by decide +kernel) ?_ | refine ob_eqSf (by decide +kernel) ?_ | refine ob_neSt (by decide +kernel) ?_ | refine ob_neSf (by decide +kernel) ?_
    | refine if_dec (fun _ => ?_) (fun _ => ?_) | refine if_ndec (fun _ => ?_) (fun _ => ?_) | refine if_tt ?_ | refine if_ff ?_ | refine if_ft ?_ | refine if_tf ?_ | refine bool_ex ?_ | refine int_ex ?_
    | refine ob_intB ?_ | refine ob_range (by omega) (by omega) ?_ | refine ob_iterR (by omega) (by omega) ?_ | refine OB.of (by rfl) ?_))
    refine ⟨L, rfl, by omega, ?_, ?_, fun x _ => x.flat_of (by omega), ?_⟩
    · intro x _ H'
      (repeat' (first
    | refine s_seq ?_ | refine s_if ?_ | refine s_ret ?_ | refine s_asg ?_ | refine s_nil ?_ | refine s_expr ?_ | refine s_store ?_ | refine s_for ?_ | refine s_asgT ?_
    | refine w_bin ?_ | refine w_cst ?_ | refine w_loc (by first | rfl | assumption) ?_ | refine w_callF ?_ | refine w_callB ?_ | refine w_cons ?_ | refine w_nil ?_ | refine w_tup ?_ | refine w_lst ?_ | refine w_newL ?_ | refine w_sub ?_ | refine w_neg ?_ | refine w_not ?_ | refine w_meth ?_ | refine w_cmp ?_ | refine w_ite ?_ | refine w_and ?_ | refine w_or ?_ | refine w_isiT ?_ | refine w_slc ?_ | refine p_none ?_ | refine p_some ?_ | refine w_cmp2 ?_
    | refine t_cmp ?_ | refine t_val ?_ | refine t_not ?_ | refine t_and ?_ | refine t_or ?_ | refine t_true ?_
    | refine ob_add ?_ | refine ob_sub ?_ | refine ob_mod (by omega) ?_ | refine ob_fdiv (by omega) ?_ | refine ob_mul (by omega) ?_ | refine ob_eqI ?_ | refine ob_neI ?_ | refine ob_eqSt (by decide +kernel) ?_ | refine ob_eqSf (by decide +kernel) ?_ | refine ob_neSt (by decide +kernel) ?_ | refine ob_neSf (by decide +kernel) ?_
    | refine if_dec (fun _ => ?_) (fun _ => ?_) | refine if_ndec (fun _ => ?_) (fun _ => ?_) | refine if_tt ?_ | refine if_ff ?_ | refine if_ft ?_ | refine if_tf ?_ | refine bool_ex ?_ | refine int_ex ?_
    | refine ob_intB ?_ | refine ob_range (by omega) (by omega) ?_ | refine ob_iterR (by omega) (by omega) ?_ | refine OB.of (by rfl) ?_))
      exact ⟨rfl, rfl⟩
    · intro x _ H'
      (repeat' (first
    | refine s_seq ?_ | refine s_if ?_ | refine s_ret ?_ | refine s_asg ?_ | refine s_nil ?_ | refine s_expr ?_ | refine s_store ?_ | refine s_for ?_ | refine s_asgT ?_
    | refine w_bin ?_ | refine w_cst ?_ | refine w_loc (by first | rfl | assumption) ?_ | refine w_callF ?_ | refine w_callB ?_ | refine w_cons ?_ | refine w_nil ?_ | refine w_tup ?_ | refine w_lst ?_ | refine w_newL ?_ | refine w_sub ?_ | refine w_neg ?_ | refine w_not ?_ | refine w_meth ?_ | refine w_cmp ?_ | refine w_ite ?_ | refine w_and ?_ | refine w_or ?_ | refine w_isiT ?_ | refine w_slc ?_ | refine p_none ?_ | refine p_some ?_ | refine w_cmp2 ?_
    | refine t_cmp ?_ | refine t_val ?_ | refine t_not ?_ | refine t_and ?_ | refine t_or ?_ | refine t_true ?_
    | refine ob_add ?_ | refine ob_sub ?_ | refine ob_mod (by omega) ?_ | refine ob_fdiv (by omega) ?_ | refine ob_mul (by omega) ?_ | refine ob_eqI ?_ | refine ob_neI ?_ | refine ob_eqSt (by decide +kernel) ?_ | refine ob_eqSf (by decide +kernel) ?_ | refine ob_neSt (by decide +kernel) ?_ | refine ob_neSf (by decide +kernel) ?_
    | refine if_dec (fun _ => ?_) (fun _ => ?_) | refine if_ndec (fun _ => ?_) (fun _ => ?_) | refine if_tt ?_ | refine if_ff ?_ | refine if_ft ?_ | refine if_tf ?_ | refine bool_ex ?_ | refine int_ex ?_
    | refine ob_intB ?_ | refine ob_range (by omega) (by omega) ?_ | refine ob_iterR (by omega) (by omega) ?_ | refine OB.of (by rfl) ?_))
      exact ⟨rfl, rfl⟩
    obtain ⟨r, er⟩ := filter_head hq'
    rw [er]
    (repeat' (first
    | refine lturned_w h1 (by omega) pok.ok hx ?_
    | refine s_seq ?_ | refine s_if ?_ | refine s_ret ?_ | refine s_asg ?_ | refine s_nil ?_ | refine s_expr ?_ | refine s_store ?_ | refine s_for ?_ | refine s_asgT ?_
    | refine w_bin ?_ | refine w_cst ?_ | refine w_loc (by first | rfl | assumption) ?_ | refine w_callF ?_ | refine w_callB ?_ | refine w_cons ?_ | refine w_nil ?_ | refine w_tup ?_ | refine w_lst ?_ | refine w_newL ?_ | refine w_sub ?_ | refine w_neg ?_ | refine w_not ?_ | refine w_meth ?_ | refine w_cmp ?_ | refine w_ite ?_ | refine w_and ?_ | refine w_or ?_ | refine w_isiT ?_ | refine w_slc ?_ | refine p_none ?_ | refine p_some ?_ | refine w_cmp2 ?_
    | refine t_cmp ?_ | refine t_val ?_ | refine t_not ?_ | refine t_and ?_ | refine t_or ?_ | refine t_true ?_
    | refine ob_add ?_ | refine ob_sub ?_ | refine ob_mod (by omega) ?_ | refine ob_fdiv (by omega) ?_ | refine ob_mul (by omega) ?_ | refine ob_eqI ?_ | refine ob_neI ?_ | refine ob_eqSt (by decide +kernel) ?_ | refine ob_eqSf (by decide +kernel) ?_ | refine ob_neSt (by decide +kernel) ?_ | refine ob_neSf (by decide +kernel) ?_
    | refine if_dec (fun _ => ?_) (fun _ => ?_) | refine if_ndec (fun _ => ?_) (fun _ => ?_) | refine if_tt ?_ | refine if_ff ?_ | refine if_ft ?_ | refine if_tf ?_ | refine bool_ex ?_ | refine int_ex ?_
    | refine ob_intB ?_ | refine ob_range (by omega) (by omega) ?_ | refine ob_iterR (by omega) (by omega) ?_ | refine OB.of (by rfl) ?_))
    rcases tv_cases (p.rules.map (numOf xs)) with e | ⟨ms, em, e⟩
    · rw [e]
      (repeat' (first
    | refine s_seq ?_ | refine s_if ?_ | refine s_ret ?_ | refine s_asg ?_ | refine s_nil ?_ | refine s_expr ?_ | refine s_store ?_ | refine s_for ?_ | refine s_asgT ?_
    | refine w_bin ?_ | refine w_cst ?_ | refine w_loc (by first | rfl | assumption) ?_ | refine w_callF ?_ | refine w_callB ?_ | refine w_cons ?_ | refine w_nil ?_ | refine w_tup ?_ | refine w_lst ?_ | refine w_newL ?_ | refine w_sub ?_ | refine w_neg ?_ | refine w_not ?_ | refine w_meth ?_ | refine w_cmp ?_ | refine w_ite ?_ | refine w_and ?_ | refine w_or ?_ | refine w_isiT ?_ | refine w_slc ?_ | refine p_none ?_ | refine p_some ?_ | refine w_cmp2 ?_
    | refine t_cmp ?_ | refine t_val ?_ | refine t_not ?_ | refine t_and ?_ | refine t_or ?_ | refine t_true ?_
    | refine ob_add ?_ | refine ob_sub ?_ | refine ob_mod (by omega) ?_ | refine ob_fdiv (by omega) ?_ | refine ob_mul (by omega) ?_ | refine ob_eqI ?_ | refine ob_neI ?_ | refine ob_eqSt (by decide +kernel) ?_ | refine ob_eqSf (by decide +kernel) ?_ | refine ob_neSt (by decide +kernel) ?_ | refine ob_neSf (by decide +kernel) ?_
    | refine if_dec (fun _ => ?_) (fun _ => ?_) | refine if_ndec (fun _ => ?_) (fun _ => ?_) | refine if_tt ?_ | refine if_ff ?_ | refine if_ft ?_ | refine if_tf ?_ | refine bool_ex ?_ | refine int_ex ?_
    | refine ob_intB ?_ | refine ob_range (by omega) (by omega) ?_ | refine ob_iterR (by omega) (by omega) ?_ | refine OB.of (by rfl) ?_))
      exact ⟨s0, s1, s3, rfl, hm'⟩
    · rw [e]
      have hms := mid_ok h1 prl pok.ok hx em
      (repeat' (first
    | refine lturned_w h2 (by omega) qok.ok hms ?_
    | refine s_seq ?_ | refine s_if ?_ | refine s_ret ?_ | refine s_asg ?_ | refine s_nil ?_ | refine s_expr ?_ | refine s_store ?_ | refine s_for ?_ | refine s_asgT ?_
    | refine w_bin ?_ | refine w_cst ?_ | refine w_loc (by first | rfl | assumption) ?_ | refine w_callF ?_ | refine w_callB ?_ | refine w_cons ?_ | refine w_nil ?_ | refine w_tup ?_ | refine w_lst ?_ | refine w_newL ?_ | refine w_sub ?_ | refine w_neg ?_ | refine w_not ?_ | refine w_meth ?_ | refine w_cmp ?_ | refine w_ite ?_ | refine w_and ?_ | refine w_or ?_ | refine w_isiT ?_ | refine w_slc ?_ | refine p_none ?_ | refine p_some ?_ | refine w_cmp2 ?_
    | refine t_cmp ?_ | refine t_val ?_ | refine t_not ?_ | refine t_and ?_ | refine t_or ?_ | refine t_true ?_
    | refine ob_add ?_ | refine ob_sub ?_ | refine ob_mod (by omega) ?_ | refine ob_fdiv (by omega) ?_ | refine ob_mul (by omega) ?_ | refine ob_eqI ?_ | refine ob_neI ?_ | refine ob_eqSt (by decide +kernel) ?_ | refine ob_eqSf (by decide +kernel) ?_ | refine ob_neSt (by decide +kernel) ?_ | refine ob_neSf (by decide +kernel) ?_
    | refine if_dec (fun _ => ?_) (fun _ => ?_) | refine if_ndec (fun _ => ?_) (fun _ => ?_) | refine if_tt ?_ | refine if_ff ?_ | refine if_ft ?_ | refine if_tf ?_ | refine bool_ex ?_ | refine int_ex ?_
    | refine ob_intB ?_ | refine ob_range (by omega) (by omega) ?_ | refine ob_iterR (by omega) (by omega) ?_ | refine OB.of (by rfl) ?_))
      have key : (q'.rules.map (jr p.rules)).map (numOf xs) = q'.rules.map (numOf ms) := by
        rw [List.map_map]
        exact List.map_congr_left fun r hr => numOf_jr prl em (qok.ok r hr)
      rcases tv_cases (q'.rules.map (numOf ms)) with e | ⟨ks, ek, e⟩
      · rw [e]
        (repeat' (first
    | refine s_seq ?_ | refine s_if ?_ | refine s_ret ?_ | refine s_asg ?_ | refine s_nil ?_ | refine s_expr ?_ | refine s_store ?_ | refine s_for ?_ | refine s_asgT ?_
    | refine w_bin ?_ | refine w_cst ?_ | refine w_loc (by first | rfl | assumption) ?_ | refine w_callF ?_ | refine w_callB ?_ | refine w_cons ?_ | refine w_nil ?_ | refine w_tup ?_ | refine w_lst ?_ | refine w_newL ?_ | refine w_sub ?_ | refine w_neg ?_ | refine w_not ?_ | refine w_meth ?_ | refine w_cmp ?_ | refine w_ite ?_ | refine w_and ?_ | refine w_or ?_ | refine w_isiT ?_ | refine w_slc ?_ | refine p_none ?_ | refine p_some ?_ | refine w_cmp2 ?_
    | refine t_cmp ?_ | refine t_val ?_ | refine t_not ?_ | refine t_and ?_ | refine t_or ?_ | refine t_true ?_
    | refine ob_add ?_ | refine ob_sub ?_ | refine ob_mod (by omega) ?_ | refine ob_fdiv (by omega) ?_ | refine ob_mul (by omega) ?_ | refine ob_eqI ?_ | refine ob_neI ?_ | refine ob_eqSt (by decide +kernel) ?_ | refine ob_eqSf (by decide +kernel) ?_ | refine ob_neSt (by decide +kernel) ?_ | refine ob_neSf (by decide +kernel) ?_
    | refine if_dec (fun _ => ?_) (fun _ => ?_) | refine if_ndec (fun _ => ?_) (fun _ => ?_) | refine if_tt ?_ | refine if_ff ?_ | refine if_ft ?_ | refine if_tf ?_ | refine bool_ex ?_ | refine int_ex ?_
    | refine ob_intB ?_ | refine ob_range (by omega) (by omega) ?_ | refine ob_iterR (by omega) (by omega) ?_ | refine OB.of (by rfl) ?_))
        exact ⟨s0, s1, s3, rfl, hm'⟩
      · rw [e]
        have hkl : ks.length = q'.rules.length := by have := congrArg List.length ek; simpa using this.symm
        (repeat' (first
    | refine lturned_w h1 (by simp; omega) xok.ok hx ?_
    | refine s_seq ?_ | refine s_if ?_ | refine s_ret ?_ | refine s_asg ?_ | refine s_nil ?_ | refine s_expr ?_ | refine s_store ?_ | refine s_for ?_ | refine s_asgT ?_
    | refine w_bin ?_ | refine w_cst ?_ | refine w_loc (by first | rfl | assumption) ?_ | refine w_callF ?_ | refine w_callB ?_ | refine w_cons ?_ | refine w_nil ?_ | refine w_tup ?_ | refine w_lst ?_ | refine w_newL ?_ | refine w_sub ?_ | refine w_neg ?_ | refine w_not ?_ | refine w_meth ?_ | refine w_cmp ?_ | refine w_ite ?_ | refine w_and ?_ | refine w_or ?_ | refine w_isiT ?_ | refine w_slc ?_ | refine p_none ?_ | refine p_some ?_ | refine w_cmp2 ?_
    | refine t_cmp ?_ | refine t_val ?_ | refine t_not ?_ | refine t_and ?_ | refine t_or ?_ | refine t_true ?_
    | refine ob_add ?_ | refine ob_sub ?_ | refine ob_mod (by omega) ?_ | refine ob_fdiv (by omega) ?_ | refine ob_mul (by omega) ?_ | refine ob_eqI ?_ | refine ob_neI ?_ | refine ob_eqSt (by decide +kernel) ?_ | refine ob_eqSf (by decide +kernel) ?_ | refine ob_neSt (by decide +kernel) ?_ | refine ob_neSf (by decide +kernel) ?_
    | refine if_dec (fun _ => ?_) (fun _ => ?_) | refine if_ndec (fun _ => ?_) (fun _ => ?_) | refine if_tt ?_ | refine if_ff ?_ | refine if_ft ?_ | refine if_tf ?_ | refine bool_ex ?_ | refine int_ex ?_
    | refine ob_intB ?_ | refine ob_range (by omega) (by omega) ?_ | refine ob_iterR (by omega) (by omega) ?_ | refine OB.of (by rfl) ?_))
        rw [key, e]
        refine ob_nsame (ints_pln (by omega)) rfl ?_
        (repeat' (first
    | refine s_seq ?_ | refine s_if ?_ | refine s_ret ?_ | refine s_asg ?_ | refine s_nil ?_ | refine s_expr ?_ | refine s_store ?_ | refine s_for ?_ | refine s_asgT ?_
    | refine w_bin ?_ | refine w_cst ?_ | refine w_loc (by first | rfl | assumption) ?_ | refine w_callF ?_ | refine w_callB ?_ | refine w_cons ?_ | refine w_nil ?_ | refine w_tup ?_ | refine w_lst ?_ | refine w_newL ?_ | refine w_sub ?_ | refine w_neg ?_ | refine w_not ?_ | refine w_meth ?_ | refine w_cmp ?_ | refine w_ite ?_ | refine w_and ?_ | refine w_or ?_ | refine w_isiT ?_ | refine w_slc ?_ | refine p_none ?_ | refine p_some ?_ | refine w_cmp2 ?_
    | refine t_cmp ?_ | refine t_val ?_ | refine t_not ?_ | refine t_and ?_ | refine t_or ?_ | refine t_true ?_
    | refine ob_add ?_ | refine ob_sub ?_ | refine ob_mod (by omega) ?_ | refine ob_fdiv (by omega) ?_ | refine ob_mul (by omega) ?_ | refine ob_eqI ?_ | refine ob_neI ?_ | refine ob_eqSt (by decide +kernel) ?_ | refine ob_eqSf (by decide +kernel) ?_ | refine ob_neSt (by decide +kernel) ?_ | refine ob_neSf (by decide +kernel) ?_
    | refine if_dec (fun _ => ?_) (fun _ => ?_) | refine if_ndec (fun _ => ?_) (fun _ => ?_) | refine if_tt ?_ | refine if_ff ?_ | refine if_ft ?_ | refine if_tf ?_ | refine bool_ex ?_ | refine int_ex ?_
    | refine ob_intB ?_ | refine ob_range (by omega) (by omega) ?_ | refine ob_iterR (by omega) (by omega) ?_ | refine OB.of (by rfl) ?_))
        exact ⟨s0, s1, s3, rfl, hm'⟩
  · intro σ H' h
    obtain ⟨s0, s1, s3, rfl, hm⟩ := h
    (repeat' (first
    | refine s_seq ?_ | refine s_if ?_ | refine s_ret ?_ | refine s_asg ?_ | refine s_nil ?_ | refine s_expr ?_ | refine s_store ?_ | refine s_for ?_ | refine s_asgT ?_
    | refine w_bin ?_ | refine w_cst ?_ | refine w_loc (by first | rfl | assumption) ?_ | refine w_callF ?_ | refine w_callB ?_ | refine w_cons ?_ | refine w_nil ?_ | refine w_tup ?_ | refine w_lst ?_ | refine w_newL ?_ | refine w_sub ?_ | refine w_neg ?_ | refine w_not ?_ | refine w_meth ?_ | refine w_cmp ?_ | refine w_ite ?_ | refine w_and ?_ | refine w_or ?_ | refine w_isiT ?_ | refine w_slc ?_ | refine p_none ?_ | refine p_some ?_ | refine w_cmp2 ?_
    | refine t_cmp ?_ | refine t_val ?_ | refine t_not ?_ | refine t_and ?_ | refine t_or ?_ | refine t_true ?_
    | refine ob_add ?_ | refine ob_sub ?_ | refine ob_mod (by omega) ?_ | refine ob_fdiv (by omega) ?_ | refine ob_mul (by omega) ?_ | refine ob_eqI ?_ | refine ob_neI ?_ | refine ob_eqSt (by decide +kernel) ?_ | refine ob_eqSf (by decide +kernel) ?_ | refine ob_neSt (by decide +kernel) ?_ | refine ob_neSf (by decide +kernel) ?_
    | refine if_dec (fun _ => ?_) (fun _ => ?_) | refine if_ndec (fun _ => ?_) (fun _ => ?_) | refine if_tt ?_ | refine if_ff ?_ | refine if_ft ?_ | refine if_tf ?_ | refine bool_ex ?_ | refine int_ex ?_
    | refine ob_intB ?_ | refine ob_range (by omega) (by omega) ?_ | refine ob_iterR (by omega) (by omega) ?_ | refine OB.of (by rfl) ?_))
    exact fin_same rfl q
theorem plain_w : ∀ (d n : Nat) (v : AV), pln d v = true → ∀ {H : AH} {Q : AV → AH → Prop}, Q (.bool true) H → W (fns tbl (n + d) i_l_plain [v] H) Q
  | 0, _, _, h, _, _, _ => nomatch h
  | d + 1, n, v, h, H, Q, q => by
    refine e_l_plain (n := n + d) (run_w rfl ?_)
    unfold k_l_plain
    have sq : ∀ l : List AV, (decide (l.length ≤ 1000) && l.all (pln d)) = true → ∀ {σ : Loc} {x : AV}, σ 0 = some x → iter? x = some l → W (dCall (fns tbl (n + d)) (dCst (.bi .all)) [dComp (dCall (fns tbl (n + d)) (dCst (.fn i_l_plain)) [dLoc 1]) tTrue 1 (dLoc 0)] σ H) fun v H₁ => H₁.take H.length = H ∧ OB (freeze H.length H₁ 12 v) fun v' => Q v' H := by
      intro l hl σ x hx hi
      obtain ⟨hl, hp⟩ := pln_parts hl
      refine w_callB (w_cons (w_comp2 (P := fun _ x => x = .bool true) (w_loc hx ⟨l, hi, by omega, ?_, ?_⟩)))
      · intro v hv H'
        refine w_callF (w_cons (w_loc rfl (w_nil (plain_w d n v (hp v hv) ⟨rfl, rfl, rfl⟩))))
      · intro ys ha
        exact w_nil (ob_allT (ha.all (T := fun v => v = AV.bool true) fun _ _ h => h) (fin_same rfl q))
    cases v with
    | none =>
      (repeat' (first
    | refine s_seq ?_ | refine s_if ?_ | refine s_ret ?_ | refine s_asg ?_ | refine s_nil ?_ | refine s_expr ?_ | refine s_store ?_ | refine s_for ?_ | refine s_asgT ?_
    | refine w_bin ?_ | refine w_cst ?_ | refine w_loc (by first | rfl | assumption) ?_ | refine w_callF ?_ | refine w_callB ?_ | refine w_cons ?_ | refine w_nil ?_ | refine w_tup ?_ | refine w_lst ?_ | refine w_newL ?_ | refine w_sub ?_ | refine w_neg ?_ | refine w_not ?_ | refine w_meth ?_ | refine w_cmp ?_ | refine w_ite ?_ | refine w_and ?_ | refine w_or ?_ | refine w_isiT ?_ | refine w_slc ?_ | refine p_none ?_ | refine p_some ?_ | refine w_cmp2 ?_
    | refine t_cmp ?_ | refine t_val ?_ | refine t_not ?_ | refine t_and ?_ | refine t_or ?_ | refine t_true ?_
    | refine ob_add ?_ | refine ob_sub ?_ | refine ob_mod (by omega) ?_ | refine ob_fdiv (by omega) ?_ | refine ob_mul (by omega) ?_ | refine ob_eqI ?_ | refine ob_neI ?_ | refine ob_eqSt (by decide +kernel) ?_ | refine ob_eqSf (by decide +kernel) ?_ | refine ob_neSt (by decide +kernel) ?_ | refine ob_neSf (by decide +kernel) ?_
    | refine if_dec (fun _ => ?_) (fun _ => ?_) | refine if_ndec (fun _ => ?_) (fun _ => ?_) | refine if_tt ?_ | refine if_ff ?_ | refine if_ft ?_ | refine if_tf ?_ | refine bool_ex ?_ | refine int_ex ?_
    | refine ob_intB ?_ | refine ob_range (by omega) (by omega) ?_ | refine ob_iterR (by omega) (by omega) ?_ | refine OB.of (by rfl) ?_))
      exact fin_same rfl q
    | int i =>
      (repeat' (first
    | refine s_seq ?_ | refine s_if ?_ | refine s_ret ?_ | refine s_asg ?_ | refine s_nil ?_ | refine s_expr ?_ | refine s_store ?_ | refine s_for ?_ | refine s_asgT ?_
    | refine w_bin ?_ | refine w_cst ?_ | refine w_loc (by first | rfl | assumption) ?_ | refine w_callF ?_ | refine w_callB ?_ | refine w_cons ?_ | refine w_nil ?_ | refine w_tup ?_ | refine w_lst ?_ | refine w_newL ?_ | refine w_sub ?_ | refine w_neg ?_ | refine w_not ?_ | refine w_meth ?_ | refine w_cmp ?_ | refine w_ite ?_ | refine w_and ?_ | refine w_or ?_ | refine w_isiT ?_ | refine w_slc ?_ | refine p_none ?_ | refine p_some ?_ | refine w_cmp2 ?_
    | refine t_cmp ?_ | refine t_val ?_ | refine t_not ?_ | refine t_and ?_ | refine t_or ?_ | refine t_true ?_
    | refine ob_add ?_ | refine ob_sub ?_ | refine ob_mod (by omega) ?_ | refine ob_fdiv (by omega) ?_ | refine ob_mul (by omega) ?_ | refine ob_eqI ?_ | refine ob_neI ?_ | refine ob_eqSt (by decide +kernel) ?_ | refine ob_eqSf (by decide +kernel) ?_ | refine ob_neSt (by decide +kernel) ?_ | refine ob_neSf (by decide +kernel) ?_
    | refine if_dec (fun _ => ?_) (fun _ => ?_) | refine if_ndec (fun _ => ?_) (fun _ => ?_) | refine if_tt ?_ | refine if_ff ?_ | refine if_ft ?_ | refine if_tf ?_ | refine bool_ex ?_ | refine int_ex ?_
    | refine ob_intB ?_ | refine ob_range (by omega) (by omega) ?_ | refine ob_iterR (by omega) (by omega) ?_ | refine OB.of (by rfl) ?_))
      exact fin_same rfl q
    | str x =>
      (repeat' (first
    | refine s_seq ?_ | refine s_if ?_ | refine s_ret ?_ | refine s_asg ?_ | refine s_nil ?_ | refine s_expr ?_ | refine s_store ?_ | refine s_for ?_ | refine s_asgT ?_
    | refine w_bin ?_ | refine w_cst ?_ | refine w_loc (by first | rfl | assumption) ?_ | refine w_callF ?_ | refine w_callB ?_ | refine w_cons ?_ | refine w_nil ?_ | refine w_tup ?_ | refine w_lst ?_ | refine w_newL ?_ | refine w_sub ?_ | refine w_neg ?_ | refine w_not ?_ | refine w_meth ?_ | refine w_cmp ?_ | refine w_ite ?_ | refine w_and ?_ | refine w_or ?_ | refine w_isiT ?_ | refine w_slc ?_ | refine p_none ?_ | refine p_some ?_ | refine w_cmp2 ?_
    | refine t_cmp ?_ | refine t_val ?_ | refine t_not ?_ | refine t_and ?_ | refine t_or ?_ | refine t_true ?_
    | refine ob_add ?_ | refine ob_sub ?_ | refine ob_mod (by omega) ?_ | refine ob_fdiv (by omega) ?_ | refine ob_mul (by omega) ?_ | refine ob_eqI ?_ | refine ob_neI ?_ | refine ob_eqSt (by decide +kernel) ?_ | refine ob_eqSf (by decide +kernel) ?_ | refine ob_neSt (by decide +kernel) ?_ | refine ob_neSf (by decide +kernel) ?_
    | refine if_dec (fun _ => ?_) (fun _ => ?_) | refine if_ndec (fun _ => ?_) (fun _ => ?_) | refine if_tt ?_ | refine if_ff ?_ | refine if_ft ?_ | refine if_tf ?_ | refine bool_ex ?_ | refine int_ex ?_
    | refine ob_intB ?_ | refine ob_range (by omega) (by omega) ?_ | refine ob_iterR (by omega) (by omega) ?_ | refine OB.of (by rfl) ?_))
      exact fin_same rfl q
    | tup l =>
      (repeat' (first
    | refine sq l h rfl rfl
    | refine s_seq ?_ | refine s_if ?_ | refine s_ret ?_ | refine s_asg ?_ | refine s_nil ?_ | refine s_expr ?_ | refine s_store ?_ | refine s_for ?_ | refine s_asgT ?_
    | refine w_bin ?_ | refine w_cst ?_ | refine w_loc (by first | rfl | assumption) ?_ | refine w_callF ?_ | refine w_callB ?_ | refine w_cons ?_ | refine w_nil ?_ | refine w_tup ?_ | refine w_lst ?_ | refine w_newL ?_ | refine w_sub ?_ | refine w_neg ?_ | refine w_not ?_ | refine w_meth ?_ | refine w_cmp ?_ | refine w_ite ?_ | refine w_and ?_ | refine w_or ?_ | refine w_isiT ?_ | refine w_slc ?_ | refine p_none ?_ | refine p_some ?_ | refine w_cmp2 ?_
    | refine t_cmp ?_ | refine t_val ?_ | refine t_not ?_ | refine t_and ?_ | refine t_or ?_ | refine t_true ?_
    | refine ob_add ?_ | refine ob_sub ?_ | refine ob_mod (by omega) ?_ | refine ob_fdiv (by omega) ?_ | refine ob_mul (by omega) ?_ | refine ob_eqI ?_ | refine ob_neI ?_ | refine ob_eqSt (by decide +kernel) ?_ | refine ob_eqSf (by decide +kernel) ?_ | refine ob_neSt (by decide +kernel) ?_ | refine ob_neSf (by decide +kernel) ?_
    | refine if_dec (fun _ => ?_) (fun _ => ?_) | refine if_ndec (fun _ => ?_) (fun _ => ?_) | refine if_tt ?_ | refine if_ff ?_ | refine if_ft ?_ | refine if_tf ?_ | refine bool_ex ?_ | refine int_ex ?_
    | refine ob_intB ?_ | refine ob_range (by omega) (by omega) ?_ | refine ob_iterR (by omega) (by omega) ?_ | refine OB.of (by rfl) ?_))
    | lst l =>
      (repeat' (first
    | refine sq l h rfl rfl
    | refine s_seq ?_ | refine s_if ?_ | refine s_ret ?_ | refine s_asg ?_ | refine s_nil ?_ | refine s_expr ?_ | refine s_store ?_ | refine s_for ?_ | refine s_asgT ?_
    | refine w_bin ?_ | refine w_cst ?_ | refine w_loc (by first | rfl | assumption) ?_ | refine w_callF ?_ | refine w_callB ?_ | refine w_cons ?_ | refine w_nil ?_ | refine w_tup ?_ | refine w_lst ?_ | refine w_newL ?_ | refine w_sub ?_ | refine w_neg ?_ | refine w_not ?_ | refine w_meth ?_ | refine w_cmp ?_ | refine w_ite ?_ | refine w_and ?_ | refine w_or ?_ | refine w_isiT ?_ | refine w_slc ?_ | refine p_none ?_ | refine p_some ?_ | refine w_cmp2 ?_
    | refine t_cmp ?_ | refine t_val ?_ | refine t_not ?_ | refine t_and ?_ | refine t_or ?_ | refine t_true ?_
    | refine ob_add ?_ | refine ob_sub ?_ | refine ob_mod (by omega) ?_ | refine ob_fdiv (by omega) ?_ | refine ob_mul (by omega) ?_ | refine ob_eqI ?_ | refine ob_neI ?_ | refine ob_eqSt (by decide +kernel) ?_ | refine ob_eqSf (by decide +kernel) ?_ | refine ob_neSt (by decide +kernel) ?_ | refine ob_neSf (by decide +kernel) ?_
    | refine if_dec (fun _ => ?_) (fun _ => ?_) | refine if_ndec (fun _ => ?_) (fun _ => ?_) | refine if_tt ?_ | refine if_ff ?_ | refine if_ft ?_ | refine if_tf ?_ | refine bool_ex ?_ | refine int_ex ?_
    | refine ob_intB ?_ | refine ob_range (by omega) (by omega) ?_ | refine ob_iterR (by omega) (by omega) ?_ | refine OB.of (by rfl) ?_))
    | _ => exact nomatch h
theorem plain_ref_w {d n : Nat} {k : Nat} {l : List AV} {H : AH} (hk : H[k]? = some (.list l)) (hl : l.length ≤ 1000) (hp : ∀ v ∈ l, pln d v = true) {Q : AV → AH → Prop} (q : Q (.bool true) H) : W (fns tbl (n + d + 1) i_l_plain [.ref k] H) Q := by
  refine e_l_plain (n := n + d) (run_w rfl ?_)
  unfold k_l_plain
  have hi : ∀ Q : Bool → Prop, Q true → OB (isiTOp H (.ref k) [.tuple, .list]) Q := by
    intro Q q
    refine ⟨true, ?_, q⟩
    have hl : listOf? H (.ref k) = some l := by
      show (match H[k]? with | some (.list l) => some l | _ => none) = _
      rw [hk]
    simp only [isiTOp, isiOp, hl]; rfl
  (repeat' (first
    | refine hi _ ?_
    | refine s_seq ?_ | refine s_if ?_ | refine s_ret ?_ | refine s_asg ?_ | refine s_nil ?_ | refine s_expr ?_ | refine s_store ?_ | refine s_for ?_ | refine s_asgT ?_
    | refine w_bin ?_ | refine w_cst ?_ | refine w_loc (by first | rfl | assumption) ?_ | refine w_callF ?_ | refine w_callB ?_ | refine w_cons ?_ | refine w_nil ?_ | refine w_tup ?_ | refine w_lst ?_ | refine w_newL ?_ | refine w_sub ?_ | refine w_neg ?_ | refine w_not ?_ | refine w_meth ?_ | refine w_cmp ?_ | refine w_ite ?_ | refine w_and ?_ | refine w_or ?_ | refine w_isiT ?_ | refine w_slc ?_ | refine p_none ?_ | refine p_some ?_ | refine w_cmp2 ?_
    | refine t_cmp ?_ | refine t_val ?_ | refine t_not ?_ | refine t_and ?_ | refine t_or ?_ | refine t_true ?_
    | refine ob_add ?_ | refine ob_sub ?_ | refine ob_mod (by omega) ?_ | refine ob_fdiv (by omega) ?_ | refine ob_mul (by omega) ?_ | refine ob_eqI ?_ | refine ob_neI ?_ | refine ob_eqSt (by decide +kernel) ?_ | refine ob_eqSf (by decide +kernel) ?_ | refine ob_neSt (by decide +kernel) ?_ | refine ob_neSf (by decide +kernel) ?_
    | refine if_dec (fun _ => ?_) (fun _ => ?_) | refine if_ndec (fun _ => ?_) (fun _ => ?_) | refine if_tt ?_ | refine if_ff ?_ | refine if_ft ?_ | refine if_tf ?_ | refine bool_ex ?_ | refine int_ex ?_
    | refine ob_intB ?_ | refine ob_range (by omega) (by omega) ?_ | refine ob_iterR (by omega) (by omega) ?_ | refine OB.of (by rfl) ?_))
  refine w_compR (P := fun _ x => x = .bool true) (w_loc rfl ⟨k, l, rfl, hk, by omega, ?_, ?_⟩)
  · intro v hv H'
    exact w_callF (w_cons (w_loc rfl (w_nil (plain_w d n v (hp v hv) ⟨rfl, rfl, rfl⟩))))
  · intro ys ha
    exact w_nil (ob_allT (ha.all (T := fun v => v = AV.bool true) fun _ _ h => h) (fin_same rfl q))
theorem cut_tail {X : Type} {f : X → AV} (l : List X) : cut (l.map f) (some 1) none = (l.drop 1).map f := by
  show ((l.map f).take (l.map f).length).drop 1 = _
  rw [List.take_of_length_le (Nat.le_refl _), List.map_drop]
theorem set_first {F : List AV} {v : AV} {o : AO} {Q : AH → Prop} (h : F.length ≤ 1000000) (q : Q [AO.list (F ++ [v]), o]) : OB (setAt [AO.list F, o] (.ref 0) (appM [v])) Q := by
  refine ⟨_, ?_, q⟩
  unfold setAt appM appF
  simp
  omega
theorem run06 (ns : List Int) (hlen : ns.length ≤ 63) : ∃ H', fns tbl 12 i_law [.lst (ns.map .int)] [] = .ok (.bool true) H' := by
  suffices h : W (fns tbl 12 i_law [.lst (ns.map .int)] []) fun v _ => v = .bool true by
    obtain ⟨v, H, e, rfl⟩ := h
    exact ⟨H, e⟩
  refine e_law (run_w rfl ?_)
  unfold k_law
  (repeat' (first
    | refine cell_w hlen (by decide) (by decide) (fun _ => ?_) | refine program_w (fun _ _ => ?_) | refine places_w (by assumption) (by assumption) (fun _ _ => ?_)
    | refine s_seq ?_ | refine s_if ?_ | refine s_ret ?_ | refine s_asg ?_ | refine s_nil ?_ | refine s_expr ?_ | refine s_store ?_ | refine s_for ?_ | refine s_asgT ?_
    | refine w_bin ?_ | refine w_cst ?_ | refine w_loc (by first | rfl | assumption) ?_ | refine w_callF ?_ | refine w_callB ?_ | refine w_cons ?_ | refine w_nil ?_ | refine w_tup ?_ | refine w_lst ?_ | refine w_newL ?_ | refine w_sub ?_ | refine w_neg ?_ | refine w_not ?_ | refine w_meth ?_ | refine w_cmp ?_ | refine w_ite ?_ | refine w_and ?_ | refine w_or ?_ | refine w_isiT ?_ | refine w_slc ?_ | refine p_none ?_ | refine p_some ?_ | refine w_cmp2 ?_
    | refine t_cmp ?_ | refine t_val ?_ | refine t_not ?_ | refine t_and ?_ | refine t_or ?_ | refine t_true ?_
    | refine ob_add ?_ | refine ob_sub ?_ | refine ob_mod (by omega) ?_ | refine ob_fdiv (by omega) ?_ | refine ob_mul (by omega) ?_ | refine ob_eqI ?_ | refine ob_neI ?_ | refine ob_eqSt (by decide +kernel) ?_ | refine ob_eqSf (by decide +kernel) ?_ | refine ob_neSt (by decide +kernel) ?_ | refine ob_neSf (by decide +kernel) ?_
    | refine if_dec (fun _ => ?_) (fun _ => ?_) | refine if_ndec (fun _ => ?_) (fun _ => ?_) | refine if_tt ?_ | refine if_ff ?_ | refine if_ft ?_ | refine if_tf ?_ | refine bool_ex ?_ | refine int_ex ?_
    | refine ob_intB ?_ | refine ob_range (by omega) (by omega) ?_ | refine ob_iterR (by omega) (by omega) ?_ | refine OB.of (by rfl) ?_))
  rename_i c0 one h1 c1 two h2 c2 three h3 c3 ps hp c4 L hL
  have lp := hp.len
  have lL := hL.len
  have jl := join_len (L := L) hp
  have jl1 := join_len (L := L.drop 1) hp
  have hL1 := hL.tail
  have pl := fun n (hn : 6 ≤ n) => pln_mono _ hn (places_pln hp.len hp.ok h1 h2)
  have pL := fun n (hn : 6 ≤ n) => pln_mono _ hn (places_pln hL.len hL.ok h2 h3)
  have pj := fun n (hn : 6 ≤ n) => pln_mono _ hn (places_pln jl (join_ok hp hL) h1 h3)
  have pj1 := fun n (hn : 6 ≤ n) => pln_mono _ hn (places_pln jl1 (join_ok hp hL1) h1 h3)
  have ph : pln 12 (.lst [.lst (ps.map Place.av), .lst (L.map Place.av)]) = true := by
    refine pln_lst (by simp) ?_
    intro v hv
    simp at hv
    rcases hv with rfl | rfl
    · exact pl _ (by omega)
    · exact pL _ (by omega)
  have pp : ∀ v ∈ (joinL ps L).map Place.av, pln 5 v = true := by
    intro v hv
    obtain ⟨p, hm, rfl⟩ := List.mem_map.mp hv
    exact p.pln_of (join_ok hp hL p hm) h1 h3
  (repeat' (first
    | refine ob_listL (by simp; omega) ?_ | refine due_w h1 h2 h3 hp hL ?_ | refine joined_w h1 h2 h3 hp hL ?_ | refine ob_nsame (pj _ (by omega)) (data_ref rfl) ?_ | refine plain_ref_w (d := 5) rfl (by simp; omega) pp ?_ | refine ob_nsame ph rfl ?_ | refine cell_w hlen (by decide) (by decide) (fun _ => ?_) | refine numbers_w h1 (fun _ _ => ?_) | refine at_once_w h1 h2 h3 hp hL (by assumption) rfl ?_ | refine ob_slcL rfl (by simp; omega) ?_
    | refine s_seq ?_ | refine s_if ?_ | refine s_ret ?_ | refine s_asg ?_ | refine s_nil ?_ | refine s_expr ?_ | refine s_store ?_ | refine s_for ?_ | refine s_asgT ?_
    | refine w_bin ?_ | refine w_cst ?_ | refine w_loc (by first | rfl | assumption) ?_ | refine w_callF ?_ | refine w_callB ?_ | refine w_cons ?_ | refine w_nil ?_ | refine w_tup ?_ | refine w_lst ?_ | refine w_newL ?_ | refine w_sub ?_ | refine w_neg ?_ | refine w_not ?_ | refine w_meth ?_ | refine w_cmp ?_ | refine w_ite ?_ | refine w_and ?_ | refine w_or ?_ | refine w_isiT ?_ | refine w_slc ?_ | refine p_none ?_ | refine p_some ?_ | refine w_cmp2 ?_
    | refine t_cmp ?_ | refine t_val ?_ | refine t_not ?_ | refine t_and ?_ | refine t_or ?_ | refine t_true ?_
    | refine ob_add ?_ | refine ob_sub ?_ | refine ob_mod (by omega) ?_ | refine ob_fdiv (by omega) ?_ | refine ob_mul (by omega) ?_ | refine ob_eqI ?_ | refine ob_neI ?_ | refine ob_eqSt (by decide +kernel) ?_ | refine ob_eqSf (by decide +kernel) ?_ | refine ob_neSt (by decide +kernel) ?_ | refine ob_neSf (by decide +kernel) ?_
    | refine if_dec (fun _ => ?_) (fun _ => ?_) | refine if_ndec (fun _ => ?_) (fun _ => ?_) | refine if_tt ?_ | refine if_ff ?_ | refine if_ft ?_ | refine if_tf ?_ | refine bool_ex ?_ | refine int_ex ?_
    | refine ob_intB ?_ | refine ob_range (by omega) (by omega) ?_ | refine ob_iterR (by omega) (by omega) ?_ | refine OB.of (by rfl) ?_))
  rw [cut_tail]
  (repeat' (first
    | refine joined_w h1 h2 h3 hp hL1 ?_ | refine due_w h1 h2 h3 hp hL1 ?_ | refine ob_nsame (pj1 _ (by omega)) (data_ref rfl) ?_ | refine ob_slcL rfl (by simp; omega) ?_
    | refine s_seq ?_ | refine s_if ?_ | refine s_ret ?_ | refine s_asg ?_ | refine s_nil ?_ | refine s_expr ?_ | refine s_store ?_ | refine s_for ?_ | refine s_asgT ?_
    | refine w_bin ?_ | refine w_cst ?_ | refine w_loc (by first | rfl | assumption) ?_ | refine w_callF ?_ | refine w_callB ?_ | refine w_cons ?_ | refine w_nil ?_ | refine w_tup ?_ | refine w_lst ?_ | refine w_newL ?_ | refine w_sub ?_ | refine w_neg ?_ | refine w_not ?_ | refine w_meth ?_ | refine w_cmp ?_ | refine w_ite ?_ | refine w_and ?_ | refine w_or ?_ | refine w_isiT ?_ | refine w_slc ?_ | refine p_none ?_ | refine p_some ?_ | refine w_cmp2 ?_
    | refine t_cmp ?_ | refine t_val ?_ | refine t_not ?_ | refine t_and ?_ | refine t_or ?_ | refine t_true ?_
    | refine ob_add ?_ | refine ob_sub ?_ | refine ob_mod (by omega) ?_ | refine ob_fdiv (by omega) ?_ | refine ob_mul (by omega) ?_ | refine ob_eqI ?_ | refine ob_neI ?_ | refine ob_eqSt (by decide +kernel) ?_ | refine ob_eqSf (by decide +kernel) ?_ | refine ob_neSt (by decide +kernel) ?_ | refine ob_neSf (by decide +kernel) ?_
    | refine if_dec (fun _ => ?_) (fun _ => ?_) | refine if_ndec (fun _ => ?_) (fun _ => ?_) | refine if_tt ?_ | refine if_ff ?_ | refine if_ft ?_ | refine if_tf ?_ | refine bool_ex ?_ | refine int_ex ?_
    | refine ob_intB ?_ | refine ob_range (by omega) (by omega) ?_ | refine ob_iterR (by omega) (by omega) ?_ | refine OB.of (by rfl) ?_))
  rw [cut_tail]
  (repeat' (first
    | refine due_w h1 h2 h3 hp hL1 ?_ | refine ob_nsame (pj1 _ (by omega)) (data_ref rfl) ?_ | refine ob_nsame (pj _ (by omega)) (data_ref rfl) ?_ | refine And.intro rfl ?_ | refine set_first (by simp; omega) ?_ | refine joined_w h1 h2 h3 hp hL ?_ | refine ob_same (pj _ (by omega)) (data_ref rfl) ?_ | refine ob_same ph rfl ?_
    | refine s_seq ?_ | refine s_if ?_ | refine s_ret ?_ | refine s_asg ?_ | refine s_nil ?_ | refine s_expr ?_ | refine s_store ?_ | refine s_for ?_ | refine s_asgT ?_
    | refine w_bin ?_ | refine w_cst ?_ | refine w_loc (by first | rfl | assumption) ?_ | refine w_callF ?_ | refine w_callB ?_ | refine w_cons ?_ | refine w_nil ?_ | refine w_tup ?_ | refine w_lst ?_ | refine w_newL ?_ | refine w_sub ?_ | refine w_neg ?_ | refine w_not ?_ | refine w_meth ?_ | refine w_cmp ?_ | refine w_ite ?_ | refine w_and ?_ | refine w_or ?_ | refine w_isiT ?_ | refine w_slc ?_ | refine p_none ?_ | refine p_some ?_ | refine w_cmp2 ?_
    | refine t_cmp ?_ | refine t_val ?_ | refine t_not ?_ | refine t_and ?_ | refine t_or ?_ | refine t_true ?_
    | refine ob_add ?_ | refine ob_sub ?_ | refine ob_mod (by omega) ?_ | refine ob_fdiv (by omega) ?_ | refine ob_mul (by omega) ?_ | refine ob_eqI ?_ | refine ob_neI ?_ | refine ob_eqSt (by decide +kernel) ?_ | refine ob_eqSf (by decide +kernel) ?_ | refine ob_neSt (by decide +kernel) ?_ | refine ob_neSf (by decide +kernel) ?_
    | refine if_dec (fun _ => ?_) (fun _ => ?_) | refine if_ndec (fun _ => ?_) (fun _ => ?_) | refine if_tt ?_ | refine if_ff ?_ | refine if_ft ?_ | refine if_tf ?_ | refine bool_ex ?_ | refine int_ex ?_
    | refine ob_intB ?_ | refine ob_range (by omega) (by omega) ?_ | refine ob_iterR (by omega) (by omega) ?_ | refine OB.of (by rfl) ?_))
  exact rfl
end Mine

namespace Mine
open PySem PySem.W PyProof.Rows
set_option Elab.async false
set_option maxRecDepth 100000
set_option maxHeartbeats 8000000
open_top hd06 for PySem.Challenge.rw_uf030012_06
end Mine

open PySem PySem.W PyProof.Rows
set_option maxRecDepth 100000 in
set_option maxHeartbeats 8000000 in
theorem PySem.Challenge.cw_uf030012_06_holds : PySem.Challenge.rw_uf030012_06.Holds := by
  refine Mine.hd06 ?_
  intro w s₀ s₁ mg mb G Y fa o pm cd doc dV kV ho hd hcd hD hmg hg args vals as hpre hlay hrd hwl hlo
  have KX := kIn_of Y
  clear hd hcd hD
  refine Ground.open G ?_
  intro T B D TE TW
  wrow_args hpre hlay hrd hwl hlo
  refine enter_call ?_
  rename IntsAre _ _ => hI
  rename Heap.IsList _ _ _ => hL
  rename ¬ (_ < _) => hlen
  refine Mine.tie KX T (by decide +kernel) hmg hL hI ?n0 ?d0 ?n1 ?d1 ?n2 ?d2 ?n3 ?d3 ?n4 ?d4 ?n5 ?d5 ?n6 ?d6 ?n7 ?d7 ?n8 ?d8 ?n9 ?d9 ?n10 ?d10 ?n11 ?d11 ?n12 ?d12 ?n13 ?d13 ?n14 ?d14 ?n15 ?d15 ?n16 ?d16 ?n17 ?d17 ?b0 ?b1 ?b2 ?b3 ?b4 ?b5 ?b6 ?b7 (Mine.run06 _ (by omega)) fun s' hk hos hgs => Mine.good_true (fun cls => rfl) (by kernel_rfl) hk hos (hgs.trans hg)
  case n0 => kernel_rfl
  case d0 => exact ⟨by kernel_rfl, by kernel_rfl, by kernel_rfl, by kernel_rfl, by kernel_rfl, by kernel_rfl, by kernel_rfl, Mine.arS (n := 1) fun a => Mine.ar1 fun b => by kernel_rfl⟩
  case n1 => kernel_rfl
  case d1 => exact ⟨by kernel_rfl, by kernel_rfl, by kernel_rfl, by kernel_rfl, by kernel_rfl, by kernel_rfl, by kernel_rfl, Mine.arS (n := 1) fun a => Mine.ar1 fun b => by kernel_rfl⟩
  case n2 => kernel_rfl
  case d2 => exact ⟨by kernel_rfl, by kernel_rfl, by kernel_rfl, by kernel_rfl, by kernel_rfl, by kernel_rfl, by kernel_rfl, Mine.arS (n := 1) fun a => Mine.ar1 fun b => by kernel_rfl⟩
  case n3 => kernel_rfl
  case d3 => exact ⟨by kernel_rfl, by kernel_rfl, by kernel_rfl, by kernel_rfl, by kernel_rfl, by kernel_rfl, by kernel_rfl, Mine.arS (n := 1) fun a => Mine.ar1 fun b => by kernel_rfl⟩
  case n4 => kernel_rfl
  case d4 => exact ⟨by kernel_rfl, by kernel_rfl, by kernel_rfl, by kernel_rfl, by kernel_rfl, by kernel_rfl, by kernel_rfl, Mine.arS (n := 1) fun a => Mine.ar1 fun b => by kernel_rfl⟩
  case n5 => kernel_rfl
  case d5 => exact ⟨by kernel_rfl, by kernel_rfl, by kernel_rfl, by kernel_rfl, by kernel_rfl, by kernel_rfl, by kernel_rfl, Mine.ar1 fun a => by kernel_rfl⟩
  case n6 => kernel_rfl
  case d6 => exact ⟨by kernel_rfl, by kernel_rfl, by kernel_rfl, by kernel_rfl, by kernel_rfl, by kernel_rfl, by kernel_rfl, Mine.arS (n := 3) fun a => Mine.arS (n := 2) fun b => Mine.arS (n := 1) fun c => Mine.ar1 fun d => by kernel_rfl⟩
  case n7 => kernel_rfl
  case d7 => exact ⟨by kernel_rfl, by kernel_rfl, by kernel_rfl, by kernel_rfl, by kernel_rfl, by kernel_rfl, by kernel_rfl, Mine.ar1 fun a => by kernel_rfl⟩
  case n8 => kernel_rfl
  case d8 => exact ⟨by kernel_rfl, by kernel_rfl, by kernel_rfl, by kernel_rfl, by kernel_rfl, by kernel_rfl, by kernel_rfl, Mine.arS (n := 2) fun a => Mine.arS (n := 1) fun b => Mine.ar1 fun c => by kernel_rfl⟩
  case n9 => kernel_rfl
  case d9 => exact ⟨by kernel_rfl, by kernel_rfl, by kernel_rfl, by kernel_rfl, by kernel_rfl, by kernel_rfl, by kernel_rfl, Mine.arS (n := 2) fun a => Mine.arS (n := 1) fun b => Mine.ar1 fun c => by kernel_rfl⟩
  case n10 => kernel_rfl
  case d10 => exact ⟨by kernel_rfl, by kernel_rfl, by kernel_rfl, by kernel_rfl, by kernel_rfl, by kernel_rfl, by kernel_rfl, Mine.arS (n := 1) fun a => Mine.ar1 fun b => by kernel_rfl⟩
  case n11 => kernel_rfl
  case d11 => exact ⟨by kernel_rfl, by kernel_rfl, by kernel_rfl, by kernel_rfl, by kernel_rfl, by kernel_rfl, by kernel_rfl, Mine.arS (n := 1) fun a => Mine.ar1 fun b => by kernel_rfl⟩
  case n12 => kernel_rfl
  case d12 => exact ⟨by kernel_rfl, by kernel_rfl, by kernel_rfl, by kernel_rfl, by kernel_rfl, by kernel_rfl, by kernel_rfl, Mine.arS (n := 1) fun a => Mine.ar1 fun b => by kernel_rfl⟩
  case n13 => kernel_rfl
  case d13 => exact ⟨by kernel_rfl, by kernel_rfl, by kernel_rfl, by kernel_rfl, by kernel_rfl, by kernel_rfl, by kernel_rfl, Mine.arS (n := 1) fun a => Mine.ar1 fun b => by kernel_rfl⟩
  case n14 => kernel_rfl
  case d14 => exact ⟨by kernel_rfl, by kernel_rfl, by kernel_rfl, by kernel_rfl, by kernel_rfl, by kernel_rfl, by kernel_rfl, Mine.arS (n := 1) fun a => Mine.ar1 fun b => by kernel_rfl⟩
  case n15 => kernel_rfl
  case d15 => exact ⟨by kernel_rfl, by kernel_rfl, by kernel_rfl, by kernel_rfl, by kernel_rfl, by kernel_rfl, by kernel_rfl, Mine.arS (n := 3) fun a => Mine.arS (n := 2) fun b => Mine.arS (n := 1) fun c => Mine.ar1 fun d => by kernel_rfl⟩
  case n16 => kernel_rfl
  case d16 => exact ⟨by kernel_rfl, by kernel_rfl, by kernel_rfl, by kernel_rfl, by kernel_rfl, by kernel_rfl, by kernel_rfl, Mine.ar1 fun a => by kernel_rfl⟩
  case n17 => kernel_rfl
  case d17 => exact ⟨by kernel_rfl, by kernel_rfl, by kernel_rfl, by kernel_rfl, by kernel_rfl, by kernel_rfl, by kernel_rfl, Mine.ar1 fun a => by kernel_rfl⟩
  case b0 => kernel_rfl
  case b1 => kernel_rfl
  case b2 => kernel_rfl
  case b3 => kernel_rfl
  case b4 => kernel_rfl
  case b5 => kernel_rfl
  case b6 => kernel_rfl
  case b7 => kernel_rfl

