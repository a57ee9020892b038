import PyProof.Rows.All
import Wide.All
import OpenK.AllK
import Wide.FinOn
import HandS.ForMost
import HandS.Exc
import HandS.ExcOwn
import KE.SortData
import HandS.Deep
import HandS.Style
import HandS.IsInst
import KE.DataCmp
import HandS.More
import HandS.Conv
import HandS.Rev
import HandS.ListItems
import HandS.TryOnly
import HandS.DictComp
import HandS.Iter
import HandS.Zip
import HandS.Small
import HandS.TupAny
import HandS.Star
import HandS.Steps
import HandS.RevTup
import KE.KDictList
import HandS.RaiseMore
import HandS.TryMany
import PyProof.ReprRoads
import PyProof.Rows.StrMeet
import HandS.Ends
import HandS.Words
import PyProof.P3Eq
import PySem.Challenge.RW_hemstead_k41_whole_persons_with_bounds


set_option Elab.async false
set_option linter.all false
/-! Ev, the meanings: plain Lean functions over slots that hold PyData. -/
namespace Ev
open PySem
abbrev D := PyData
/-- a slot: nothing; a value that never changes again; a list or dict that this slot alone holds; one that a caller lent -/
inductive Sl where
  | no | val (d : D) | own (d : D) | byr (d : D)
abbrev En := List Sl
/-- what an expression gives: a value; the object of a slot; a new object -/
inductive Rv where
  | val (d : D) | slot (i : Nat) | frs (d : D)
inductive RE (α : Type) where
  | ok (a : α) (ρ : En) | exc (c : Str) (ρ : En) | bad
abbrev Ex := En → RE Rv
abbrev Tt := En → RE Bool
inductive RS where
  | nx (ρ : En) | rt (r : Rv) (ρ : En) | bk (ρ : En) | ct (ρ : En) | exc (c : Str) (ρ : En) | bad
abbrev Sm := En → RS
/-- what a call gives: a value or a new object, and what became of the lent ones -/
inductive RF where
  | rt (r : Rv) (outs : List D) | exc (c : Str) (outs : List D) | bad
abbrev FnS := List Sl → RF

def RE.bind {α β : Type} : RE α → (α → En → RE β) → RE β
  | .ok a ρ, k => k a ρ
  | .exc c ρ, _ => .exc c ρ
  | .bad, _ => .bad
@[simp] theorem RE.bind_ok {α β : Type} (a : α) (ρ : En) (k : α → En → RE β) : (RE.ok a ρ).bind k = k a ρ := rfl
@[simp] theorem RE.bind_exc {α β : Type} (c : Str) (ρ : En) (k : α → En → RE β) : (RE.exc c ρ : RE α).bind k = .exc c ρ := rfl
@[simp] theorem RE.bind_bad {α β : Type} (k : α → En → RE β) : (RE.bad : RE α).bind k = .bad := rfl

def slD : Sl → Option D
  | .no => none
  | .val d => some d
  | .own d => some d
  | .byr d => some d
def peek (ρ : En) : Rv → Option D
  | .val d => some d
  | .frs d => some d
  | .slot i => match ρ[i]? with | some s => slD s | none => none
def close (r : Rv) (ρ : En) : RE D := match r with
  | .val d => .ok d ρ
  | .frs d => .ok d ρ
  | .slot i => match ρ[i]? with
    | some (.own d) => .ok d (ρ.set i (.val d))
    | some (.val d) => .ok d ρ
    | _ => .bad
/-- a value that never changes again -/
def clo (e : Ex) : En → RE D := fun ρ => (e ρ).bind close
/-- an operand: a new object is shared at once, a slot's stays what it is -/
def opn (e : Ex) : Ex := fun ρ => (e ρ).bind fun r ρ => match r with
  | .frs d => .ok (.val d) ρ
  | r => .ok r ρ
def RE.of {α : Type} (o : Option α) (ρ : En) : RE α := match o with
  | some a => .ok a ρ
  | none => .bad

/-! ### expressions -/
def cst (d : D) : Ex := fun ρ => .ok (.val d) ρ
def var (i : Nat) : Ex := fun ρ => match ρ[i]? with
  | some (.val d) => .ok (.val d) ρ
  | some (.own _) => .ok (.slot i) ρ
  | some (.byr _) => .ok (.slot i) ρ
  | _ => .bad
def op1 (f : D → Option Rv) (e : Ex) : Ex := fun ρ => (opn e ρ).bind fun r ρ => match peek ρ r with
  | some x => RE.of (f x) ρ
  | none => .bad
def op2 (f : D → D → Option Rv) (a b : Ex) : Ex := fun ρ => (opn a ρ).bind fun r ρ => (opn b ρ).bind fun q ρ => match peek ρ r, peek ρ q with
  | some x, some y => RE.of (f x y) ρ
  | _, _ => .bad
def clos : List Ex → En → RE (List D)
  | [], ρ => .ok [] ρ
  | e :: es, ρ => (clo e ρ).bind fun d ρ => (clos es ρ).bind fun ds ρ => .ok (d :: ds) ρ
def tupE (es : List Ex) : Ex := fun ρ => (clos es ρ).bind fun ds ρ => .ok (.val (.tuple ds)) ρ
def lstE (es : List Ex) : Ex := fun ρ => (clos es ρ).bind fun ds ρ => .ok (.frs (.list ds)) ρ
def newD : Ex := fun ρ => .ok (.frs (.dict [])) ρ
def iteE (t : Tt) (a b : Ex) : Ex := fun ρ => (t ρ).bind fun c ρ => if c = true then a ρ else b ρ
/-- a and b, a or b, not a, as values that are bools -/
def andE (a b : Ex) : Ex := fun ρ => (clo a ρ).bind fun x ρ => match x with
  | .bool true => b ρ
  | .bool false => .ok (.val (.bool false)) ρ
  | _ => .bad
def orE (a b : Ex) : Ex := fun ρ => (clo a ρ).bind fun x ρ => match x with
  | .bool true => .ok (.val (.bool true)) ρ
  | .bool false => b ρ
  | _ => .bad
def notE (a : Ex) : Ex := fun ρ => (clo a ρ).bind fun x ρ => match x with
  | .bool c => .ok (.val (.bool (!c))) ρ
  | _ => .bad
/-- a op b op' c: b is reckoned once -/
def chnE (f g : D → D → Option Rv) (a b c : Ex) : Ex := fun ρ => (opn a ρ).bind fun r ρ => (opn b ρ).bind fun q ρ => match peek ρ r, peek ρ q with
  | some x, some y => match f x y with
    | some (.val (.bool true)) => (opn c ρ).bind fun u ρ => match peek ρ q, peek ρ u with
      | some y, some z => RE.of (g y z) ρ
      | _, _ => .bad
    | some (.val (.bool false)) => .ok (.val (.bool false)) ρ
    | _ => .bad
  | _, _ => .bad

/-! ### tests -/
def truD : D → Option Bool
  | .none => some false
  | .bool b => some b
  | .int i => some (i != 0)
  | .str x => if x.length ≤ sizeLine then some ((x.length : Int) != 0) else none
  | .list xs => some (!xs.isEmpty)
  | .tuple xs => some (!xs.isEmpty)
  | .dict _ => none
def truT (e : Ex) : Tt := fun ρ => (opn e ρ).bind fun r ρ => match peek ρ r with
  | some x => RE.of (truD x) ρ
  | none => .bad
/-- an expression that gives True or False -/
def blT (e : Ex) : Tt := fun ρ => (clo e ρ).bind fun d ρ => match d with
  | .bool b => .ok b ρ
  | _ => .bad
def andT (a b : Tt) : Tt := fun ρ => (a ρ).bind fun c ρ => if c = true then b ρ else .ok false ρ
def orT (a b : Tt) : Tt := fun ρ => (a ρ).bind fun c ρ => if c = true then .ok true ρ else b ρ
def notT (a : Tt) : Tt := fun ρ => (a ρ).bind fun c ρ => .ok (!c) ρ

/-! ### what is walked -/
abbrev Itr := En → RE (List D)
def itSeq (e : Ex) : Itr := fun ρ => (clo e ρ).bind fun d ρ => match d with
  | .list xs => .ok xs ρ
  | .tuple xs => .ok xs ρ
  | _ => .bad
def signsD (x : Str) : List D := x.cps.toList.map fun c => .str ⟨#[c]⟩
def itStr (e : Ex) : Itr := fun ρ => (clo e ρ).bind fun d ρ => match d with
  | .str x => .ok (signsD x) ρ
  | _ => .bad
def rng (lo hi : Int) : List D := (List.range (hi - lo).toNat).map fun (i : Nat) => .int (lo + (i : Int))
def inR (i : Int) : Bool := decide (-(2 ^ 62) ≤ i ∧ i < 2 ^ 62)
def itRng1 (e : Ex) : Itr := fun ρ => (clo e ρ).bind fun d ρ => match d with
  | .int n => if inR n = true then .ok (rng 0 n) ρ else .bad
  | _ => .bad
def itRng2 (a b : Ex) : Itr := fun ρ => (clo a ρ).bind fun x ρ => (clo b ρ).bind fun y ρ => match x, y with
  | .int i, .int j => if (inR i && inR j) = true then .ok (rng i j) ρ else .bad
  | _, _ => .bad
def pairs : List D → List D → List D
  | x :: xs, y :: ys => .tuple [x, y] :: pairs xs ys
  | _, _ => []
def itZip (a b : Ex) : Itr := fun ρ => (clo a ρ).bind fun x ρ => (clo b ρ).bind fun y ρ => match x, y with
  | .list xs, .list ys => .ok (pairs xs ys) ρ
  | .tuple xs, .tuple ys => .ok (pairs xs ys) ρ
  | _, _ => .bad
/-- a dict with flat keys is walked -/
def itDict (g : D × D → D) (e : Ex) : Itr := fun ρ => (clo e ρ).bind fun d ρ => match d with
  | .dict kvs => if kvs.all (fun p => match p.1 with | .int _ => true | .str _ => true | _ => false) = true then .ok (kvs.map g) ρ else .bad
  | _ => .bad
def itVals (e : Ex) : Itr := itDict (·.2) e
def itItems (e : Ex) : Itr := itDict (fun p => .tuple [p.1, p.2]) e
def itKeys (e : Ex) : Itr := itDict (·.1) e

/-! ### targets -/
abbrev Tg := D → En → Option En
def stI (i : Nat) : Tg := fun d ρ => some (ρ.set i (.val d))
def stAll : List Tg → List D → En → Option En
  | [], [], ρ => some ρ
  | t :: ts, d :: ds, ρ => match t d ρ with
    | some ρ => stAll ts ds ρ
    | none => none
  | _, _, _ => none
def stT (ts : List Tg) : Tg := fun d ρ => match d with
  | .tuple ds => stAll ts ds ρ
  | .list ds => stAll ts ds ρ
  | _ => none

/-! ### comprehensions -/
def wipeE (ρ : En) : List Nat → En
  | [] => ρ
  | v :: vs => (wipeE ρ vs).set v .no
def mayHide (ρ : En) (vs : List Nat) : Bool := vs.all fun v => match ρ[v]? with
  | some .no => true
  | some (.val _) => true
  | _ => false
/-- the slots vs as they stood -/
def back (ρ0 ρ : En) : List Nat → En
  | [] => ρ
  | v :: vs => (back ρ0 ρ vs).set v (ρ0.getD v .no)
def lcLoop (vs : List Nat) (g : Tg) (t : Tt) (e : Ex) : List D → En → List D → RE (List D)
  | [], ρ, acc => .ok acc ρ
  | x :: xs, ρ, acc => match g x ρ with
    | none => .bad
    | some ρ => match t ρ with
      | .ok true ρ => match clo e ρ with
        | .ok y ρ => lcLoop vs g t e xs (wipeE ρ vs) (acc ++ [y])
        | _ => .bad
      | .ok false ρ => lcLoop vs g t e xs (wipeE ρ vs) acc
      | _ => .bad
def yesT : Tt := fun ρ => .ok true ρ
def lcE (vs : List Nat) (it : Itr) (g : Tg) (t : Tt) (e : Ex) : Ex := fun ρ => (it ρ).bind fun xs ρ =>
  if mayHide ρ vs = true ∧ xs.length ≤ sizeLine then
    match lcLoop vs g t e xs (wipeE ρ vs) [] with
    | .ok ys ρ' => .ok (.frs (.list ys)) (back ρ ρ' vs)
    | _ => .bad
  else .bad
/-- a key of a dict -/
def keyD : L2.Key → D
  | .inl i => .int i
  | .inr x => .str x
def keyO : D → Option L2.Key
  | .int i => some (.inl i)
  | .str x => some (.inr x)
  | _ => none
def keysO : List D → Option (List L2.Key)
  | [] => some []
  | d :: ds => match keyO d, keysO ds with
    | some k, some ks => some (k :: ks)
    | _, _ => none
/-- keys as data: equality -/
def keq : D → D → Bool
  | .int i, .int j => decide (i = j)
  | .str x, .str y => decide (x = y)
  | .tuple xs, .tuple ys => match keysO xs, keysO ys with
    | some a, some b => decide (a = b)
    | _, _ => false
  | _, _ => false
def dget : List (D × D) → D → Option D
  | [], _ => none
  | (k, v) :: r, x => if keq k x = true then some v else dget r x
def dput (kvs : List (D × D)) (k v : D) : List (D × D) :=
  if (kvs.any fun p => keq p.1 k) = true then kvs.map (fun p => if keq p.1 k = true then (p.1, v) else p) else kvs ++ [(k, v)]
/-- whether a dict may be asked for the key: flat keys, or tuples of them -/
def flatK : D → Bool
  | .int _ => true
  | .str _ => true
  | _ => false
def tupK : D → Bool
  | .tuple xs => xs.all flatK
  | _ => false
def askK (kvs : List (D × D)) (k : D) : Bool := (flatK k && kvs.all fun p => flatK p.1) || (tupK k && !kvs.isEmpty && kvs.all fun p => tupK p.1)
def dcLoop (vs : List Nat) (g : Tg) (t : Tt) (k e : Ex) : List D → En → List (D × D) → RE (List (D × D))
  | [], ρ, acc => .ok acc ρ
  | x :: xs, ρ, acc => match g x ρ with
    | none => .bad
    | some ρ => match t ρ with
      | .ok true ρ => match clo k ρ with
        | .ok kd ρ => match clo e ρ with
          | .ok y ρ => if flatK kd = true then dcLoop vs g t k e xs (wipeE ρ vs) (dput acc kd y) else .bad
          | _ => .bad
        | _ => .bad
      | .ok false ρ => dcLoop vs g t k e xs (wipeE ρ vs) acc
      | _ => .bad
def dcE (vs : List Nat) (it : Itr) (g : Tg) (t : Tt) (k e : Ex) : Ex := fun ρ => (it ρ).bind fun xs ρ =>
  if mayHide ρ vs = true ∧ xs.length ≤ sizeLine then
    match dcLoop vs g t k e xs (wipeE ρ vs) [] with
    | .ok ys ρ' => .ok (.frs (.dict ys)) (back ρ ρ' vs)
    | _ => .bad
  else .bad

/-! ### statements -/
def seqS : List Sm → Sm
  | [], ρ => .nx ρ
  | s :: r, ρ => match s ρ with
    | .nx ρ => seqS r ρ
    | x => x
/-- what follows an expression -/
def RE.go {α : Type} (r : RE α) (k : α → En → RS) : RS := match r with
  | .ok a ρ => k a ρ
  | .exc c ρ => .exc c ρ
  | .bad => .bad
@[simp] theorem RE.go_ok {α : Type} (a : α) (ρ : En) (k : α → En → RS) : (RE.ok a ρ).go k = k a ρ := rfl
@[simp] theorem RE.go_exc {α : Type} (c : Str) (ρ : En) (k : α → En → RS) : (RE.exc c ρ : RE α).go k = .exc c ρ := rfl
@[simp] theorem RE.go_bad {α : Type} (k : α → En → RS) : (RE.bad : RE α).go k = .bad := rfl
def setS (i : Nat) (e : Ex) : Sm := fun ρ => (e ρ).go fun r ρ => match r with
  | .val d => .nx (ρ.set i (.val d))
  | .frs d => .nx (ρ.set i (.own d))
  | .slot j => match close (.slot j) ρ with
    | .ok d ρ => .nx (ρ.set i (.val d))
    | _ => .bad
/-- targets that are no plain name -/
def asgS (g : Tg) (e : Ex) : Sm := fun ρ => (clo e ρ).go fun d ρ => match g d ρ with
  | some ρ => .nx ρ
  | none => .bad
def expS (e : Ex) : Sm := fun ρ => (e ρ).go fun _ ρ => .nx ρ
def retS (e : Ex) : Sm := fun ρ => (e ρ).go fun r ρ => .rt r ρ
def retN : Sm := fun ρ => .rt (.val .none) ρ
def ifS (t : Tt) (a b : Sm) : Sm := fun ρ => (t ρ).go fun c ρ => if c = true then a ρ else b ρ
def raiS (c : Str) : Sm := fun ρ => .exc c ρ
def forLoop (g : Tg) (b : Sm) : List D → En → RS
  | [], ρ => .nx ρ
  | x :: xs, ρ => match g x ρ with
    | none => .bad
    | some ρ => match b ρ with
      | .nx ρ => forLoop g b xs ρ
      | .ct ρ => forLoop g b xs ρ
      | .bk ρ => .nx ρ
      | r => r
def forS (g : Tg) (it : Itr) (b : Sm) : Sm := fun ρ => (it ρ).go fun xs ρ => forLoop g b xs ρ
/-- a dict is walked while it is locked: nothing is let out -/
def lkS : RS → RS
  | .exc _ _ => .bad
  | r => r
def forD (g : Tg) (it : Itr) (b : Sm) : Sm := fun ρ => (it ρ).go fun xs ρ => lkS (forLoop g b xs ρ)
def whLoop (t : Tt) (b : Sm) : Nat → En → RS
  | 0, _ => .bad
  | n + 1, ρ => match t ρ with
    | .ok true ρ => match b ρ with
      | .nx ρ => whLoop t b n ρ
      | .ct ρ => whLoop t b n ρ
      | .bk ρ => .nx ρ
      | r => r
    | .ok false ρ => .nx ρ
    | .exc c ρ => .exc c ρ
    | .bad => .bad
/-- the list or dict that a slot may change -/
def hdl (ρ : En) (i : Nat) : Option D := match ρ[i]? with
  | some (.own d) => some d
  | some (.byr d) => some d
  | _ => none
def wrt (ρ : En) (i : Nat) (d : D) : En := match ρ[i]? with
  | some (.own _) => ρ.set i (.own d)
  | some (.byr _) => ρ.set i (.byr d)
  | _ => ρ
def isV (ρ : En) (i : Nat) : Bool := match ρ[i]? with
  | some .no => false
  | none => false
  | _ => true
/-- i.append(e), i a local name -/
def appE (i : Nat) (e : Ex) : Ex := fun ρ => match hdl ρ i with
  | some (.list _) => (clo e ρ).bind fun y ρ => match hdl ρ i with
    | some (.list xs) => if xs.length < sizeLine then .ok (.val .none) (wrt ρ i (.list (xs ++ [y]))) else .bad
    | _ => .bad
  | _ => .bad
/-- i.pop() -/
def popE (i : Nat) : Ex := fun ρ => match hdl ρ i with
  | some (.list xs) => match xs[xs.length - 1]? with
    | some y => .ok (.val y) (wrt ρ i (.list xs.dropLast))
    | none => .bad
  | _ => .bad
/-- o[k] = e, o a local name: a list's place, a dict's key -/
def putD (d k v : D) : Option D := match d with
  | .list xs => match k with
    | .int j => match L2.ixN xs.length j with
      | some m => some (.list (xs.set m v))
      | none => none
    | _ => none
  | .dict kvs => if flatK k = true ∧ askK kvs k = true ∧ kvs.length < sizeLine then some (.dict (dput kvs k v)) else none
  | _ => none
def putS (i : Nat) (k e : Ex) : Sm := fun ρ => (clo e ρ).go fun v ρ => if isV ρ i = true then
    (clo k ρ).go fun kd ρ => match hdl ρ i with
      | some d => match putD d kd v with
        | some d => .nx (wrt ρ i d)
        | none => .bad
      | none => .bad
  else .bad

/-! ### calls -/
/-- an argument: a value; a slot's object, lent -/
inductive Ag where
  | v (e : Ex) | r (i : Nat)
def args1 : List Ag → En → RE (List (D ⊕ Nat))
  | [], ρ => .ok [] ρ
  | .v e :: as, ρ => (clo e ρ).bind fun d ρ => (args1 as ρ).bind fun ds ρ => .ok (.inl d :: ds) ρ
  | .r i :: as, ρ => match ρ[i]? with
    | some .no => .bad
    | none => .bad
    | _ => (args1 as ρ).bind fun ds ρ => .ok (.inr i :: ds) ρ
def lend (ρ : En) : List (D ⊕ Nat) → Option (List Sl)
  | [] => some []
  | .inl d :: as => match lend ρ as with
    | some r => some (.val d :: r)
    | none => none
  | .inr i :: as => match ρ[i]?, lend ρ as with
    | some (.own d), some r => some (.byr d :: r)
    | some (.byr d), some r => some (.byr d :: r)
    | _, _ => none
/-- the lent ones come back -/
def giveBack (ρ : En) : List (D ⊕ Nat) → List D → Option En
  | [], [] => some ρ
  | .inl _ :: as, ds => giveBack ρ as ds
  | .inr i :: as, d :: ds => match ρ[i]? with
    | some (.own _) => giveBack (ρ.set i (.own d)) as ds
    | some (.byr _) => giveBack (ρ.set i (.byr d)) as ds
    | _ => none
  | _, _ => none
def lentOf : List Ag → List Nat
  | [] => []
  | .v _ :: as => lentOf as
  | .r i :: as => i :: lentOf as
def calE (F : FnS) (as : List Ag) : Ex := fun ρ => (args1 as ρ).bind fun xs ρ => match lend ρ xs with
  | none => .bad
  | some ss => match F ss with
    | .rt r outs => match giveBack ρ xs outs with
      | some ρ => .ok r ρ
      | none => .bad
    | .exc c outs => match giveBack ρ xs outs with
      | some ρ => .exc c ρ
      | none => .bad
    | .bad => .bad
/-- a def's own end: what it hands back, and the lent ones -/
def outsOf : List Sl → En → Option (List D)
  | [], _ => some []
  | .byr _ :: as, .byr d :: ρ => match outsOf as ρ with
    | some r => some (d :: r)
    | none => none
  | .byr _ :: _, _ => none
  | _ :: as, _ :: ρ => outsOf as ρ
  | _ :: _, [] => none
def backR (r : Rv) (ρ : En) : Option Rv := match r with
  | .val d => some (.val d)
  | .frs d => some (.frs d)
  | .slot i => match ρ[i]? with
    | some (.own d) => some (.frs d)
    | some (.val d) => some (.val d)
    | _ => none
def fnS (n : Nat) (body : Sm) : FnS := fun as => match body (as ++ List.replicate (n - as.length) .no) with
  | .rt r ρ => match backR r ρ, outsOf as ρ with
    | some r, some o => .rt r o
    | _, _ => .bad
  | .nx ρ => match outsOf as ρ with
    | some o => .rt (.val .none) o
    | none => .bad
  | .exc c ρ => match outsOf as ρ with
    | some o => .exc c o
    | none => .bad
  | _ => .bad

/-! ### try -/
/-- except clauses: the class named, the suite -/
def hndS (sub : Str → Str → Option Bool) (c : Str) (ρ : En) : List (Str × Sm) → RS
  | [] => .exc c ρ
  | (h, s) :: r => match sub c h with
    | some true => s ρ
    | some false => hndS sub c ρ r
    | none => .bad
def tryS (sub : Str → Str → Option Bool) (body : Sm) (hs : List (Str × Sm)) : Sm := fun ρ => match body ρ with
  | .exc c ρ => hndS sub c ρ hs
  | r => r
end Ev

set_option Elab.async false
set_option linter.all false
set_option maxRecDepth 100000
/-! EvR: how data lie in the abstract heap, and what a meaning promises of the code. -/
namespace Ev
open PySem PySem.Spec L2

mutual
inductive Rp (K : PySem.W.Frag) (S : Hp) : V → D → Prop
  | non : Rp K S .non .none
  | bl (b : Bool) : Rp K S (.bl b) (.bool b)
  | int (i : Int) : Rp K S (.int i) (.int i)
  | str (x : Str) : Rp K S (.str x) (.str x)
  | lst {a : Addr} {xs : List V} {ds : List D} : SqL K S a xs → RpA K S xs ds → Rp K S (.ref a) (.list ds)
  | tup {a : Addr} {xs : List V} {ds : List D} : SqT K S a xs → RpA K S xs ds → Rp K S (.ref a) (.tuple ds)
  | dk {a : Addr} {kvs : List (Key × V)} {ds : List (D × D)} : Rd S a (.dK kvs) → RpK K S kvs ds → Rp K S (.ref a) (.dict ds)
  | dt {a : Addr} {kvs : List (List Key × V)} {ds : List (D × D)} : Rd S a (.dT kvs) → ds ≠ [] → RpT K S kvs ds → Rp K S (.ref a) (.dict ds)
inductive RpA (K : PySem.W.Frag) (S : Hp) : List V → List D → Prop
  | nil : RpA K S [] []
  | cons {v : V} {vs : List V} {d : D} {ds : List D} : Rp K S v d → RpA K S vs ds → RpA K S (v :: vs) (d :: ds)
inductive RpK (K : PySem.W.Frag) (S : Hp) : List (Key × V) → List (D × D) → Prop
  | nil : RpK K S [] []
  | cons {k : Key} {v : V} {vs : List (Key × V)} {d : D} {ds : List (D × D)} : Rp K S v d → RpK K S vs ds → RpK K S ((k, v) :: vs) ((keyD k, d) :: ds)
inductive RpT (K : PySem.W.Frag) (S : Hp) : List (List Key × V) → List (D × D) → Prop
  | nil : RpT K S [] []
  | cons {k : List Key} {v : V} {vs : List (List Key × V)} {d : D} {ds : List (D × D)} : Rp K S v d → RpT K S vs ds → RpT K S ((k, v) :: vs) ((.tuple (k.map keyD), d) :: ds)
end

def Sub (S S' : Hp) : Prop := ∀ a o, S a = some o → S' a = some o
theorem Sub.refl (S : Hp) : Sub S S := fun _ _ h => h
theorem Sub.trans {S S' S'' : Hp} (a : Sub S S') (b : Sub S' S'') : Sub S S'' := fun c o h => b c o (a c o h)
theorem Sub.none {S S' : Hp} (h : Sub S S') {a : Addr} (e : S' a = none) : S a = none := by
  cases q : S a with
  | none => rfl
  | some o => rw [h a o q] at e; cases e
/-- what may be read is kept -/
def Pl : HO → Prop
  | .frz _ _ => False
  | _ => True
def Mo (S S' : Hp) : Prop := ∀ a u, Pl u → Rd S a u → Rd S' a u
theorem Sub.mo {S S' : Hp} (h : Sub S S') : Mo S S' := fun a u _ r => by
  rcases r with r | ⟨o, r⟩
  · exact .inl (h _ _ r)
  · exact .inr ⟨o, h _ _ r⟩
theorem Mo.sqL {K : PySem.W.Frag} {S S' : Hp} (m : Mo S S') {a : Addr} {xs : List V} (h : SqL K S a xs) : SqL K S' a xs := by
  rcases h with h | h
  · exact .inl (m _ _ trivial h)
  · exact .inr h
theorem Mo.sqT {K : PySem.W.Frag} {S S' : Hp} (m : Mo S S') {a : Addr} {xs : List V} (h : SqT K S a xs) : SqT K S' a xs := by
  rcases h with h | h
  · exact .inl (m _ _ trivial h)
  · exact .inr h

section
variable {K : PySem.W.Frag} {S S' : Hp}
mutual
theorem Rp.mo (m : Mo S S') : ∀ (d : D) (v : V), Rp K S v d → Rp K S' v d
  | .none, _, h => by cases h; exact .non
  | .bool b, _, h => by cases h; exact .bl b
  | .int i, _, h => by cases h; exact .int i
  | .str x, _, h => by cases h; exact .str x
  | .list ds, _, h => by
    cases h with
    | lst hs ha => exact .lst (m.sqL hs) (RpA.mo m ds _ ha)
  | .tuple ds, _, h => by
    cases h with
    | tup hs ha => exact .tup (m.sqT hs) (RpA.mo m ds _ ha)
  | .dict ds, _, h => by
    cases h with
    | dk hs ha => exact .dk (m _ _ trivial hs) (RpK.mo m ds _ ha)
    | dt hs hn ha => exact .dt (m _ _ trivial hs) hn (RpT.mo m ds _ ha)
theorem RpA.mo (m : Mo S S') : ∀ (ds : List D) (vs : List V), RpA K S vs ds → RpA K S' vs ds
  | [], _, h => by cases h; exact .nil
  | d :: ds, _, h => by
    cases h with
    | cons h1 h2 => exact .cons (Rp.mo m d _ h1) (RpA.mo m ds _ h2)
theorem RpK.mo (m : Mo S S') : ∀ (ds : List (D × D)) (vs : List (Key × V)), RpK K S vs ds → RpK K S' vs ds
  | [], _, h => by cases h; exact .nil
  | (k, d) :: ds, _, h => by
    cases h with
    | cons h1 h2 => exact .cons (Rp.mo m d _ h1) (RpK.mo m ds _ h2)
theorem RpT.mo (m : Mo S S') : ∀ (ds : List (D × D)) (vs : List (List Key × V)), RpT K S vs ds → RpT K S' vs ds
  | [], _, h => by cases h; exact .nil
  | (k, d) :: ds, _, h => by
    cases h with
    | cons h1 h2 => exact .cons (Rp.mo m d _ h1) (RpT.mo m ds _ h2)
end
theorem Rp.sub {v : V} {d : D} (h : Rp K S v d) (m : Sub S S') : Rp K S' v d := Rp.mo m.mo d v h
theorem RpA.sub {v : List V} {d : List D} (h : RpA K S v d) (m : Sub S S') : RpA K S' v d := RpA.mo m.mo d v h
theorem RpK.sub {v : List (Key × V)} {d : List (D × D)} (h : RpK K S v d) (m : Sub S S') : RpK K S' v d := RpK.mo m.mo d v h
theorem RpT.sub {v : List (List Key × V)} {d : List (D × D)} (h : RpT K S v d) (m : Sub S S') : RpT K S' v d := RpT.mo m.mo d v h
theorem RpA.length : ∀ {vs : List V} {ds : List D}, RpA K S vs ds → vs.length = ds.length
  | _, _, .nil => rfl
  | _, _, .cons _ t => by rw [List.length_cons, List.length_cons, RpA.length t]
theorem RpK.length : ∀ {vs : List (Key × V)} {ds : List (D × D)}, RpK K S vs ds → vs.length = ds.length
  | _, _, .nil => rfl
  | _, _, .cons _ t => by rw [List.length_cons, List.length_cons, RpK.length t]
theorem RpT.length : ∀ {vs : List (List Key × V)} {ds : List (D × D)}, RpT K S vs ds → vs.length = ds.length
  | _, _, .nil => rfl
  | _, _, .cons _ t => by rw [List.length_cons, List.length_cons, RpT.length t]
theorem RpA.get : ∀ {vs : List V} {ds : List D} {i : Nat} {d : D}, RpA K S vs ds → ds[i]? = some d → ∃ v, vs[i]? = some v ∧ Rp K S v d
  | _, _, _, _, .nil, e => by simp at e
  | _, _, 0, _, .cons r _, e => by simp at e; subst e; exact ⟨_, rfl, r⟩
  | _, _, i + 1, d, .cons _ t, e => by
    obtain ⟨v, h1, h2⟩ := RpA.get (i := i) (d := d) t (by simpa using e)
    exact ⟨v, by simpa using h1, h2⟩
theorem RpA.get' : ∀ {vs : List V} {ds : List D} {i : Nat} {v : V}, RpA K S vs ds → vs[i]? = some v → ∃ d, ds[i]? = some d ∧ Rp K S v d
  | _, _, _, _, .nil, e => by simp at e
  | _, _, 0, _, .cons r _, e => by simp at e; subst e; exact ⟨_, rfl, r⟩
  | _, _, i + 1, d, .cons _ t, e => by
    obtain ⟨v, h1, h2⟩ := RpA.get' (i := i) (v := d) t (by simpa using e)
    exact ⟨v, by simpa using h1, h2⟩
theorem RpA.append : ∀ {vs us : List V} {ds es : List D}, RpA K S vs ds → RpA K S us es → RpA K S (vs ++ us) (ds ++ es)
  | _, _, _, _, .nil, s => s
  | _, _, _, _, .cons r t, s => .cons r (RpA.append t s)
theorem RpA.set : ∀ {vs : List V} {ds : List D} (i : Nat) {v : V} {d : D}, Rp K S v d → RpA K S vs ds → RpA K S (vs.set i v) (ds.set i d)
  | _, _, _, _, _, _, .nil => .nil
  | _, _, 0, _, _, r, .cons _ t => .cons r t
  | _, _, i + 1, _, _, r, .cons q t => .cons q (RpA.set i r t)
theorem RpA.take : ∀ {vs : List V} {ds : List D} (n : Nat), RpA K S vs ds → RpA K S (vs.take n) (ds.take n)
  | _, _, 0, _ => .nil
  | _, _, _ + 1, .nil => .nil
  | _, _, n + 1, .cons r t => .cons r (RpA.take n t)
theorem RpA.drop : ∀ {vs : List V} {ds : List D} (n : Nat), RpA K S vs ds → RpA K S (vs.drop n) (ds.drop n)
  | _, _, 0, r => r
  | _, _, _ + 1, .nil => .nil
  | _, _, n + 1, .cons _ t => RpA.drop n t
theorem RpA.dropLast {vs : List V} {ds : List D} (h : RpA K S vs ds) : RpA K S vs.dropLast ds.dropLast := by
  rw [List.dropLast_eq_take, List.dropLast_eq_take, h.length]
  exact RpA.take _ h
theorem RpA.ints : ∀ {vs : List V} {ns : List Int}, RpA K S vs (ns.map PyData.int) → vs = ns.map V.int
  | _, [], h => by cases h; rfl
  | _, n :: ns, h => by
    cases h with
    | cons h1 h2 => cases h1; rw [RpA.ints h2]; rfl
end

/-- a mutable object at a, its items shared -/
inductive Top (K : PySem.W.Frag) (H S : Hp) (a : Addr) : D → Prop
  | lst {xs : List V} {ds : List D} : H a = some (.lst xs) → RpA K S xs ds → Top K H S a (.list ds)
  | dk {kvs : List (Key × V)} {ds : List (D × D)} : H a = some (.dK kvs) → RpK K S kvs ds → Top K H S a (.dict ds)
  | dt {kvs : List (List Key × V)} {ds : List (D × D)} : H a = some (.dT kvs) → ds ≠ [] → RpT K S kvs ds → Top K H S a (.dict ds)
section
variable {K : PySem.W.Frag} {H H' S S' : Hp} {a : Addr} {d : D}
theorem Top.at (t : Top K H S a d) (h : ∀ o, H a = some o → H' a = some o) (m : Sub S S') : Top K H' S' a d := by
  cases t with
  | lst e r => exact .lst (h _ e) (r.sub m)
  | dk e r => exact .dk (h _ e) (r.sub m)
  | dt e n r => exact .dt (h _ e) n (r.sub m)
theorem Top.there (t : Top K H S a d) : ∃ o, H a = some o ∧ Mut (some o) := by
  cases t with
  | lst e r => exact ⟨_, e, trivial⟩
  | dk e r => exact ⟨_, e, trivial⟩
  | dt e n r => exact ⟨_, e, trivial⟩
theorem Top.mo (t : Top K H S a d) (m : Mo S S') : Top K H S' a d := by
  cases t with
  | lst e r => exact .lst e (RpA.mo m _ _ r)
  | dk e r => exact .dk e (RpK.mo m _ _ r)
  | dt e n r => exact .dt e n (RpT.mo m _ _ r)
/-- where the object is shared, it is shared data -/
theorem Top.rp (t : Top K H S a d) (e : ∀ o, H a = some o → S a = some o) : Rp K S (.ref a) d := by
  cases t with
  | lst q r => exact .lst (.inl (.inl (e _ q))) r
  | dk q r => exact .dk (.inl (e _ q)) r
  | dt q n r => exact .dt (.inl (e _ q)) n r
end
/-- an operand: shared data, or a mutable object with shared items -/
inductive Pk (K : PySem.W.Frag) (H S : Hp) : V → D → Prop
  | sh {v : V} {d : D} : Rp K S v d → Pk K H S v d
  | ow {a : Addr} {d : D} : Top K H S a d → Pk K H S (.ref a) d
/-- .. is data in the whole heap -/
theorem Pk.rp {K : PySem.W.Frag} {H S : Hp} {v : V} {d : D} (h : Sub S H) (p : Pk K H S v d) : Rp K H v d := by
  cases p with
  | sh r => exact r.sub h
  | ow t => exact (t.at (fun _ e => e) h).rp fun _ e => e

/-! ### the state -/
structure G where
  H0 : Hp
  S0 : Hp
  /-- the lent objects, by the slots that hold them -/
  L : List (Nat × Addr)
def G.B (Γ : G) : List Addr := Γ.L.map (·.2)
def held : Sl → Bool
  | .own _ => true
  | .byr _ => true
  | _ => false
def SlOk (K : PySem.W.Frag) (Γ : G) (H S : Hp) (i : Nat) (o : Option V) : Sl → Prop
  | .no => True
  | .val d => ∃ v, o = some v ∧ Rp K S v d
  | .own d => ∃ a, o = some (.ref a) ∧ S a = none ∧ Γ.H0 a = none ∧ Top K H S a d
  | .byr d => ∃ a, o = some (.ref a) ∧ (i, a) ∈ Γ.L ∧ S a = none ∧ Top K H S a d
structure Rel (K : PySem.W.Frag) (Γ : G) (ρ : En) (σ : St) (H S : Hp) : Prop where
  sub : Sub S H
  s0 : Sub Γ.S0 S
  keep : ∀ a o, Γ.H0 a = some o → a ∉ Γ.B → H a = some o
  new : ∀ a o, S a = some o → Γ.S0 a = none → Γ.H0 a = none
  lent : ∀ a, a ∈ Γ.B → ∃ o, H a = some o
  len : ρ.length = σ.length
  sl : ∀ (i : Nat) s, ρ[i]? = some s → ∃ o, σ[i]? = some o ∧ SlOk K Γ H S i o s
  ap : ∀ (i j : Nat) s t a, ρ[i]? = some s → ρ[j]? = some t → held s = true → held t = true → σ[i]? = some (some (.ref a)) → σ[j]? = some (some (.ref a)) → i = j
/-- new objects alone -/
structure Grow (H S H' S' : Hp) : Prop where
  h : Sub H H'
  s : Sub S S'
  sh : Sub S' H'
  n : ∀ a o, S' a = some o → S a = none → H a = none
theorem Grow.refl {H S : Hp} (h : Sub S H) : Grow H S H S := ⟨.refl _, .refl _, h, fun a o e1 e2 => by rw [e1] at e2; cases e2⟩
theorem Grow.trans {H S H1 S1 H2 S2 : Hp} (a : Grow H S H1 S1) (b : Grow H1 S1 H2 S2) : Grow H S H2 S2 := by
  refine ⟨a.h.trans b.h, a.s.trans b.s, b.sh, fun x o e n => ?_⟩
  cases q : S1 x with
  | some u => exact a.n x u q n
  | none => exact a.h.none (b.n x o e q)
/-- a new object that is shared -/
theorem Grow.both {H S : Hp} {p : Addr} {o : HO} (h : Sub S H) (hp : H p = none) : Grow H S (upd H p o) (upd S p o) := by
  have ne : ∀ {a u}, H a = some u → a ≠ p := fun e z => by rw [z, hp] at e; cases e
  refine ⟨fun a u e => by rw [upd_ne (ne e)]; exact e, fun a u e => by rw [upd_ne (ne (h _ _ e))]; exact e, fun a u e => ?_, fun a u e n => ?_⟩
  · by_cases q : a = p
    · subst q; rw [upd_same] at e ⊢; exact e
    · rw [upd_ne q] at e ⊢; exact h _ _ e
  · by_cases q : a = p
    · subst q; exact hp
    · rw [upd_ne q, n] at e; cases e
/-- a new object that is not -/
theorem Grow.one {H S : Hp} {p : Addr} {o : HO} (h : Sub S H) (hp : H p = none) : Grow H S (upd H p o) S := by
  have ne : ∀ {a u}, H a = some u → a ≠ p := fun e z => by rw [z, hp] at e; cases e
  exact ⟨fun a u e => by rw [upd_ne (ne e)]; exact e, .refl _, fun a u e => by rw [upd_ne (ne (h _ _ e))]; exact h _ _ e, fun a u e n => by rw [n] at e; cases e⟩

section
variable {K : PySem.W.Frag} {Γ : G} {ρ : En} {σ : St} {H H' S S' : Hp}
theorem Rel.grow (R : Rel K Γ ρ σ H S) (g : Grow H S H' S') : Rel K Γ ρ σ H' S' := by
  refine ⟨g.sh, R.s0.trans g.s, fun a o e b => g.h _ _ (R.keep a o e b), fun a o e n => ?_, fun a b => let ⟨o, e⟩ := R.lent a b; ⟨o, g.h _ _ e⟩, R.len, fun i s e => ?_, R.ap⟩
  · cases q : S a with
    | some u => exact R.new a u q n
    | none =>
      have z := g.n a o e q
      cases w : Γ.H0 a with
      | none => rfl
      | some u =>
        by_cases b : a ∈ Γ.B
        · obtain ⟨o', e'⟩ := R.lent a b
          rw [e'] at z; cases z
        · rw [R.keep a u w b] at z; cases z
  · obtain ⟨o, h1, h2⟩ := R.sl i s e
    refine ⟨o, h1, ?_⟩
    cases s with
    | no => trivial
    | val d => obtain ⟨v, e, r⟩ := h2; exact ⟨v, e, r.sub g.s⟩
    | own d =>
      obtain ⟨a, e, n, z, t⟩ := h2
      refine ⟨a, e, ?_, z, t.at (fun _ q => g.h _ _ q) g.s⟩
      obtain ⟨u, hu, _⟩ := t.there
      cases q : S' a with
      | none => rfl
      | some w => rw [g.n a w q n] at hu; cases hu
    | byr d =>
      obtain ⟨a, e, b, n, t⟩ := h2
      refine ⟨a, e, b, ?_, t.at (fun _ q => g.h _ _ q) g.s⟩
      obtain ⟨u, hu, _⟩ := t.there
      cases q : S' a with
      | none => rfl
      | some w => rw [g.n a w q n] at hu; cases hu
end

/-! ### what a meaning promises -/
def RvOk (K : PySem.W.Frag) (Γ : G) (ρ : En) (σ : St) (H S : Hp) (v : V) : Rv → Prop
  | .val d => Rp K S v d
  | .slot i => σ[i]? = some (some v) ∧ ∃ s, ρ[i]? = some s ∧ s ≠ .no
  | .frs d => ∃ a, v = .ref a ∧ S a = none ∧ Γ.H0 a = none ∧ Top K H S a d ∧ ∀ (i : Nat) s, ρ[i]? = some s → held s = true → σ[i]? ≠ some (some (.ref a))
/-- behind a step: k where it went well, the wish W where an exception was raised -/
def Post {α : Type} (K : PySem.W.Frag) (W : WX) (cm : Str → Option Value) (Γ : G) (σ : St) (S : Hp) (r : RE α) (k : α → En → Hp → Hp → Prop) : Prop :=
  match r with
  | .ok a ρ => ∀ H' S', Sub S S' → Rel K Γ ρ σ H' S' → k a ρ H' S'
  | .exc c ρ => ∀ H' S', Sub S S' → Rel K Γ ρ σ H' S' → ∀ cls, cm c = some cls → W cls none σ H'
  | .bad => False
section
variable {K : PySem.W.Frag} {W : WX} {cm : Str → Option Value} {Γ : G} {σ : St} {S S' : Hp} {α β : Type}
theorem Post.sub {r : RE α} {k : α → En → Hp → Hp → Prop} (h : Post K W cm Γ σ S r k) (m : Sub S S') : Post K W cm Γ σ S' r k := by
  cases r with
  | ok a ρ => exact fun H1 S1 m1 R => h H1 S1 (m.trans m1) R
  | exc c ρ => exact fun H1 S1 m1 R => h H1 S1 (m.trans m1) R
  | bad => exact h
theorem Post.imp {r : RE α} {k k' : α → En → Hp → Hp → Prop} (h : Post K W cm Γ σ S r k) (q : ∀ a ρ H' S', r = .ok a ρ → Sub S S' → Rel K Γ ρ σ H' S' → k a ρ H' S' → k' a ρ H' S') : Post K W cm Γ σ S r k' := by
  cases r with
  | ok a ρ => exact fun H1 S1 m1 R => q a ρ H1 S1 rfl m1 R (h H1 S1 m1 R)
  | exc c ρ => exact h
  | bad => exact h
theorem Post.of_bind {r : RE α} {g : α → En → RE β} {k : β → En → Hp → Hp → Prop} (h : Post K W cm Γ σ S (r.bind g) k) :
    Post K W cm Γ σ S r fun a ρ H' S' => Sub S S' ∧ Rel K Γ ρ σ H' S' ∧ Post K W cm Γ σ S' (g a ρ) k := by
  cases r with
  | ok a ρ => exact fun H1 S1 m1 R => ⟨m1, R, Post.sub (r := g a ρ) h m1⟩
  | exc c ρ => exact h
  | bad => exact h
end
def tX (K : PySem.W.Frag) (W : WX) (cm : Str → Option Value) (f : Ex) : TE := fun σ H Q => ∃ Γ ρ S, Rel K Γ ρ σ H S ∧ Post K W cm Γ σ S (f ρ) fun r ρ H' S' => ∀ v, RvOk K Γ ρ σ H' S' v r → Q v H'
def tV (K : PySem.W.Frag) (W : WX) (cm : Str → Option Value) (f : En → RE D) : TE := fun σ H Q => ∃ Γ ρ S, Rel K Γ ρ σ H S ∧ Post K W cm Γ σ S (f ρ) fun d _ H' S' => ∀ v, Rp K S' v d → Q v H'
def tB' (K : PySem.W.Frag) (W : WX) (cm : Str → Option Value) (f : Tt) : TT := fun σ H Q => ∃ Γ ρ S, Rel K Γ ρ σ H S ∧ Post K W cm Γ σ S (f ρ) fun b _ H' _ => Q b H'
def tAs (K : PySem.W.Frag) (W : WX) (cm : Str → Option Value) (f : En → RE (List D)) : TA := fun σ H Q => ∃ Γ ρ S, Rel K Γ ρ σ H S ∧ Post K W cm Γ σ S (f ρ) fun ds _ H' S' => ∀ vs, RpA K S' vs ds → Q vs H'
abbrev SX (X : Cx) (W : WX) (e : Expr) (f : Ex) : Prop := PE X e (tX X.K W X.mg f)
abbrev SV (X : Cx) (W : WX) (e : Expr) (f : En → RE D) : Prop := PE X e (tV X.K W X.mg f)
abbrev ST (X : Cx) (W : WX) (e : Expr) (f : Tt) : Prop := PT X e (tB' X.K W X.mg f)
abbrev SA (X : Cx) (W : WX) (es : List Expr) (f : En → RE (List D)) : Prop := PA X es (tAs X.K W X.mg f)
/-- a stronger reading -/
theorem PE.imp {X : Cx} {e : Expr} {t u : TE} (h : PE X e t) (q : ∀ σ H Q, u σ H Q → t σ H Q) : PE X e u := ⟨fun pins s σ H Q I w => h.run pins s σ H Q I (q σ H Q w)⟩
theorem PT.imp {X : Cx} {e : Expr} {t u : TT} (h : PT X e t) (q : ∀ σ H Q, u σ H Q → t σ H Q) : PT X e u := ⟨fun pins s σ H Q I w => h.run pins s σ H Q I (q σ H Q w)⟩
theorem PW.imp {X : Cx} {e : Expr} {t u : TT} (h : PW X e t) (q : ∀ σ H Q, u σ H Q → t σ H Q) : PW X e u := ⟨fun wh pins s σ H Q I w => h.run wh pins s σ H Q I (q σ H Q w)⟩
theorem PA.imp {X : Cx} {e : List Expr} {t u : TA} (h : PA X e t) (q : ∀ σ H Q, u σ H Q → t σ H Q) : PA X e u := ⟨fun pos pins s σ H Q I w => h.run pos pins s σ H Q I (q σ H Q w)⟩
theorem PS.imp {X : Cx} {e : Stmt} {t u : TS} (h : PS X e t) (q : ∀ D σ H, u D σ H → t D σ H) : PS X e u := ⟨fun pins s σ H D I w => h.run pins s σ H D I (q D σ H w)⟩
theorem PSs.imp {X : Cx} {e : List Stmt} {t u : TS} (h : PSs X e t) (q : ∀ D σ H, u D σ H → t D σ H) : PSs X e u := ⟨fun pins s σ H D I w => h.run pins s σ H D I (q D σ H w)⟩

section
variable {K : PySem.W.Frag} {Γ : G} {ρ ρ' : En} {σ : St} {H H' S S' : Hp} {v : V} {r : Rv} {d : D}
/-- an object that is held apart becomes shared -/
theorem Rel.share {a : Addr} {o : HO} (R : Rel K Γ ρ σ H S) (ha : H a = some o) (hs : S a = none) (h0 : Γ.H0 a = none) (ap : ∀ (i : Nat) s, ρ[i]? = some s → held s = true → σ[i]? ≠ some (some (.ref a))) :
    Sub S (upd S a o) ∧ Rel K Γ ρ σ H (upd S a o) := by
  have m : Sub S (upd S a o) := fun b u e => by rw [upd_ne (fun z => by rw [z, hs] at e; cases e)]; exact e
  refine ⟨m, fun b u e => ?_, R.s0.trans m, R.keep, fun b u e n => ?_, R.lent, R.len, fun i s e => ?_, R.ap⟩
  · by_cases q : b = a
    · subst q; rw [upd_same] at e; cases e; exact ha
    · rw [upd_ne q] at e; exact R.sub _ _ e
  · by_cases q : b = a
    · subst q; exact h0
    · rw [upd_ne q] at e; exact R.new _ _ e n
  · obtain ⟨ov, h1, h2⟩ := R.sl i s e
    refine ⟨ov, h1, ?_⟩
    cases s with
    | no => trivial
    | val d => obtain ⟨v, e, r⟩ := h2; exact ⟨v, e, r.sub m⟩
    | own d =>
      obtain ⟨b, e', n, z, t⟩ := h2
      have hb : b ≠ a := fun q => ap i _ e rfl (by rw [h1, e', q])
      exact ⟨b, e', by rw [upd_ne hb]; exact n, z, t.at (fun _ q => q) m⟩
    | byr d =>
      obtain ⟨b, e', hB, n, t⟩ := h2
      have hb : b ≠ a := fun q => ap i _ e rfl (by rw [h1, e', q])
      exact ⟨b, e', hB, by rw [upd_ne hb]; exact n, t.at (fun _ q => q) m⟩
/-- a slot changes what it is said to hold -/
theorem Rel.reset {i : Nat} {s : Sl} (R : Rel K Γ ρ σ H S) (h : ∀ o, σ[i]? = some o → SlOk K Γ H S i o s) (hh : held s = true → ∃ t, ρ[i]? = some t ∧ held t = true) : Rel K Γ (ρ.set i s) σ H S := by
  have get : ∀ (j : Nat) t, (ρ.set i s)[j]? = some t → (j = i ∧ t = s ∧ i < ρ.length) ∨ (j ≠ i ∧ ρ[j]? = some t) := fun j t e => by
    by_cases q : i = j
    · subst q
      have hl : i < ρ.length := by
        have := (List.getElem?_eq_some_iff.mp e).1
        simpa using this
      rw [List.getElem?_set_self hl] at e
      cases e
      exact .inl ⟨rfl, rfl, hl⟩
    · rw [List.getElem?_set_ne q] at e
      exact .inr ⟨fun z => q z.symm, e⟩
  refine ⟨R.sub, R.s0, R.keep, R.new, R.lent, by rw [List.length_set]; exact R.len, fun j t e => ?_, fun j k t u a e1 e2 h1 h2 s1 s2 => ?_⟩
  · rcases get j t e with ⟨rfl, rfl, hl⟩ | ⟨_, e⟩
    · have hl' : j < σ.length := by rw [← R.len]; exact hl
      exact ⟨_, List.getElem?_eq_getElem hl', h _ (List.getElem?_eq_getElem hl')⟩
    · exact R.sl j t e
  · have old : ∀ (j : Nat) t, (ρ.set i s)[j]? = some t → held t = true → ∃ t', ρ[j]? = some t' ∧ held t' = true := fun j t e ht => by
      rcases get j t e with ⟨rfl, rfl, _⟩ | ⟨_, e⟩
      · exact hh ht
      · exact ⟨t, e, ht⟩
    obtain ⟨t', e1', h1'⟩ := old j t e1 h1
    obtain ⟨u', e2', h2'⟩ := old k u e2 h2
    exact R.ap j k t' u' a e1' e2' h1' h2' s1 s2
theorem close_ok (R : Rel K Γ ρ σ H S) (h : RvOk K Γ ρ σ H S v r) (e : close r ρ = .ok d ρ') : ∃ S', Sub S S' ∧ Rel K Γ ρ' σ H S' ∧ Rp K S' v d := by
  cases r with
  | val x =>
    have e : RE.ok x ρ = RE.ok d ρ' := e
    cases e
    exact ⟨S, .refl _, R, h⟩
  | frs x =>
    have e : RE.ok x ρ = RE.ok d ρ' := e
    cases e
    obtain ⟨a, rfl, hs, h0, t, ap⟩ := h
    obtain ⟨o, ho, _⟩ := t.there
    obtain ⟨m, R'⟩ := R.share ho hs h0 ap
    exact ⟨_, m, R', (t.at (fun _ q => q) m).rp fun o' q => by rw [ho] at q; cases q; exact upd_same⟩
  | slot i =>
    obtain ⟨hv, s, hs, hn⟩ := h
    unfold close at e
    simp only [hs] at e
    obtain ⟨o, h1, h2⟩ := R.sl i s hs
    rw [hv] at h1; cases h1
    cases s with
    | no => cases e
    | val x =>
      cases e
      obtain ⟨v', e', r⟩ := h2
      cases e'
      exact ⟨S, .refl _, R, r⟩
    | byr x => cases e
    | own x =>
      cases e
      obtain ⟨a, e', n, z, t⟩ := h2
      cases e'
      obtain ⟨o, ho, _⟩ := t.there
      -- first the slot says no more that it holds the object
      have R1 : Rel K Γ (ρ.set i .no) σ H S := R.reset (fun _ _ => trivial) fun q => by cases q
      have ap : ∀ (j : Nat) s, (ρ.set i .no)[j]? = some s → held s = true → σ[j]? ≠ some (some (.ref a)) := fun j s e hh q => by
        by_cases hj : i = j
        · subst hj
          have hl := (List.getElem?_eq_some_iff.mp hs).1
          rw [List.getElem?_set_self hl] at e
          cases e
          cases hh
        · rw [List.getElem?_set_ne hj] at e
          exact hj (R.ap i j _ s a hs e rfl hh hv q)
      obtain ⟨m, R2⟩ := R1.share ho n z ap
      have rp : Rp K (upd S a o) (.ref a) d := (t.at (fun _ q => q) m).rp fun o' q => by rw [ho] at q; cases q; exact upd_same
      refine ⟨_, m, ?_, rp⟩
      have R3 := R2.reset (i := i) (s := .val d) (fun o' q => by rw [hv] at q; cases q; exact ⟨_, rfl, rp⟩) fun q => by cases q
      rwa [List.set_set] at R3
/-- an operand as it stands -/
theorem peek_ok (R : Rel K Γ ρ σ H S) (h : RvOk K Γ ρ σ H S v r) (e : peek ρ r = some d) : Pk K H S v d := by
  cases r with
  | val x =>
    have e : some x = some d := e
    cases e
    exact .sh h
  | frs x =>
    have e : some x = some d := e
    cases e
    obtain ⟨a, rfl, hs, h0, t, ap⟩ := h
    exact .ow t
  | slot i =>
    obtain ⟨hv, s, hs, hn⟩ := h
    unfold peek at e
    simp only [hs] at e
    obtain ⟨o, h1, h2⟩ := R.sl i s hs
    rw [hv] at h1; cases h1
    cases s with
    | no => cases e
    | val x => cases e; obtain ⟨v', e', r⟩ := h2; cases e'; exact .sh r
    | byr x => cases e; obtain ⟨a, e', b, n, t⟩ := h2; cases e'; exact .ow t
    | own x => cases e; obtain ⟨a, e', n, z, t⟩ := h2; cases e'; exact .ow t
end
/-- an operand keeps through later steps -/
def Opd (K : PySem.W.Frag) (σ : St) (S : Hp) (v : V) : Rv → Prop
  | .val d => Rp K S v d
  | .slot i => σ[i]? = some (some v)
  | .frs _ => False
section
variable {K : PySem.W.Frag} {Γ : G} {ρ ρ' : En} {σ : St} {H H' S S' : Hp} {v : V} {r : Rv} {d : D}
theorem Opd.sub (h : Opd K σ S v r) (m : Sub S S') : Opd K σ S' v r := by
  cases r with
  | val d => exact Rp.sub (v := v) h m
  | slot i => exact h
  | frs d => exact h
theorem Opd.pk (R : Rel K Γ ρ σ H S) (h : Opd K σ S v r) (e : peek ρ r = some d) : Pk K H S v d := by
  cases r with
  | val x => exact peek_ok (Γ := Γ) R (r := .val x) h e
  | frs x => exact h.elim
  | slot i =>
    unfold peek at e
    cases q : ρ[i]? with
    | none => simp only [q] at e; cases e
    | some s =>
      refine peek_ok (Γ := Γ) R (r := .slot i) ⟨h, s, q, fun z => ?_⟩ (by unfold peek; exact e)
      subst z
      simp only [q] at e
      cases e
end
end Ev

set_option Elab.async false
set_option linter.all false
set_option maxRecDepth 100000
/-! EvX: expressions: each meaning's promise over HandS's rules. -/
namespace Ev
open PySem PySem.Spec L2
section
variable {X : Cx} {W : WX} {e a b c : Expr} {f fa fb fc : Ex} {pos : Pos}

theorem close_exc {r : Rv} {ρ ρ' : En} {c : Str} (h : close r ρ = .exc c ρ') : False := by
  cases r with
  | val d => cases h
  | frs d => cases h
  | slot i =>
    unfold close at h
    cases q : ρ[i]? with
    | none => simp only [q] at h; cases h
    | some s => cases s <;> simp only [q] at h <;> cases h
theorem sv_clo (h : SX X W e f) : SV X W e (clo f) := by
  refine PE.imp h fun σ H Q ⟨Γ, ρ, S, R, p⟩ => ⟨Γ, ρ, S, R, Post.imp (Post.of_bind p) fun r ρ1 H1 S1 _ m1 R1 k v hv => ?_⟩
  obtain ⟨_, _, k⟩ := k
  cases q : close r ρ1 with
  | ok d ρ2 =>
    rw [q] at k
    obtain ⟨S2, m2, R2, rp⟩ := close_ok R1 hv q
    exact k _ S2 m2 R2 v rp
  | exc c ρ2 => exact (close_exc q).elim
  | bad => rw [q] at k; exact k.elim
/-- an operand -/
def tO (K : PySem.W.Frag) (W : WX) (cm : Str → Option Value) (f : Ex) : TE := fun σ H Q => ∃ Γ ρ S, Rel K Γ ρ σ H S ∧ Post K W cm Γ σ S (f ρ) fun r _ H' S' => ∀ v, Opd K σ S' v r → Q v H'
abbrev SO (X : Cx) (W : WX) (e : Expr) (f : Ex) : Prop := PE X e (tO X.K W X.mg f)
theorem so_opn (h : SX X W e f) : SO X W e (opn f) := by
  refine PE.imp h fun σ H Q ⟨Γ, ρ, S, R, p⟩ => ⟨Γ, ρ, S, R, Post.imp (Post.of_bind p) fun r ρ1 H1 S1 _ m1 R1 k v hv => ?_⟩
  obtain ⟨_, _, k⟩ := k
  cases r with
  | val d => exact k H1 S1 (.refl _) R1 v hv
  | slot i => exact k H1 S1 (.refl _) R1 v hv.1
  | frs d =>
    obtain ⟨S2, m2, R2, rp⟩ := close_ok R1 hv rfl
    exact k _ S2 m2 R2 v rp
/-- a value as a general end -/
theorem sx_val {d : D} {v : V} (h : PE X e (tC v)) (hv : ∀ S, Rp X.K S v d) : SX X W e (cst d) := by
  refine PE.imp h fun σ H Q ⟨Γ, ρ, S, R, p⟩ => ?_
  exact p H S (.refl _) R v (hv _)
theorem sx_int {i j} : SX X W (.Constant (.int i) j pos) (cst (.int i)) := sx_val pe_int fun _ => .int i
theorem sx_bl {i j} : SX X W (.Constant (.bool i) j pos) (cst (.bool i)) := sx_val pe_bl fun _ => .bl i
theorem sx_non {j} : SX X W (.Constant .none j pos) (cst .none) := sx_val pe_non fun _ => .non
theorem sx_str {x j} : SX X W (.Constant (.str x) j pos) (cst (.str x)) := sx_val pe_str fun _ => .str x
theorem sx_glob {x : Str} {v : V} {d : D} (u : Value) (hg : Gl X x) (hm : X.mg x = some u) (r : RelV v u) (hv : ∀ S, Rp X.K S v d) (hd : (x == ("__debug__" : Str)) = false := by decide) : SX X W (.Name x pos) (cst d) := sx_val (pe_glob hg hm r hd) hv
theorem sx_var (i : Nat) {x : Str} (hN : X.N[i]? = some x := by rfl) (hv : Vis X.env.scope x := by first | exact Or.inl rfl | exact Or.inr (Or.inl rfl) | exact Or.inr (Or.inr rfl)) (hd : (x == ("__debug__" : Str)) = false := by decide)
    (hcd : (x == ("__classdict__" : Str)) = false := by decide) : SX X W (.Name x pos) (var i) := by
  refine PE.imp (pe_var hN hv hd hcd) fun σ H Q ⟨Γ, ρ, S, R, p⟩ => ?_
  unfold var at p
  cases q : ρ[i]? with
  | none => simp only [q] at p; exact p.elim
  | some s =>
    obtain ⟨o, h1, h2⟩ := R.sl i s q
    cases s with
    | no => simp only [q] at p; exact p.elim
    | val d =>
      simp only [q] at p
      obtain ⟨v, e, r⟩ := h2
      subst e
      exact ⟨v, h1, p H S (.refl _) R v r⟩
    | own d =>
      simp only [q] at p
      obtain ⟨a, e, _⟩ := h2
      subst e
      exact ⟨_, h1, p H S (.refl _) R _ ⟨h1, _, q, fun z => by cases z⟩⟩
    | byr d =>
      simp only [q] at p
      obtain ⟨a, e, _⟩ := h2
      subst e
      exact ⟨_, h1, p H S (.refl _) R _ ⟨h1, _, q, fun z => by cases z⟩⟩

/-! ### operators -/
/-- what an operator on data gives: a value or a new object -/
def RvN (K : PySem.W.Frag) (H H' S' : Hp) (v : V) : Rv → Prop
  | .val d => Rp K S' v d
  | .frs d => ∃ a, v = .ref a ∧ H a = none ∧ S' a = none ∧ Top K H' S' a d
  | .slot _ => False
def Out (K : PySem.W.Frag) (H S : Hp) (Q : VK) (r : Rv) : Prop := ∀ v H' S', Grow H S H' S' → RvN K H H' S' v r → Q v H'
theorem rvN_ok {K : PySem.W.Frag} {Γ : G} {ρ : En} {σ : St} {H H' S S' : Hp} {v : V} {r : Rv} (R : Rel K Γ ρ σ H S) (h : RvN K H H' S' v r) : RvOk K Γ ρ σ H' S' v r := by
  cases r with
  | val d => exact h
  | slot i => exact h.elim
  | frs d =>
    obtain ⟨a, e, n, n', t⟩ := h
    refine ⟨a, e, n', ?_, t, fun i s hs hh q => ?_⟩
    · cases w : Γ.H0 a with
      | none => rfl
      | some u =>
        by_cases b : a ∈ Γ.B
        · obtain ⟨o, eo⟩ := R.lent a b
          rw [eo] at n; cases n
        · rw [R.keep a u w b] at n; cases n
    · obtain ⟨o, h1, h2⟩ := R.sl i s hs
      rw [q] at h1; cases h1
      cases s with
      | no => cases hh
      | val d => cases hh
      | own d =>
        obtain ⟨a', e', _, _, t'⟩ := h2
        cases e'
        obtain ⟨o, ho, _⟩ := t'.there
        rw [n] at ho; cases ho
      | byr d =>
        obtain ⟨a', e', _, _, t'⟩ := h2
        cases e'
        obtain ⟨o, ho, _⟩ := t'.there
        rw [n] at ho; cases ho
/-- from the ends of data operators to the ends of meanings -/
theorem out_of {K : PySem.W.Frag} {W : WX} {cm : Str → Option Value} {Γ : G} {ρ : En} {σ : St} {H S : Hp} {Q : VK} {o : Option Rv} (R : Rel K Γ ρ σ H S)
    (p : Post K W cm Γ σ S (RE.of o ρ) fun r ρ H' S' => ∀ v, RvOk K Γ ρ σ H' S' v r → Q v H') : ∃ r, o = some r ∧ Out K H S Q r := by
  cases o with
  | none => exact p.elim
  | some r => exact ⟨r, rfl, fun v H' S' g h => p H' S' g.s (R.grow g) v (rvN_ok R h)⟩
/-- an operator's rule and what it means on data -/
structure OpOk (X : Cx) (F : Value → Value → Sem Value) (op : D → D → Option Rv) where
  r : R2
  rule : OpR X F r
  sem : ∀ (x y : V) (H S : Hp) (d1 d2 : D) (rv : Rv) (Q : VK), Sub S H → Pk X.K H S x d1 → Pk X.K H S y d2 → op d1 d2 = some rv → Out X.K H S Q rv → r x y H Q
theorem op2_core {r : R2} {op : D → D → Option Rv} (sem : ∀ (x y : V) (H S : Hp) (d1 d2 : D) (rv : Rv) (Q : VK), Sub S H → Pk X.K H S x d1 → Pk X.K H S y d2 → op d1 d2 = some rv → Out X.K H S Q rv → r x y H Q)
    {σ : St} {H : Hp} {Q : VK} (h : tX X.K W X.mg (op2 op fa fb) σ H Q) : tOp r (tO X.K W X.mg (opn fa)) (tO X.K W X.mg (opn fb)) σ H Q := by
  obtain ⟨Γ, ρ, S, R, p⟩ := h
  refine ⟨Γ, ρ, S, R, Post.imp (Post.of_bind p) fun ra ρ1 H1 S1 _ m1 R1 k x hx => ⟨Γ, ρ1, S1, R1, Post.imp (Post.of_bind k.2.2) fun rb ρ2 H2 S2 _ m2 R2 k2 y hy => ?_⟩⟩
  obtain ⟨_, _, k2⟩ := k2
  cases e1 : peek ρ2 ra with
  | none => simp only [e1] at k2; exact k2.elim
  | some d1 =>
    cases e2 : peek ρ2 rb with
    | none => simp only [e1, e2] at k2; exact k2.elim
    | some d2 =>
      simp only [e1, e2] at k2
      obtain ⟨rv, e, o⟩ := out_of R2 k2
      exact sem x y H2 S2 d1 d2 rv Q R2.sub ((hx.sub m2).pk R2 e1) (hy.pk R2 e2) e o
theorem sx_bin {op : Operator} {g : D → D → Option Rv} (ho : OpOk X (binaryOp op) g) (ha : SX X W a fa) (hb : SX X W b fb) : SX X W (.BinOp a op b pos) (op2 g fa fb) :=
  PE.imp (pe_op ho.rule (so_opn ha) (so_opn hb)) fun _ _ _ h => op2_core ho.sem h
theorem sx_cmp {op : CmpOp} {g : D → D → Option Rv} (ho : OpOk X (compareOp op) g) (ha : SX X W a fa) (hb : SX X W b fb) (hm : behindInMarks op b = false) : SX X W (.Compare a [op] [b] pos) (op2 g fa fb) :=
  PE.imp (pe_cmpR ho.rule (so_opn ha) (so_opn hb) hm) fun _ _ _ h => op2_core ho.sem h
theorem blT_core {t : TE} {σ : St} {H : Hp} {Q : Bool → Hp → Prop} (h : tB' X.K W X.mg (blT f) σ H Q) : tX X.K W X.mg f σ H fun x H' => ∃ k, x = .bl k ∧ Q k H' := by
  obtain ⟨Γ, ρ, S, R, p⟩ := h
  refine ⟨Γ, ρ, S, R, ?_⟩
  unfold blT clo at p
  cases q : f ρ with
  | ok r ρ1 =>
    rw [q] at p
    intro H1 S1 m1 R1 v hv
    cases q2 : close r ρ1 with
    | ok d ρ2 =>
      simp only [RE.bind_ok, q2] at p
      obtain ⟨S2, m2, R2, rp⟩ := close_ok R1 hv q2
      cases d with
      | bool k => cases rp; exact ⟨k, rfl, p H1 S2 (m1.trans m2) R2⟩
      | _ => exact p.elim
    | exc c ρ2 => exact (close_exc q2).elim
    | bad => simp only [RE.bind_ok, q2] at p; exact p.elim
  | exc c ρ1 => rw [q] at p; exact p
  | bad => rw [q] at p; exact p
theorem st_cmp {op : CmpOp} {g : D → D → Option Rv} (ho : OpOk X (compareOp op) g) (ha : SX X W a fa) (hb : SX X W b fb) (hm : behindInMarks op b = false) : ST X W (.Compare a [op] [b] pos) (blT (op2 g fa fb)) :=
  PT.imp (pt_cmpR ho.rule (so_opn ha) (so_opn hb) hm) fun _ _ _ h => op2_core ho.sem (blT_core (t := tC .non) h)
/-- an expression that gives a bool, as a test -/
theorem st_bl (ha : SX X W a fa) (he : ∀ whole, isTrue a X.env whole = (do let v ← whole; standAt a.pos; holding [v] (truthy v)) := by intro _; rfl) : ST X W a (blT fa) :=
  PT.imp (pt_val ha he) fun _ _ _ h => blT_core (t := tC .non) h
theorem tru_rp {K : PySem.W.Frag} {H S : Hp} {v : V} {d : D} {k : Bool} (m : Sub S H) (p : Pk K H S v d) (e : truD d = some k) : TruV K v H k := by
  have r := p.rp m
  cases d with
  | none => cases r; cases e; rfl
  | bool b => cases r; cases e; rfl
  | int i => cases r; cases e; rfl
  | str x =>
    cases r
    simp only [truD] at e
    by_cases h : x.length ≤ sizeLine
    · rw [if_pos h] at e; cases e; exact ⟨h, rfl⟩
    · rw [if_neg h] at e; cases e
  | list xs =>
    cases r with
    | lst hs ha =>
      cases e
      refine .inl ⟨_, hs, ?_⟩
      cases ha <;> rfl
  | tuple xs =>
    cases r with
    | tup hs ha =>
      cases e
      refine .inr (.inl ⟨_, hs, ?_⟩)
      cases ha <;> rfl
  | dict _ => cases e
theorem st_tru (ha : SX X W a fa) (he : ∀ whole, isTrue a X.env whole = (do let v ← whole; standAt a.pos; holding [v] (truthy v)) := by intro _; rfl) : ST X W a (truT fa) := by
  refine PT.imp (pt_truth (so_opn ha) he) fun σ H Q ⟨Γ, ρ, S, R, p⟩ => ⟨Γ, ρ, S, R, Post.imp (Post.of_bind p) fun r ρ1 H1 S1 _ m1 R1 k v hv => ?_⟩
  obtain ⟨_, _, k⟩ := k
  cases e : peek ρ1 r with
  | none => simp only [e] at k; exact k.elim
  | some d =>
    simp only [e] at k
    cases e2 : truD d with
    | none => rw [e2] at k; exact k.elim
    | some b =>
      rw [e2] at k
      exact ⟨b, tru_rp R1.sub (hv.pk R1 e) e2, k H1 S1 (.refl _) R1⟩
abbrev SW (X : Cx) (W : WX) (e : Expr) (f : Tt) : Prop := PW X e (tB' X.K W X.mg f)
variable {ta tb : Tt} {rest : List Expr}
theorem sw_and1 (ha : ST X W a ta) : SW X W (.BoolOp .And [a] pos) ta := pw_and1 ha
theorem sw_or1 (ha : ST X W a ta) : SW X W (.BoolOp .Or [a] pos) ta := pw_or1 ha
theorem sw_and (ha : ST X W a ta) (hb : SW X W (.BoolOp .And (b :: rest) pos) tb) : SW X W (.BoolOp .And (a :: b :: rest) pos) (andT ta tb) := by
  refine PW.imp (pw_and ha hb) fun σ H Q ⟨Γ, ρ, S, R, p⟩ => ⟨Γ, ρ, S, R, Post.imp (Post.of_bind p) fun c ρ1 H1 S1 _ m1 R1 k => ?_⟩
  obtain ⟨_, _, k⟩ := k
  cases c with
  | true => rw [if_pos rfl] at k ⊢; exact ⟨Γ, ρ1, S1, R1, k⟩
  | false => rw [if_neg Bool.false_ne_true] at k ⊢; exact k H1 S1 (.refl _) R1
theorem sw_or (ha : ST X W a ta) (hb : SW X W (.BoolOp .Or (b :: rest) pos) tb) : SW X W (.BoolOp .Or (a :: b :: rest) pos) (orT ta tb) := by
  refine PW.imp (pw_or ha hb) fun σ H Q ⟨Γ, ρ, S, R, p⟩ => ⟨Γ, ρ, S, R, Post.imp (Post.of_bind p) fun c ρ1 H1 S1 _ m1 R1 k => ?_⟩
  obtain ⟨_, _, k⟩ := k
  cases c with
  | true => rw [if_pos rfl] at k ⊢; exact k H1 S1 (.refl _) R1
  | false => rw [if_neg Bool.false_ne_true] at k ⊢; exact ⟨Γ, ρ1, S1, R1, k⟩
theorem st_not (ha : ST X W a ta) : ST X W (.UnaryOp .Not a pos) (notT ta) := by
  refine PT.imp (pt_not ha) fun σ H Q ⟨Γ, ρ, S, R, p⟩ => ⟨Γ, ρ, S, R, Post.imp (Post.of_bind p) fun c ρ1 H1 S1 _ m1 R1 k => ?_⟩
  exact k.2.2 H1 S1 (.refl _) R1
theorem sx_ite {t : Tt} (hc : ST X W c t) (ha : SX X W a fa) (hb : SX X W b fb) : SX X W (.IfExp c a b pos) (iteE t fa fb) := by
  refine PE.imp (pe_ifExp hc ha hb) fun σ H Q ⟨Γ, ρ, S, R, p⟩ => ⟨Γ, ρ, S, R, Post.imp (Post.of_bind p) fun c ρ1 H1 S1 _ m1 R1 k => ?_⟩
  obtain ⟨_, _, k⟩ := k
  cases c with
  | true => rw [if_pos rfl] at k ⊢; exact ⟨Γ, ρ1, S1, R1, k⟩
  | false => rw [if_neg Bool.false_ne_true] at k ⊢; exact ⟨Γ, ρ1, S1, R1, k⟩
theorem bool_rp {K : PySem.W.Frag} {S : Hp} {v : V} {b : Bool} (h : Rp K S v (.bool b)) : v = .bl b := by cases h; rfl
theorem sx_one {op} (h : SX X W a fa) : SX X W (.BoolOp op [a] pos) fa := pe_one h
theorem sx_and (ha : SX X W a fa) (hb : SX X W (.BoolOp .And (b :: rest) pos) fb) : SX X W (.BoolOp .And (a :: b :: rest) pos) (andE fa fb) := by
  refine PE.imp (pe_and (sv_clo ha) hb) fun σ H Q ⟨Γ, ρ, S, R, p⟩ => ⟨Γ, ρ, S, R, Post.imp (Post.of_bind p) fun d ρ1 H1 S1 _ m1 R1 k v hv => ?_⟩
  obtain ⟨_, _, k⟩ := k
  cases d with
  | bool c =>
    rw [bool_rp hv]
    refine ⟨c, rfl, ?_⟩
    cases c with
    | true => rw [if_pos rfl]; exact ⟨Γ, ρ1, S1, R1, k⟩
    | false => rw [if_neg Bool.false_ne_true]; exact k H1 S1 (.refl _) R1 _ (.bl false)
  | _ => exact k.elim
theorem sx_or (ha : SX X W a fa) (hb : SX X W (.BoolOp .Or (b :: rest) pos) fb) : SX X W (.BoolOp .Or (a :: b :: rest) pos) (orE fa fb) := by
  refine PE.imp (pe_or (sv_clo ha) hb) fun σ H Q ⟨Γ, ρ, S, R, p⟩ => ⟨Γ, ρ, S, R, Post.imp (Post.of_bind p) fun d ρ1 H1 S1 _ m1 R1 k v hv => ?_⟩
  obtain ⟨_, _, k⟩ := k
  cases d with
  | bool c =>
    rw [bool_rp hv]
    refine ⟨c, rfl, ?_⟩
    cases c with
    | true => rw [if_pos rfl]; exact k H1 S1 (.refl _) R1 _ (.bl true)
    | false => rw [if_neg Bool.false_ne_true]; exact ⟨Γ, ρ1, S1, R1, k⟩
  | _ => exact k.elim
theorem sx_not (ha : SX X W a fa) : SX X W (.UnaryOp .Not a pos) (notE fa) := by
  refine PE.imp (pe_not (sv_clo ha)) fun σ H Q ⟨Γ, ρ, S, R, p⟩ => ⟨Γ, ρ, S, R, Post.imp (Post.of_bind p) fun d ρ1 H1 S1 _ m1 R1 k v hv => ?_⟩
  obtain ⟨_, _, k⟩ := k
  cases d with
  | bool c => rw [bool_rp hv]; exact ⟨c, rfl, k H1 S1 (.refl _) R1 _ (.bl _)⟩
  | _ => exact k.elim
/-- an operator whose answer is a bool and which makes nothing -/
structure CmpOk (X : Cx) (F : Value → Value → Sem Value) (op : D → D → Option Rv) extends OpOk X F op where
  bl : ∀ x y rv, op x y = some rv → ∃ b, rv = .val (.bool b)
theorem chn_core {r r' : R2} {g g' : D → D → Option Rv} (bl : ∀ x y rv, g x y = some rv → ∃ b, rv = .val (.bool b))
    (sem : ∀ (x y : V) (H S : Hp) (d1 d2 : D) (rv : Rv) (Q : VK), Sub S H → Pk X.K H S x d1 → Pk X.K H S y d2 → g d1 d2 = some rv → Out X.K H S Q rv → r x y H Q)
    (sem' : ∀ (x y : V) (H S : Hp) (d1 d2 : D) (rv : Rv) (Q : VK), Sub S H → Pk X.K H S x d1 → Pk X.K H S y d2 → g' d1 d2 = some rv → Out X.K H S Q rv → r' x y H Q)
    {σ : St} {H : Hp} {Q : VK} (h : tX X.K W X.mg (chnE g g' fa fb fc) σ H Q) : tChain r r' (tO X.K W X.mg (opn fa)) (tO X.K W X.mg (opn fb)) (tO X.K W X.mg (opn fc)) σ H Q := by
  obtain ⟨Γ, ρ, S, R, p⟩ := h
  refine ⟨Γ, ρ, S, R, Post.imp (Post.of_bind p) fun ra ρ1 H1 S1 _ m1 R1 k x hx => ⟨Γ, ρ1, S1, R1, Post.imp (Post.of_bind k.2.2) fun rb ρ2 H2 S2 _ m2 R2 k2 y hy => ?_⟩⟩
  obtain ⟨_, _, k2⟩ := k2
  cases e1 : peek ρ2 ra with
  | none => simp only [e1] at k2; exact k2.elim
  | some d1 =>
    cases e2 : peek ρ2 rb with
    | none => simp only [e1, e2] at k2; exact k2.elim
    | some d2 =>
      simp only [e1, e2] at k2
      cases e3 : g d1 d2 with
      | none => simp only [e3] at k2; exact k2.elim
      | some rv =>
        obtain ⟨b, rfl⟩ := bl _ _ _ e3
        refine sem x y H2 S2 d1 d2 _ _ R2.sub ((hx.sub m2).pk R2 e1) (hy.pk R2 e2) e3 fun v H3 S3 gr hv => ?_
        have R3 := R2.grow gr
        refine ⟨b, bool_rp hv, ?_⟩
        simp only [e3] at k2
        cases b with
        | false => rw [if_neg Bool.false_ne_true]; exact k2 H3 S3 gr.s R3 _ (.bl false)
        | true =>
          rw [if_pos rfl]
          refine ⟨Γ, ρ2, S3, R3, Post.imp (Post.of_bind (Post.sub k2 gr.s)) fun ru ρ4 H4 S4 _ m4 R4 k4 u hu => ?_⟩
          obtain ⟨_, _, k4⟩ := k4
          cases e4 : peek ρ4 rb with
          | none => simp only [e4] at k4; exact k4.elim
          | some d4 =>
            cases e5 : peek ρ4 ru with
            | none => simp only [e4, e5] at k4; exact k4.elim
            | some d5 =>
              simp only [e4, e5] at k4
              obtain ⟨rv, e, o⟩ := out_of R4 k4
              exact sem' y u H4 S4 d4 d5 rv Q R4.sub (((hy.sub gr.s).sub m4).pk R4 e4) (hu.pk R4 e5) e o
theorem sx_chn {op op' : CmpOp} {g g' : D → D → Option Rv} (ho : CmpOk X (compareOp op) g) (ho' : OpOk X (compareOp op') g') (ha : SX X W a fa) (hb : SX X W b fb) (hc : SX X W c fc)
    (hm : lastMarks [op, op'] [b, c] = false := by with_unfolding_all rfl) : SX X W (.Compare a [op, op'] [b, c] pos) (chnE g g' fa fb fc) :=
  PE.imp (pe_chain ho.rule ho'.rule (so_opn ha) (so_opn hb) (so_opn hc) hm) fun _ _ _ h => chn_core ho.bl ho.sem ho'.sem h
theorem st_chn {op op' : CmpOp} {g g' : D → D → Option Rv} (ho : CmpOk X (compareOp op) g) (ho' : OpOk X (compareOp op') g') (ha : SX X W a fa) (hb : SX X W b fb) (hc : SX X W c fc)
    (hm : lastMarks [op, op'] [b, c] = false := by with_unfolding_all rfl) : ST X W (.Compare a [op, op'] [b, c] pos) (blT (chnE g g' fa fb fc)) :=
  PT.imp (pt_chain ho.rule ho'.rule (so_opn ha) (so_opn hb) (so_opn hc) hm) fun _ _ _ h => chn_core ho.bl ho.sem ho'.sem (blT_core (t := tC .non) h)

/-! ### lists of arguments, displays -/
variable {es : List Expr} {fs : List Ex}
theorem sa_nil : SA X W [] (clos []) := PA.imp pa_nil fun σ H Q ⟨Γ, ρ, S, R, p⟩ => p H S (.refl _) R [] .nil
theorem sa_cons (ha : SX X W a fa) (hr : SA X W es (clos fs)) (hs : starEach (a :: es) X.env = (false, eval a X.env) :: starEach es X.env := by rfl) : SA X W (a :: es) (clos (fa :: fs)) := by
  refine PA.imp (pa_cons (sv_clo ha) hr hs) fun σ H Q ⟨Γ, ρ, S, R, p⟩ => ⟨Γ, ρ, S, R, Post.imp (Post.of_bind p) fun d ρ1 H1 S1 _ m1 R1 k v hv => ⟨Γ, ρ1, S1, R1, Post.imp (Post.of_bind k.2.2) fun ds ρ2 H2 S2 _ m2 R2 k2 vs hvs => ?_⟩⟩
  exact k2.2.2 H2 S2 (.refl _) R2 _ (.cons (hv.sub m2) hvs)
theorem sx_tup {k} (h : SA X W es (clos fs)) (hl : decide (fs.length ≤ 1000) = true := by decide) : SX X W (.Tuple es k pos) (tupE fs) := by
  refine PE.imp (pe_tup h) fun σ H Q ⟨Γ, ρ, S, R, p⟩ => ⟨Γ, ρ, S, R, Post.imp (Post.of_bind p) fun ds ρ1 H1 S1 e1 m1 R1 k vs hvs => ?_⟩
  obtain ⟨_, _, k⟩ := k
  refine ⟨?_, fun p hp => ?_⟩
  · have : ∀ (fs : List Ex) (ρ : En) ds ρ', clos fs ρ = .ok ds ρ' → ds.length = fs.length := by
      intro fs
      induction fs with
      | nil => intro ρ ds ρ' e; cases e; rfl
      | cons f fs ih =>
        intro ρ ds ρ' e
        unfold clos at e
        cases q : clo f ρ with
        | ok d ρ1 =>
          rw [q] at e
          simp only [RE.bind_ok] at e
          cases q2 : clos fs ρ1 with
          | ok ds' ρ2 => rw [q2] at e; cases e; rw [List.length_cons, List.length_cons, ih _ _ _ q2]
          | exc c ρ2 => rw [q2] at e; cases e
          | bad => rw [q2] at e; cases e
        | exc c ρ1 => rw [q] at e; cases e
        | bad => rw [q] at e; cases e
    have hl := of_decide_eq_true hl
    rw [hvs.length, this _ _ _ _ e1]
    have : (1000 : Nat) ≤ sizeLine := by rw [sizeLine_eq]; decide
    omega
  · have g := Grow.both (o := .tup vs) R1.sub hp
    exact k _ _ g.s (R1.grow g) _ (.tup (.inl (.inl upd_same)) (hvs.sub g.s))
theorem clos_len : ∀ (fs : List Ex) (ρ : En) ds ρ', clos fs ρ = .ok ds ρ' → ds.length = fs.length := by
  intro fs
  induction fs with
  | nil => intro ρ ds ρ' e; cases e; rfl
  | cons f fs ih =>
    intro ρ ds ρ' e
    unfold clos at e
    cases q : clo f ρ with
    | ok d ρ1 =>
      rw [q] at e
      simp only [RE.bind_ok] at e
      cases q2 : clos fs ρ1 with
      | ok ds' ρ2 => rw [q2] at e; cases e; rw [List.length_cons, List.length_cons, ih _ _ _ q2]
      | exc c ρ2 => rw [q2] at e; cases e
      | bad => rw [q2] at e; cases e
    | exc c ρ1 => rw [q] at e; cases e
    | bad => rw [q] at e; cases e
theorem sx_lst (h : SA X W es (clos fs)) (hl : decide (fs.length ≤ 1000) = true := by decide) : SX X W (.List es pos) (lstE fs) := by
  refine PE.imp (pe_lst h) fun σ H Q ⟨Γ, ρ, S, R, p⟩ => ⟨Γ, ρ, S, R, Post.imp (Post.of_bind p) fun ds ρ1 H1 S1 e1 m1 R1 k vs hvs => ?_⟩
  obtain ⟨_, _, k⟩ := k
  refine ⟨?_, fun p hp => ?_⟩
  · have hl := of_decide_eq_true hl
    rw [hvs.length, clos_len _ _ _ _ e1]
    have : (1000 : Nat) ≤ sizeLine := by rw [sizeLine_eq]; decide
    omega
  · have g := Grow.one (o := .lst vs) R1.sub hp
    exact k _ _ g.s (R1.grow g) _ (rvN_ok R1 (r := .frs _) ⟨p, rfl, hp, R1.sub.none hp, .lst upd_same hvs⟩)
theorem sx_newD : SX X W (.Dict [] [] pos) newD := by
  refine PE.imp pe_dnewK fun σ H Q ⟨Γ, ρ, S, R, k⟩ p hp => ?_
  have g := Grow.one (o := .dK []) R.sub hp
  exact k _ _ g.s (R.grow g) _ (rvN_ok R (r := .frs _) ⟨p, rfl, hp, R.sub.none hp, .dk upd_same .nil⟩)
end
end Ev

set_option Elab.async false
set_option linter.all false
set_option maxRecDepth 100000
/-! EvO: operators on data. -/
namespace Ev
open PySem PySem.Spec L2
theorem OpR.or {X : Cx} {f : Value → Value → Sem Value} {r r' : R2} (h : OpR X f r) (h' : OpR X f r') : OpR X f (fun x y H Q => r x y H Q ∨ r' x y H Q) := by
  intro pins s σ H x y v u Q I rx ry q
  rcases q with q | q
  · exact h pins s σ H x y v u Q I rx ry q
  · exact h' pins s σ H x y v u Q I rx ry q
/-! ### data without dicts are the library's data -/
mutual
theorem rp_dp {K : PySem.W.Frag} {H : Hp} : ∀ (d : D) (v : V), Rp K H v d → d.hasDict = false → Dp K H v d
  | .none, _, h, _ => by cases h; exact .non
  | .bool b, _, h, _ => by cases h; exact .bl b
  | .int i, _, h, _ => by cases h; exact .int i
  | .str x, _, h, _ => by cases h; exact .str x
  | .list ds, _, h, e => by
    cases h with
    | lst hs ha => exact .lst hs (rpA_dp ds _ ha (by simpa [PyData.hasDict] using e))
  | .tuple ds, _, h, e => by
    cases h with
    | tup hs ha => exact .tup hs (rpA_dp ds _ ha (by simpa [PyData.hasDict] using e))
  | .dict ds, _, h, e => by simp [PyData.hasDict] at e
theorem rpA_dp {K : PySem.W.Frag} {H : Hp} : ∀ (ds : List D) (vs : List V), RpA K H vs ds → PyData.hasDictAll ds = false → DpAll K H vs ds
  | [], _, h, _ => by cases h; exact .nil
  | d :: ds, _, h, e => by
    have e' : d.hasDict = false ∧ PyData.hasDictAll ds = false := by simpa [PyData.hasDictAll] using e
    cases h with
    | cons h1 h2 => exact .cons (rp_dp d _ h1 e'.1) (rpA_dp ds _ h2 e'.2)
end
theorem rp_shaped {K : PySem.W.Frag} {H : Hp} {d : D} {v : V} (h : Rp K H v d) (e : SeqAt.shaped d = true) : Dp K H v d := rp_dp d v h (PyData.hasDict_of_canLay d (SeqAt.canLay_of_shaped e))
mutual
theorem alike_dict : ∀ (x : D), PySem.W.alike x x = true → x.hasDict = false
  | .none, _ => by simp [PyData.hasDict]
  | .bool _, _ => by simp [PyData.hasDict]
  | .int _, _ => by simp [PyData.hasDict]
  | .str _, _ => by simp [PyData.hasDict]
  | .list xs, h => by
    simp only [PySem.W.alike] at h
    simp only [PyData.hasDict]
    exact alikeAll_dict xs h
  | .tuple xs, h => by
    simp only [PySem.W.alike] at h
    simp only [PyData.hasDict]
    exact alikeAll_dict xs h
  | .dict _, h => by simp [PySem.W.alike] at h
theorem alikeAll_dict : ∀ (xs : List D), PySem.W.alikeAll xs xs = true → PyData.hasDictAll xs = false
  | [], _ => by simp [PyData.hasDictAll]
  | x :: xs, h => by
    have h' := PySem.W.alike_all_cons h
    simp only [PyData.hasDictAll, alike_dict x h'.1, alikeAll_dict xs h'.2, Bool.or_self]
end
theorem rp_alike {K : PySem.W.Frag} {H : Hp} {d : D} {v : V} (h : Rp K H v d) (e : PySem.W.alike d d = true) : Dp K H v d := rp_dp d v h (alike_dict d e)
/-- a value is handed on, nothing is made -/
theorem Out.val {K : PySem.W.Frag} {H S : Hp} {Q : VK} {d : D} {v : V} (h : Out K H S Q (.val d)) (m : Sub S H) (r : Rp K S v d) : Q v H := h v H S (.refl m) r
/-- a new list is made -/
theorem Out.lst {K : PySem.W.Frag} {H S : Hp} {Q : VK} {ds : List D} {vs : List V} (h : Out K H S Q (.frs (.list ds))) (m : Sub S H) (r : RpA K S vs ds) : ∀ p, H p = none → Q (.ref p) (upd H p (.lst vs)) := fun p hp =>
  h _ _ S (.one m hp) ⟨p, rfl, hp, m.none hp, .lst upd_same r⟩
/-- a new tuple is made -/
theorem Out.tup {K : PySem.W.Frag} {H S : Hp} {Q : VK} {ds : List D} {vs : List V} (h : Out K H S Q (.val (.tuple ds))) (m : Sub S H) (r : RpA K S vs ds) : ∀ p, H p = none → Q (.ref p) (upd H p (.tup vs)) := fun p hp =>
  have g : Grow H S (upd H p (.tup vs)) (upd S p (.tup vs)) := .both m hp
  h _ _ _ g (.tup (.inl (.inl upd_same)) (r.sub g.s))
theorem Pk.lst {K : PySem.W.Frag} {H S : Hp} {v : V} {ds : List D} (p : Pk K H S v (.list ds)) (m : Sub S H) : ∃ a xs, v = .ref a ∧ SqL K H a xs ∧ RpA K S xs ds := by
  cases p with
  | sh r => cases r with | lst hs ha => exact ⟨_, _, rfl, m.mo.sqL hs, ha⟩
  | ow t => cases t with | lst e r => exact ⟨_, _, rfl, .inl (.inl e), r⟩
theorem Pk.tup {K : PySem.W.Frag} {H S : Hp} {v : V} {ds : List D} (p : Pk K H S v (.tuple ds)) (m : Sub S H) : ∃ a xs, v = .ref a ∧ SqT K H a xs ∧ RpA K S xs ds := by
  cases p with
  | sh r => cases r with | tup hs ha => exact ⟨_, _, rfl, m.mo.sqT hs, ha⟩
  | ow t => cases t
theorem Pk.int {K : PySem.W.Frag} {H S : Hp} {v : V} {i : Int} (p : Pk K H S v (.int i)) : v = .int i := by
  cases p with
  | sh r => cases r; rfl
  | ow t => cases t
theorem Pk.str {K : PySem.W.Frag} {H S : Hp} {v : V} {i : Str} (p : Pk K H S v (.str i)) : v = .str i := by
  cases p with
  | sh r => cases r; rfl
  | ow t => cases t
theorem Pk.bool {K : PySem.W.Frag} {H S : Hp} {v : V} {i : Bool} (p : Pk K H S v (.bool i)) : v = .bl i := by
  cases p with
  | sh r => cases r; rfl
  | ow t => cases t
theorem Pk.none {K : PySem.W.Frag} {H S : Hp} {v : V} (p : Pk K H S v .none) : v = .non := by
  cases p with
  | sh r => cases r; rfl
  | ow t => cases t

/-! ### arithmetic -/
section
variable {X : Cx}
def dAdd : D → D → Option Rv
  | .int i, .int j => some (.val (.int (i + j)))
  | .str x, .str y => if x.length + y.length ≤ sizeLine then some (.val (.str (x ++ y))) else none
  | .list xs, .list ys => if xs.length + ys.length ≤ sizeLine then some (.frs (.list (xs ++ ys))) else none
  | .tuple xs, .tuple ys => if xs ≠ [] ∧ ys ≠ [] ∧ xs.length + ys.length ≤ sizeLine then some (.val (.tuple (xs ++ ys))) else none
  | _, _ => none
def rCatG (K : PySem.W.Frag) : R2 := fun x y H Q => ∃ l b xs zs, x = .ref l ∧ y = .ref b ∧ SqL K H l xs ∧ SqL K H b zs ∧ xs.length + zs.length ≤ sizeLine ∧ ∀ p, H p = none → Q (.ref p) (upd H p (.lst (xs ++ zs)))
theorem op_catG : OpR X (binaryOp .Add) (rCatG X.K) := by
  intro pins s σ H x y v u Q I rx ry h
  obtain ⟨l, b, xs, zs, rfl, rfl, hH, hB, hz, q⟩ := h
  cases rx
  cases ry
  obtain ⟨its, r, pl, z⟩ := I.list hH
  obtain ⟨its2, r2, pl2, z2⟩ := I.list hB
  obtain ⟨⟨cls, dd, data, sl⟩, n, ho, hc, hdd, hd⟩ := pl
  obtain ⟨⟨cls2, dd2, data2, sl2⟩, n2, ho2, hc2, hdd2, hd2⟩ := pl2
  simp only at hc hd hdd hc2 hd2 hdd2
  subst hc hd hdd hc2 hd2 hdd2
  have e : its.toArray ++ its2.toArray = (its ++ its2).toArray := by simp
  refine concat_meets ⟨_, ho, rfl⟩ ⟨_, ho2, rfl⟩ noFill_list_add seq_list_add PySem.F.slot_list_add PySem.F.entry_list_add (PySem.F.args_list_add_2 _ _)
    (PyProof.Rows.list_addW l b its.toArray its2.toArray n n2 none none sl sl2 (by rw [List.size_toArray, List.size_toArray, ← r.length, ← r2.length]; exact hz)) ⟨ho, ho2, ?_⟩
  rw [e]
  exact ⟨.ref _, _, I.lnew (t' := s.toks) (r.append r2) (by rw [List.length_append]; omega), rfl, q _ I.fresh⟩
def op_addD : OpOk X (binaryOp .Add) dAdd where
  r := fun x y H Q => (((∃ i j, x = .int i ∧ y = .int j ∧ Q (.int (i + j)) H) ∨ ∃ i j, x = .str i ∧ y = .str j ∧ i.length + j.length ≤ sizeLine ∧ Q (.str (i ++ j)) H) ∨ rCatG X.K x y H Q) ∨ rCatT X.K x y H Q
  rule := OpR.or (OpR.or (OpR.or op_add op_add_str) op_catG) op_catT
  sem := by
    intro x y H S d1 d2 rv Q m p1 p2 e o
    cases d1 <;> cases d2 <;> simp only [dAdd, reduceCtorEq] at e
    · cases e
      rw [p1.int, p2.int]
      exact .inl (.inl (.inl ⟨_, _, rfl, rfl, o.val m (.int _)⟩))
    · split at e
      · cases e
        rw [p1.str, p2.str]
        exact .inl (.inl (.inr ⟨_, _, rfl, rfl, by assumption, o.val m (.str _)⟩))
      · cases e
    · split at e
      · cases e
        obtain ⟨a, xs, rfl, hs, r⟩ := p1.lst m
        obtain ⟨b, ys, rfl, ht, q⟩ := p2.lst m
        exact .inl (.inr ⟨a, b, xs, ys, rfl, rfl, hs, ht, by rw [r.length, q.length]; assumption, o.lst m (r.append q)⟩)
      · cases e
    · split at e
      · rename_i hh
        obtain ⟨h1, h2, h3⟩ := hh
        cases e
        obtain ⟨a, xs, rfl, hs, r⟩ := p1.tup m
        obtain ⟨b, ys, rfl, ht, q⟩ := p2.tup m
        refine .inr ⟨a, b, xs, ys, rfl, rfl, hs, ht, fun z => ?_, by rw [r.length, q.length]; exact h3, fun z => ?_, fun _ => o.tup m (r.append q)⟩
        · subst z; cases r; exact h1 rfl
        · subst z; cases q; exact absurd rfl h2
      · cases e
def dInt (C : Int → Int → Prop) [∀ i j, Decidable (C i j)] (g : Int → Int → Int) : D → D → Option Rv
  | .int i, .int j => if C i j then some (.val (.int (g i j))) else none
  | _, _ => none
def op_int {F : Value → Value → Sem Value} {C : Int → Int → Prop} [∀ i j, Decidable (C i j)] {g : Int → Int → Int} (h : OpR X F (rI C fun i j => .int (g i j))) : OpOk X F (dInt C g) where
  r := _
  rule := h
  sem := by
    intro x y H S d1 d2 rv Q m p1 p2 e o
    cases d1 <;> cases d2 <;> simp only [dInt, reduceCtorEq] at e
    split at e
    · cases e
      rw [p1.int, p2.int]
      exact ⟨_, _, rfl, rfl, by assumption, o.val m (.int _)⟩
    · cases e
instance : ∀ i j, Decidable (CMul i j) := fun i j => by unfold CMul; infer_instance
instance : ∀ i j, Decidable (CDiv i j) := fun i j => by unfold CDiv; infer_instance
instance : ∀ i j, Decidable (CPow i j) := fun i j => by unfold CPow; infer_instance
theorem rI0_C {g : Int → Int → V} {F : Value → Value → Sem Value} (h : OpR X F (rI0 g)) : OpR X F (rI (fun _ _ => True) g) := fun pins s σ H x y v u Q I rx ry ⟨i, j, e1, e2, _, q⟩ => h pins s σ H x y v u Q I rx ry ⟨i, j, e1, e2, q⟩
def dSub : D → D → Option Rv := dInt (fun _ _ => True) (· - ·)
def op_subD : OpOk X (binaryOp .Sub) dSub := op_int (rI0_C op_sub)
def dMul : D → D → Option Rv := dInt CMul (· * ·)
def op_mulD : OpOk X (binaryOp .Mult) dMul := op_int op_mul
def dFdiv : D → D → Option Rv := dInt CDiv (· / ·)
def op_fdivD : OpOk X (binaryOp .FloorDiv) dFdiv := op_int op_fdiv
def dMod : D → D → Option Rv := dInt (fun _ j => 0 < j) (· % ·)
def op_modD : OpOk X (binaryOp .Mod) dMod := op_int op_mod
def dPow : D → D → Option Rv := dInt CPow fun i j => i ^ j.toNat
def op_powD : OpOk X (binaryOp .Pow) dPow := op_int op_pow

/-! ### comparisons -/
def ltOk (x y : D) : Bool := PySem.W.alike x y && PySem.W.alike x x && PySem.W.alike y y && decide (x.depth ≤ 60) && !(match x with | .none => true | _ => false)
def dOrd (g : Int → Int → Bool) (h : D → D → Bool) : D → D → Option Rv
  | .int i, .int j => some (.val (.bool (g i j)))
  | x, y => if ltOk x y = true then some (.val (.bool (h x y))) else none
def dLt : D → D → Option Rv := dOrd (fun i j => decide (i < j)) fun x y => PySem.W.dataLt x y
def dLe : D → D → Option Rv := dOrd (fun i j => decide (i ≤ j)) fun x y => !PySem.W.dataLt y x
def dGt : D → D → Option Rv := dOrd (fun i j => decide (j < i)) fun x y => PySem.W.dataLt y x
def dGe : D → D → Option Rv := dOrd (fun i j => decide (j ≤ i)) fun x y => !PySem.W.dataLt x y
def rOrd (K : PySem.W.Frag) (h : D → D → Bool) : R2 := fun x y H Q => ∃ d e, Dp K H x d ∧ Dp K H y e ∧ ltOk d e = true ∧ Q (.bl (h d e)) H
theorem ltOk_split {d e : D} (h : ltOk d e = true) : PySem.W.alike d e = true ∧ PySem.W.alike d d = true ∧ PySem.W.alike e e = true ∧ d.depth ≤ 60 ∧ d ≠ .none := by
  unfold ltOk at h
  simp only [Bool.and_eq_true, decide_eq_true_eq] at h
  obtain ⟨⟨⟨⟨h1, h2⟩, h3⟩, h4⟩, h5⟩ := h
  refine ⟨h1, h2, h3, h4, ?_⟩
  rintro rfl
  simp at h5
theorem op_ord {F : Value → Value → Sem Value} {h : D → D → Bool} (hu : X.A.units + 64 < cLine)
    (rule : ∀ (s : Shared) (a b : Value) (d e : D) (as bs : List Addr) (Q : Value → Shared → Prop) (E : Value → Shared → Prop), Reads s.heap a d as → Reads s.heap b e bs → PySem.W.alike d e = true → d ≠ .none → X.A.units + min d.depth e.depth < cLine → Q (.bool (h d e)) s →
      wpAny (model X.prog X.w) X.A (F a b) Q E s) : OpR X F (rOrd X.K h) := by
  intro pins s σ H x y v u Q I rx ry hh
  obtain ⟨d, e, hd, he, ok, q⟩ := hh
  obtain ⟨h1, _, _, h4, h5⟩ := ltOk_split ok
  obtain ⟨as, r1⟩ := Dp.reads I d x v hd rx
  obtain ⟨bs, r2⟩ := Dp.reads I e y u he ry
  exact rule s v u d e as bs _ _ r1 r2 h1 h5 (by have := Nat.min_le_left d.depth e.depth; omega) ⟨.bl _, H, I, rfl, q⟩
def ordOk {F : Value → Value → Sem Value} {g : Int → Int → Bool} {h : D → D → Bool} (ri : OpR X F (rI0 fun i j => .bl (g i j))) (ro : OpR X F (rOrd X.K h)) : CmpOk X F (dOrd g h) where
  r := _
  rule := OpR.or ri ro
  sem := by
    intro x y H S d1 d2 rv Q m p1 p2 e o
    have gen : ∀ {b : Bool}, ltOk d1 d2 = true → some (Rv.val (.bool (h d1 d2))) = some rv → rOrd X.K h x y H Q := fun {_} ok e => by
      cases e
      obtain ⟨_, h2, h3, _, _⟩ := ltOk_split ok
      exact ⟨d1, d2, rp_alike (p1.rp m) h2, rp_alike (p2.rp m) h3, ok, o.val m (.bl _)⟩
    by_cases q : ∃ i j, d1 = .int i ∧ d2 = .int j
    · obtain ⟨i, j, rfl, rfl⟩ := q
      have e : some (Rv.val (.bool (g i j))) = some rv := e
      cases e
      rw [p1.int, p2.int]
      exact .inl ⟨_, _, rfl, rfl, o.val m (.bl _)⟩
    · have e : (if ltOk d1 d2 = true then some (Rv.val (.bool (h d1 d2))) else none) = some rv := by
        cases d1 <;> cases d2 <;> first
          | exact e
          | exact absurd ⟨_, _, rfl, rfl⟩ q
      split at e
      · exact .inr (gen (b := true) (by assumption) e)
      · cases e
  bl := by
    intro x y rv e
    by_cases q : ∃ i j, x = .int i ∧ y = .int j
    · obtain ⟨i, j, rfl, rfl⟩ := q
      have e : some (Rv.val (.bool (g i j))) = some rv := e
      cases e
      exact ⟨_, rfl⟩
    · have e : (if ltOk x y = true then some (Rv.val (.bool (h x y))) else none) = some rv := by
        cases x <;> cases y <;> first
          | exact e
          | exact absurd ⟨_, _, rfl, rfl⟩ q
      split at e
      · cases e; exact ⟨_, rfl⟩
      · cases e
def op_ltD (hu : X.A.units + 64 < cLine) : CmpOk X (compareOp .Lt) dLt := ordOk op_lt (op_ord hu fun _ _ _ _ _ _ _ _ _ r1 r2 h1 h2 h3 q => PySem.W.lt_data r1 r2 h1 h2 h3 q)
def op_leD (hu : X.A.units + 64 < cLine) : CmpOk X (compareOp .LtE) dLe := ordOk op_le (op_ord hu fun _ _ _ _ _ _ _ _ _ r1 r2 h1 h2 h3 q => PySem.W.le_data r1 r2 h1 h2 h3 q)
def op_gtD (hu : X.A.units + 64 < cLine) : CmpOk X (compareOp .Gt) dGt := ordOk op_gt (op_ord hu fun _ _ _ _ _ _ _ _ _ r1 r2 h1 h2 h3 q => PySem.W.gt_data r1 r2 h1 h2 h3 q)
def op_geD (hu : X.A.units + 64 < cLine) : CmpOk X (compareOp .GtE) dGe := ordOk op_ge (op_ord hu fun _ _ _ _ _ _ _ _ _ r1 r2 h1 h2 h3 q => PySem.W.ge_data r1 r2 h1 h2 h3 q)
def strB (x y : D) : Bool := match x with
  | .str _ => (match y with
    | .str _ => true
    | _ => false)
  | _ => false
theorem strB_ok {x y : D} (h : strB x y = true) : ∃ i j, x = .str i ∧ y = .str j := by
  cases x <;> first | (cases h; done) | skip
  cases y <;> first | (cases h; done) | exact ⟨_, _, rfl, rfl⟩
def dEq (x y : D) : Option Rv := if strB x y = true ∨ (SeqAt.shaped x = true ∧ SeqAt.shaped y = true) then some (.val (.bool (PyData.eqv x y))) else none
def dNe (x y : D) : Option Rv := if strB x y = true ∨ (SeqAt.shaped x = true ∧ SeqAt.shaped y = true) then some (.val (.bool (!PyData.eqv x y))) else none
def op_eqDD (hu : X.A.units + 64 < cLine) : CmpOk X (compareOp .Eq) dEq where
  r := _
  rule := OpR.or op_eq (op_eqD hu)
  sem := by
    intro x y H S d1 d2 rv Q m p1 p2 e o
    unfold dEq at e
    split at e
    · rename_i h
      cases e
      rcases h with h | h
      · obtain ⟨i, j, rfl, rfl⟩ := strB_ok h
        rw [p1.str, p2.str]
        refine .inl ⟨rfl, ?_⟩
        rw [dec_str]
        simp only [PyData.eqv] at o
        exact o.val m (.bl _)
      · exact .inr ⟨d1, d2, rp_shaped (p1.rp m) h.1, rp_shaped (p2.rp m) h.2, h.1, h.2, o.val m (.bl _)⟩
    · cases e
  bl := by
    intro x y rv e
    unfold dEq at e
    split at e
    · cases e; exact ⟨_, rfl⟩
    · cases e
def op_neDD (hu : X.A.units + 64 < cLine) : CmpOk X (compareOp .NotEq) dNe where
  r := _
  rule := OpR.or op_ne (op_neD hu)
  sem := by
    intro x y H S d1 d2 rv Q m p1 p2 e o
    unfold dNe at e
    split at e
    · rename_i h
      cases e
      rcases h with h | h
      · obtain ⟨i, j, rfl, rfl⟩ := strB_ok h
        rw [p1.str, p2.str]
        refine .inl ⟨rfl, ?_⟩
        rw [dec_str]
        simp only [PyData.eqv] at o
        exact o.val m (.bl _)
      · exact .inr ⟨d1, d2, rp_shaped (p1.rp m) h.1, rp_shaped (p2.rp m) h.2, h.1, h.2, o.val m (.bl _)⟩
    · cases e
  bl := by
    intro x y rv e
    unfold dNe at e
    split at e
    · cases e; exact ⟨_, rfl⟩
    · cases e
def dIs (neg : Bool) : D → D → Option Rv
  | .bool a, .bool b => some (.val (.bool (neg.xor (decide (a = b)))))
  | x, .none => some (.val (.bool (neg.xor (match x with | .none => true | _ => false))))
  | _, _ => none
end
end Ev

set_option Elab.async false
set_option linter.all false
set_option maxRecDepth 100000
/-! EvB: built-ins, subscripts, slices on data. -/
namespace Ev
open PySem PySem.Spec L2
section
variable {X : Cx} {W : WX} {e a b c : Expr} {f fa fb fc : Ex} {pos p : Pos} {x : Str} {id T : String}
/-- a call of one argument by values -/
structure C1 (X : Cx) (f : Value) (op : D → Option Rv) where
  r : List V → Hp → VK → Prop
  rule : CallR X f r
  sem : ∀ (x : V) (H S : Hp) (d : D) (rv : Rv) (Q : VK), Sub S H → Pk X.K H S x d → op d = some rv → Out X.K H S Q rv → r [x] H Q
theorem op1_core {r : V → Hp → VK → Prop} {op : D → Option Rv} (sem : ∀ (x : V) (H S : Hp) (d : D) (rv : Rv) (Q : VK), Sub S H → Pk X.K H S x d → op d = some rv → Out X.K H S Q rv → r x H Q)
    {σ : St} {H : Hp} {Q : VK} (h : tX X.K W X.mg (op1 op fa) σ H Q) : tO X.K W X.mg (opn fa) σ H fun x H1 => r x H1 Q := by
  obtain ⟨Γ, ρ, S, R, p⟩ := h
  refine ⟨Γ, ρ, S, R, Post.imp (Post.of_bind p) fun ra ρ1 H1 S1 _ m1 R1 k x hx => ?_⟩
  obtain ⟨_, _, k⟩ := k
  cases e1 : peek ρ1 ra with
  | none => simp only [e1] at k; exact k.elim
  | some d =>
    simp only [e1] at k
    obtain ⟨rv, e, o⟩ := out_of R1 k
    exact sem x H1 S1 d rv Q R1.sub (hx.pk R1 e1) e o
theorem sx_callB {op : D → Option Rv} (c : C1 X (.builtin id) op) (hg : Gl X x) (hm : X.mg x = none) (hv : bootBuiltins x = some (.builtin id)) (ha : SX X W a fa) (hn : x ≠ "__name__" := by decide) (hdb : (x == ("__debug__" : Str)) = false := by decide)
    (hs : starEach [a] X.env = (false, eval a X.env) :: starEach [] X.env := by rfl) (hpl : (backTo pos (starEach [] X.env)).any (·.1) = false := by rfl) : SX X W (.Call (.Name x p) [a] [] pos) (op1 op fa) :=
  PE.imp (pe_callB c.rule hg hm hv (pa_cons (so_opn ha) pa_nil hs) hn hdb hs hpl) fun _ _ _ h => op1_core (r := fun x H Q => c.r [x] H Q) c.sem h
theorem sx_callT {op : D → Option Rv} (c : C1 X (.type T) op) (hg : Gl X x) (hm : X.mg x = none) (hv : bootBuiltins x = some (.type T)) (ha : SX X W a fa) (hn : x ≠ "__name__" := by decide) (hdb : (x == ("__debug__" : Str)) = false := by decide)
    (hs : starEach [a] X.env = (false, eval a X.env) :: starEach [] X.env := by rfl) (hpl : (backTo pos (starEach [] X.env)).any (·.1) = false := by rfl) : SX X W (.Call (.Name x p) [a] [] pos) (op1 op fa) :=
  PE.imp (pe_callTy c.rule hg hm hv (pa_cons (so_opn ha) pa_nil hs) hn hdb hs hpl) fun _ _ _ h => op1_core (r := fun x H Q => c.r [x] H Q) c.sem h
theorem sx_un {op : UnaryOp} {g : D → Option Rv} {r : V → Hp → VK → Prop} (ho : UnR X (unaryOp op) r) (sem : ∀ (x : V) (H S : Hp) (d : D) (rv : Rv) (Q : VK), Sub S H → Pk X.K H S x d → g d = some rv → Out X.K H S Q rv → r x H Q) (ha : SX X W a fa) :
    SX X W (.UnaryOp op a pos) (op1 g fa) := PE.imp (pe_un ho (so_opn ha)) fun _ _ _ h => op1_core sem h

/-! ### isinstance -/
def tyOf : D → String
  | .none => "NoneType"
  | .bool _ => "bool"
  | .int _ => "int"
  | .str _ => "str"
  | .list _ => "list"
  | .tuple _ => "tuple"
  | .dict _ => "dict"
theorem rd_cases {S : Hp} {a : Addr} {u : HO} (h : Rd S a u) : S a = some u ∨ ∃ o, S a = some (.frz o u) := h
theorem tyX_of {K : PySem.W.Frag} {H : Hp} {v : V} {d : D} (h : Rp K H v d) (hd : ∀ ds, d = .dict ds → ∃ a, v = .ref a ∧ ((∃ kvs, H a = some (.dK kvs)) ∨ (∃ kvs, H a = some (.dT kvs)) ∨ ∃ o kvs, H a = some (.frz o (.dK kvs)))) : TyX K H v (.type (tyOf d)) := by
  cases h with
  | non => exact .base .non
  | bl b => exact .base (.bl b)
  | int i => exact .base (.int i)
  | str x => exact .base (.str x)
  | lst hs ha =>
    rcases hs with (hs | ⟨o, hs⟩) | ⟨o, its, n, hs, hc, _⟩
    · exact .base (.lst hs)
    · exact .base (.frz hs)
    · exact .kList hs hc
  | tup hs ha =>
    rcases hs with (hs | ⟨o, hs⟩) | ⟨o, its, n, hs, hc, _⟩
    · exact .base (.tup hs)
    · exact .fTuple hs
    · exact .kTuple hs hc
  | dk hs ha =>
    rcases hs with hs | ⟨o, hs⟩
    · exact .base (.dK hs)
    · exact .fDict hs
  | dt hs hn ha =>
    rcases hs with hs | ⟨o, hs⟩
    · exact .base (.dT hs)
    · obtain ⟨a, e, q⟩ := hd _ rfl
      cases e
      rcases q with ⟨_, q⟩ | ⟨_, q⟩ | ⟨_, _, q⟩ <;> rw [hs] at q <;> cases q
/-- isinstance(x, T): a locked dict with tuple keys is not asked -/
def dIsi (T : String) (d : D) : Option Rv := match d with
  | .dict ds => if ds.all (fun p => flatK p.1) = true then (kitB "dict" T).map fun b => .val (.bool b) else none
  | d => (kitB (tyOf d) T).map fun b => .val (.bool b)
theorem rpT_flat {K : PySem.W.Frag} {H : Hp} {kvs : List (List Key × V)} {ds : List (D × D)} (h : RpT K H kvs ds) (e : ds.all (fun p => flatK p.1) = true) : ds = [] := by
  cases h with
  | nil => rfl
  | cons r t => simp [flatK] at e
theorem sx_isi (hg : Gl X "isinstance") (hm : X.mg "isinstance" = none) {y : Str} {py : Pos} (hgy : Gl X y) (hmy : X.mg y = none) (hvy : bootBuiltins y = some (.type T)) (ha : SX X W a fa) (hny : y ≠ "__name__" := by decide) (hdy : (y == ("__debug__" : Str)) = false := by decide)
    (hs : starEach [a, .Name y py] X.env = (false, eval a X.env) :: starEach [.Name y py] X.env := by rfl) (hs2 : starEach [.Name y py] X.env = (false, eval (.Name y py) X.env) :: starEach [] X.env := by rfl)
    (hpl : (backTo pos (starEach [.Name y py] X.env)).any (·.1) = false := by rfl) : SX X W (.Call (.Name "isinstance" p) [a, .Name y py] [] pos) (op1 (dIsi T) fa) := by
  refine PE.imp (pe_callB call_isi hg hm (by decide +kernel) (pa_cons (so_opn ha) (pa_cons (pe_bltn hgy hmy hvy (v := .ty T) rfl hny hdy) pa_nil hs2) hs) (by decide) (by decide) hs hpl) fun σ H Q h =>
    op1_core (r := fun x H Q => rIsi X.K [x, .ty T] H Q) (op := dIsi T) (fun x H S d rv Q m pk e o => ?_) h
  have r := pk.rp m
  have fin : ∀ b, kitB (tyOf d) T = some b → rv = .val (.bool b) → (∀ ds, d = .dict ds → ∃ a, x = .ref a ∧ ((∃ kvs, H a = some (.dK kvs)) ∨ (∃ kvs, H a = some (.dT kvs)) ∨ ∃ o kvs, H a = some (.frz o (.dK kvs)))) → rIsi X.K [x, .ty T] H Q := fun b h1 h2 h3 => by
    subst h2
    exact ⟨x, .ty T, .type (tyOf d), .type T, b, rfl, .ty T, tyX_of r h3, kit_ty h1, o.val m (.bl b)⟩
  cases d with
  | dict ds =>
    simp only [dIsi] at e
    split at e
    · rename_i hf
      cases q : kitB "dict" T with
      | none => rw [q] at e; cases e
      | some b =>
        rw [q] at e; cases e
        refine fin b q rfl fun ds' z => ?_
        cases z
        cases r with
        | dk hs ha =>
          rcases hs with hs | ⟨o, hs⟩
          · exact ⟨_, rfl, .inl ⟨_, hs⟩⟩
          · exact ⟨_, rfl, .inr (.inr ⟨_, _, hs⟩)⟩
        | dt hs hn ha => exact absurd (rpT_flat ha hf) hn
    · cases e
  | _ =>
    simp only [dIsi] at e
    cases q : kitB (tyOf _) T with
    | none => rw [q] at e; cases e
    | some b =>
      rw [q] at e; cases e
      exact fin b q rfl fun ds' z => by cases z

/-! ### len, abs, int, all .. -/
def dLen : D → Option Rv
  | .str x => if x.length ≤ sizeLine then some (.val (.int x.length)) else none
  | .list xs => some (.val (.int xs.length))
  | .tuple xs => some (.val (.int xs.length))
  | _ => none
def c_len : C1 X (.builtin "len") dLen where
  r := _
  rule := call_len
  sem := by
    intro x H S d rv Q m pk e o
    cases d <;> simp only [dLen, reduceCtorEq] at e
    · split at e
      · cases e
        rw [pk.str]
        exact ⟨_, _, rfl, ⟨by assumption, rfl⟩, o.val m (.int _)⟩
      · cases e
    · cases e
      obtain ⟨a, xs, rfl, hs, r⟩ := pk.lst m
      refine ⟨_, xs.length, rfl, .inl ⟨xs, hs, rfl⟩, ?_⟩
      rw [r.length]
      exact o.val m (.int _)
    · cases e
      obtain ⟨a, xs, rfl, hs, r⟩ := pk.tup m
      refine ⟨_, xs.length, rfl, .inr ⟨xs, hs, rfl⟩, ?_⟩
      rw [r.length]
      exact o.val m (.int _)
def dAbs : D → Option Rv
  | .int i => some (.val (.int (if i < 0 then -i else i)))
  | _ => none
def c_abs : C1 X (.builtin "abs") dAbs where
  r := _
  rule := call_abs
  sem := by
    intro x H S d rv Q m pk e o
    cases d <;> simp only [dAbs, reduceCtorEq] at e
    cases e
    rw [pk.int]
    exact ⟨_, rfl, o.val m (.int _)⟩
def dIntOf : D → Option Rv
  | .int i => some (.val (.int i))
  | .bool b => some (.val (.int (if b = true then 1 else 0)))
  | _ => none
def c_int : C1 X (.type "int") dIntOf where
  r := _
  rule := call_int1
  sem := by
    intro x H S d rv Q m pk e o
    cases d <;> simp only [dIntOf, reduceCtorEq] at e
    · cases e
      rw [pk.bool]
      exact .inr ⟨_, rfl, o.val m (.int _)⟩
    · cases e
      rw [pk.int]
      exact .inl ⟨_, rfl, o.val m (.int _)⟩
def boolsO : List D → Option (List Bool)
  | [] => some []
  | .bool b :: ds => match boolsO ds with
    | some bs => some (b :: bs)
    | none => none
  | _ :: _ => none
theorem boolsO_ok {K : PySem.W.Frag} {S : Hp} : ∀ {ds : List D} {vs : List V} {bs : List Bool}, RpA K S vs ds → boolsO ds = some bs → vs = bs.map V.bl
  | [], _, bs, h, e => by cases h; cases e; rfl
  | d :: ds, _, bs, h, e => by
    cases h with
    | cons h1 h2 =>
      cases d <;> simp only [boolsO, reduceCtorEq] at e
      cases q : boolsO ds with
      | none => rw [q] at e; cases e
      | some bs' =>
        rw [q] at e; cases e
        cases h1
        rw [boolsO_ok h2 q]; rfl
def dAll : D → Option Rv
  | .list ds => match boolsO ds with
    | some bs => some (.val (.bool (bs.all (fun b => b))))
    | none => none
  | _ => none
def c_all (hc : X.calm = true) : C1 X (.builtin "all") dAll where
  r := _
  rule := cr_all hc
  sem := by
    intro x H S d rv Q m pk e o
    cases d <;> simp only [dAll, reduceCtorEq] at e
    split at e
    · rename_i bs hb
      cases e
      obtain ⟨a, xs, rfl, hs, r⟩ := pk.lst m
      rw [boolsO_ok r hb] at hs
      exact ⟨a, bs, rfl, hs, o.val m (.bl _)⟩
    · cases e
def dAny : D → Option Rv
  | .list ds => match boolsO ds with
    | some bs => some (.val (.bool (bs.any (fun b => b))))
    | none => none
  | _ => none
def c_any (hc : X.calm = true) : C1 X (.builtin "any") dAny where
  r := _
  rule := cr_any hc
  sem := by
    intro x H S d rv Q m pk e o
    cases d <;> simp only [dAny, reduceCtorEq] at e
    split at e
    · rename_i bs hb
      cases e
      obtain ⟨a, xs, rfl, hs, r⟩ := pk.lst m
      rw [boolsO_ok r hb] at hs
      exact ⟨a, bs, rfl, hs, o.val m (.bl _)⟩
    · cases e
def intsO : List D → Option (List Int)
  | [] => some []
  | .int b :: ds => match intsO ds with
    | some bs => some (b :: bs)
    | none => none
  | _ :: _ => none
theorem intsO_ok {K : PySem.W.Frag} {S : Hp} : ∀ {ds : List D} {vs : List V} {bs : List Int}, RpA K S vs ds → intsO ds = some bs → vs = bs.map V.int
  | [], _, bs, h, e => by cases h; cases e; rfl
  | d :: ds, _, bs, h, e => by
    cases h with
    | cons h1 h2 =>
      cases d <;> simp only [intsO, reduceCtorEq] at e
      cases q : intsO ds with
      | none => rw [q] at e; cases e
      | some bs' =>
        rw [q] at e; cases e
        cases h1
        rw [intsO_ok h2 q]; rfl
def dSum : D → Option Rv
  | .list ds => match intsO ds with
    | some bs => some (.val (.int bs.sum))
    | none => none
  | _ => none
def c_sum (hc : X.calm = true) : C1 X (.builtin "sum") dSum where
  r := _
  rule := cr_sum hc
  sem := by
    intro x H S d rv Q m pk e o
    cases d <;> simp only [dSum, reduceCtorEq] at e
    split at e
    · rename_i bs hb
      cases e
      obtain ⟨a, xs, rfl, hs, r⟩ := pk.lst m
      rw [intsO_ok r hb] at hs
      exact ⟨a, bs, rfl, hs, o.val m (.int _)⟩
    · cases e
def dListOf : D → Option Rv
  | .list ds => some (.frs (.list ds))
  | .tuple ds => some (.frs (.list ds))
  | _ => none
def c_list : C1 X (.type "list") dListOf where
  r := _
  rule := call_list_of
  sem := by
    intro x H S d rv Q m pk e o
    cases d <;> simp only [dListOf, reduceCtorEq] at e
    · cases e
      obtain ⟨a, xs, rfl, hs, r⟩ := pk.lst m
      exact ⟨a, xs, rfl, .inl hs, o.lst m r⟩
    · cases e
      obtain ⟨a, xs, rfl, hs, r⟩ := pk.tup m
      exact ⟨a, xs, rfl, .inr hs, o.lst m r⟩
def dTupOf : D → Option Rv
  | .list ds => some (.val (.tuple ds))
  | .tuple ds => some (.val (.tuple ds))
  | _ => none
def c_tup : C1 X (.type "tuple") dTupOf where
  r := _
  rule := call_tuple_of
  sem := by
    intro x H S d rv Q m pk e o
    cases d <;> simp only [dTupOf, reduceCtorEq] at e
    · cases e
      obtain ⟨a, xs, rfl, hs, r⟩ := pk.lst m
      exact ⟨a, xs, rfl, .inl ⟨hs, o.tup m r⟩⟩
    · cases e
      obtain ⟨a, xs, rfl, hs, r⟩ := pk.tup m
      cases pk with
      | sh rp => exact ⟨a, xs, rfl, .inr ⟨hs, o.val m rp⟩⟩
      | ow t => cases t
/-- list(d) of a dict with flat keys -/
def dKeysL : D → Option Rv
  | .dict kvs => if kvs.all (fun p => flatK p.1) = true then some (.frs (.list (kvs.map (·.1)))) else none
  | _ => none
theorem keys_rpA {K : PySem.W.Frag} {S : Hp} : ∀ {kvs : List (Key × V)} {ds : List (D × D)}, RpK K S kvs ds → RpA K S (kvs.map fun kv => kV kv.1) (ds.map (·.1))
  | _, _, .nil => .nil
  | _, _, .cons (k := k) r t => by
    refine .cons ?_ (keys_rpA t)
    cases k with
    | inl i => exact .int i
    | inr x => exact .str x
theorem vals_rpA {K : PySem.W.Frag} {S : Hp} : ∀ {kvs : List (Key × V)} {ds : List (D × D)}, RpK K S kvs ds → RpA K S (kvs.map (·.2)) (ds.map (·.2))
  | _, _, .nil => .nil
  | _, _, .cons r t => .cons r (vals_rpA t)
theorem Pk.dk {K : PySem.W.Frag} {H S : Hp} {v : V} {ds : List (D × D)} (p : Pk K H S v (.dict ds)) (m : Sub S H) (hf : ds.all (fun p => flatK p.1) = true) : ∃ a kvs, v = .ref a ∧ Rd H a (.dK kvs) ∧ RpK K S kvs ds := by
  cases p with
  | sh r =>
    cases r with
    | dk hs ha => exact ⟨_, _, rfl, m.mo _ _ trivial hs, ha⟩
    | dt hs hn ha => exact absurd (rpT_flat ha hf) hn
  | ow t =>
    cases t with
    | dk e r => exact ⟨_, _, rfl, .inl e, r⟩
    | dt e hn r => exact absurd (rpT_flat r hf) hn
end
end Ev

set_option Elab.async false
set_option linter.all false
set_option maxRecDepth 100000
set_option maxHeartbeats 1000000
/-! EvB2: dicts read, subscripts, slices, repr, sorted, dict(..). -/
namespace Ev
open PySem PySem.Spec L2
section
variable {X : Cx} {W : WX} {e a b c : Expr} {f fa fb fc : Ex} {pos p : Pos} {x : Str} {id T : String}
theorem CallR.or {f : Value} {r r' : List V → Hp → VK → Prop} (h : CallR X f r) (h' : CallR X f r') : CallR X f (fun xs H Q => r xs H Q ∨ r' xs H Q) := by
  intro pins s σ H xs us Q I rx q
  rcases q with q | q
  · exact h pins s σ H xs us Q I rx q
  · exact h' pins s σ H xs us Q I rx q
def C1.or {f : Value} {op op' : D → Option Rv} (c : C1 X f op) (c' : C1 X f op') : C1 X f (fun d => match op d with | some r => some r | none => op' d) where
  r := fun xs H Q => c.r xs H Q ∨ c'.r xs H Q
  rule := CallR.or c.rule c'.rule
  sem := by
    intro x H S d rv Q m pk e o
    cases q : op d with
    | some r => simp only [q] at e; cases e; exact .inl (c.sem x H S d _ Q m pk q o)
    | none => simp only [q] at e; exact .inr (c'.sem x H S d _ Q m pk e o)
/-! ### list(d), whether d is locked or not -/
theorem crG_list (hc : X.calm = true) : CallR X (.type "list") fun xs H Q => ∃ p kvs, xs = [.ref p] ∧ Rd H p (.dK kvs) ∧ ∀ q, H q = none → Q (.ref q) (upd H q (.lst (kvs.map fun kv => kV kv.1))) := by
  rintro pins s σ H xs us Q I r ⟨d, kvs, rfl, hk, q⟩
  obtain ⟨u, rfl, rx⟩ := vals1 r
  obtain rfl : u = Value.ref d := rx
  obtain ⟨hz, lo, vs, rk, hd⟩ := dk_rd I.hok hk
  obtain ⟨ep, hat⟩ := hd.dictAt
  have hl := rk.length
  refine PySem.W.kdl_call (PySem.W.kdl_dict (knd := mixKind X.prog X.w) (kvs := vs) (ep := ep) lo) (I.ok.hd hc) hat (Nat.le_trans (Nat.le_of_eq hl.symm) hz) fun h1 t1 acc c1 hkeep hS hacc => ?_
  have hv : Vals (kvs.map fun kv => kV kv.1) acc.toList := by
    have el : acc.toList.length = acc.size := by simp
    refine vals_of_at (by rw [List.length_map, el, hacc.1, hl]) fun j v w e1 e2 => ?_
    rw [Array.getElem?_toList] at e2
    obtain ⟨k, y, hky, hi⟩ := hacc.2 j w e2
    have e3 : (vs.map (·.1))[j]? = some k := by simp [List.getElem?_map, hky]
    rw [← rk.keys, List.getElem?_map] at e3
    rw [List.getElem?_map] at e1
    cases q : kvs[j]? with
    | none => rw [q] at e1; cases e1
    | some kv =>
      rw [q] at e1 e3
      simp only [Option.map_some, Option.some.injEq] at e1 e3
      subst e1
      rw [e3]
      exact keyIs_rel hi
  have nw : ObjOk X.prog X.w (upd H s.heap.objs.size (.lst (kvs.map fun kv => kV kv.1))) h1 s.heap.objs.size (.lst (kvs.map fun kv => kV kv.1)) :=
    ⟨by rw [List.length_map]; exact hz, acc.toList, c1, hv, by rw [Array.toArray_toList]; exact hS⟩
  exact ⟨.ref s.heap.objs.size, _, I.laid (t' := t1) hkeep (Nat.le_refl _) nw, rfl, q _ (I.hok.fresh (Nat.le_refl _))⟩
def c_keys (hc : X.calm = true) : C1 X (.type "list") dKeysL where
  r := _
  rule := crG_list hc
  sem := by
    intro x H S d rv Q m pk e o
    cases d <;> simp only [dKeysL, reduceCtorEq] at e
    split at e
    · rename_i hf
      cases e
      obtain ⟨a, kvs, rfl, hs, r⟩ := pk.dk m hf
      exact ⟨a, kvs, rfl, hs, o.lst m (keys_rpA r)⟩
    · cases e
def dList (d : D) : Option Rv := match dListOf d with
  | some r => some r
  | none => dKeysL d
def c_listD (hc : X.calm = true) : C1 X (.type "list") dList := c_list.or (c_keys hc)

/-! ### list(d.items()) -/
def dItemsL : D → Option Rv
  | .dict kvs => if kvs.all (fun p => flatK p.1) = true then some (.frs (.list (kvs.map fun p => .tuple [p.1, p.2]))) else none
  | _ => none
theorem kV_rp {K : PySem.W.Frag} {S : Hp} (k : Key) : Rp K S (kV k) (keyD k) := by
  cases k with
  | inl i => exact .int i
  | inr x => exact .str x
theorem items_rp {K : PySem.W.Frag} {S S' : Hp} (m : Sub S S') : ∀ {kvs : List (Key × V)} {ds : List (D × D)} {ts : List Addr}, RpK K S kvs ds → Paired (fun (t : Addr) (q : Key × V) => S' t = some (.tup [kV q.1, q.2])) ts kvs → RpA K S' (ts.map V.ref) (ds.map fun p => .tuple [p.1, p.2])
  | _, _, _, .nil, .nil => .nil
  | _, _, _, .cons r t, .cons q u => .cons (.tup (.inl (.inl q)) (.cons (kV_rp _) (.cons (r.sub m) .nil))) (items_rp m t u)
theorem paired_imp {α β : Type} {F G : α → β → Prop} : ∀ {l : List α} {m : List β}, Paired F l m → (∀ a ∈ l, ∀ b, F a b → G a b) → Paired G l m
  | _, _, .nil, _ => .nil
  | _, _, .cons r t, h => .cons (h _ List.mem_cons_self _ r) (paired_imp t fun a ha b => h a (List.mem_cons_of_mem _ ha) b)
def rItemsG (x : V) (H1 : Hp) (Q : VK) : Prop := ∃ (d : Addr) (kvs : List (Key × V)), x = .ref d ∧ Rd H1 d (.dK kvs) ∧ ∀ (H' : Hp) (p : Addr) (ts : List Addr), Sub H1 H' → H1 p = none → (∀ t ∈ ts, H1 t = none) → p ∉ ts → H' p = some (.lst (ts.map V.ref)) →
      Paired (fun (t : Addr) (q : Key × V) => H' t = some (.tup [kV q.1, q.2])) ts kvs → Q (.ref p) H'
theorem sx_litems (hc : X.calm = true) {apos cpos : Pos} (he : SX X W e f) (hg : Gl X "list") (hm : X.mg "list" = none) (hbase : attributeBase e "items" X.env (eval e X.env) = eval e X.env := by rfl) (hline : (apos.endLine == cpos.line) = true := by rfl)
    (hs : starEach [.Call (.Attribute e "items" apos) [] [] cpos] X.env = (false, eval (.Call (.Attribute e "items" apos) [] [] cpos) X.env) :: starEach [] X.env := by rfl) :
    SX X W (.Call (.Name "list" p) [.Call (.Attribute e "items" apos) [] [] cpos] [] pos) (op1 dItemsL f) := by
  refine PE.imp (t := fun σ H Q => tO X.K W X.mg (opn f) σ H fun x H1 => rItemsG x H1 Q) ?_ fun σ H Q h => ?_
  · refine ⟨fun pins s σ H Q I hq => ?_⟩
    refine wpAny_Call_Name_kw (ld_blt I hg hm PyProof.Rows.boot_list ?_)
    refine PyProof.Rows.callWith_type1 ?_ hs rfl
    rw [hs]
    show wpAny _ _ (spliced ((false, eval (.Call (.Attribute e "items" apos) [] [] cpos) X.env) :: backTo pos (starEach [] X.env))) _ _ s
    refine Calls.spliced_cons ?_
    refine wpAny_Call_method (T := "dict") (id := "dict.items") hbase rfl hline PySem.F.plainAttrs_dict PySem.F.slot_dict_items PySem.F.type_dict_items (thn ((so_opn he).run pins s σ H _ I hq) fun u s1 ⟨x, H1, I1, rx, d, kvs, ex, hd, q⟩ => ?_)
    subst ex
    obtain rfl : u = Value.ref d := rx
    obtain ⟨hz, lo, vs, kv, hdo⟩ := dk_rd I1.hok hd
    obtain ⟨ep, hat⟩ := hdo.dictAt
    have I2 : Inv X pins σ H1 { s1 with heap := s1.heap.push { cls := .type "dict_items", data := .fields #[.ref d] } } := I1.kept (t' := s1.toks) fun b ob q => Heap.get?_push_of_some _ q
    refine ⟨hdo.typeIs, hdo.mapOf.noDict, ?_⟩
    show wpAny _ _ (callWith cpos (.builtin "dict.items") [.ref d] [] []) _ X.xe s1
    refine method_meetsIn PySem.F.slot_dict_items PySem.F.entry_dict_items rfl (PySem.evalArgs_none ⟨rfl, hdo.typeIs, PySem.F.args_dict_items_1 _, _, meets_dict_items (mixKind X.prog X.w) d lo, ⟨vs, hdo⟩, ?_⟩)
    refine Calls.spliced_nil ?_
    refine PySem.W.kdx_call (knd := mixKind X.prog X.w) (kvs := vs) (ep := ep) (I1.ok.hd hc) ⟨_, Heap.get?_push_size _ rfl, rfl, rfl⟩ (hat.push _) (by rw [← kv.length]; exact hz) fun h' tk acc c as hk hS hl hG hacc => ?_
    obtain ⟨H', k1, k2, k3, k4, k5, k6, J⟩ := LiI.items_laid (tk := tk) I2 hz kv hk hS hl hG hacc
    exact ⟨.ref _, H', J, rfl, q H' _ as k1 k2 k3 k4 k5 k6⟩
  · refine op1_core (r := rItemsG) (op := dItemsL) (fun x H S d rv Q m pk e o => ?_) h
    cases d <;> simp only [dItemsL, reduceCtorEq] at e
    split at e
    · rename_i hf
      cases e
      obtain ⟨a, kvs, rfl, hs, r⟩ := pk.dk m hf
      refine ⟨a, kvs, rfl, hs, fun H' p ts hm hp ht hpt hl hpr => ?_⟩
      -- the tuples are shared, the list is not
      have hsub : Sub S fun b => if b ∈ ts then H' b else S b := fun b o' eb => by
        have : b ∉ ts := fun z => by have := ht b z; rw [m b o' eb] at this; cases this
        show (if b ∈ ts then H' b else S b) = some o'
        rw [if_neg this]; exact eb
      refine o _ H' (fun b => if b ∈ ts then H' b else S b) ⟨hm, hsub, fun b o' eb => ?_, fun b o' eb n => ?_⟩ ⟨p, rfl, hp, ?_, .lst hl (items_rp hsub r (paired_imp hpr fun t ht b q => by rw [if_pos ht]; exact q))⟩
      · have eb : (if b ∈ ts then H' b else S b) = some o' := eb
        by_cases hb : b ∈ ts
        · rw [if_pos hb] at eb; exact eb
        · rw [if_neg hb] at eb; exact hm _ _ (m _ _ eb)
      · have eb : (if b ∈ ts then H' b else S b) = some o' := eb
        by_cases hb : b ∈ ts
        · exact ht b hb
        · rw [if_neg hb, n] at eb; cases eb
      · show (if p ∈ ts then H' p else S p) = none
        rw [if_neg hpt]; exact m.none hp
    · cases e

/-! ### subscripts -/
theorem IxR.dict (hu : X.A.units + 1 < cLine) : IxR X fun x y H Q => ∃ a v, x = .ref a ∧ DGet H a y (some v) ∧ Q v H := by
  rintro value slice pins s σ H x y v u Q I rx ry ⟨a, z, rfl, g, q⟩ hs
  cases rx
  exact PyProof.Rows.tail_any (dict_typeIs I g) PySem.F.slot_dict_getitem.lookup (d_getItem hu I g ry fun w' s3 I3 rw' => ⟨z, H, I3, rw', q⟩) hs
theorem key_of_flat {K : PySem.W.Frag} {H S : Hp} {v : V} {d : D} (p : Pk K H S v d) (h : flatK d = true) : ∃ k, v = kV k ∧ d = keyD k := by
  cases d <;> simp only [flatK, Bool.false_eq_true] at h
  · exact ⟨.inl _, p.int, rfl⟩
  · exact ⟨.inr _, p.str, rfl⟩
theorem keq_keyD (k j : Key) : keq (keyD k) (keyD j) = decide (k = j) := by
  cases k <;> cases j <;> simp [keyD, keq]
theorem keyO_keyD (k : Key) : keyO (keyD k) = some k := by cases k <;> rfl
theorem keysO_map (ks : List Key) : keysO (ks.map keyD) = some ks := by
  induction ks with
  | nil => rfl
  | cons k ks ih => simp only [List.map_cons, keysO, keyO_keyD, ih]
theorem keq_tup (a b : List Key) : keq (.tuple (a.map keyD)) (.tuple (b.map keyD)) = decide (a = b) := by
  simp only [keq, keysO_map]
theorem rpK_get {K : PySem.W.Frag} {S : Hp} (k : Key) : ∀ {kvs : List (Key × V)} {ds : List (D × D)}, RpK K S kvs ds → match dget ds (keyD k) with
    | some d => ∃ v, valV kvs k = some v ∧ Rp K S v d
    | none => valV kvs k = none
  | _, _, .nil => rfl
  | _, _, .cons (k := j) r t => by
    have ih := rpK_get k t
    unfold dget
    rw [keq_keyD]
    by_cases h : j = k
    · rw [decide_eq_true h, if_pos rfl]
      exact ⟨_, valV_pos h, r⟩
    · rw [decide_eq_false h, if_neg Bool.false_ne_true, valV_neg h]
      exact ih
theorem rpT_get {K : PySem.W.Frag} {S : Hp} (k : List Key) : ∀ {kvs : List (List Key × V)} {ds : List (D × D)}, RpT K S kvs ds → match dget ds (.tuple (k.map keyD)) with
    | some d => ∃ v, valV kvs k = some v ∧ Rp K S v d
    | none => valV kvs k = none
  | _, _, .nil => rfl
  | _, _, .cons (k := j) r t => by
    have ih := rpT_get k t
    unfold dget
    rw [keq_tup]
    by_cases h : j = k
    · rw [decide_eq_true h, if_pos rfl]
      exact ⟨_, valV_pos h, r⟩
    · rw [decide_eq_false h, if_neg Bool.false_ne_true, valV_neg h]
      exact ih
theorem rpA_keys {K : PySem.W.Frag} {S : Hp} : ∀ {vs : List V} {ds : List D}, RpA K S vs ds → ds.all flatK = true → ∃ ks : List Key, vs = ks.map kV ∧ ds = ks.map keyD
  | _, _, .nil, _ => ⟨[], rfl, rfl⟩
  | _, _, .cons (d := d) r t, h => by
    simp only [List.all_cons, Bool.and_eq_true] at h
    obtain ⟨ks, e1, e2⟩ := rpA_keys t h.2
    obtain ⟨k, f1, f2⟩ := key_of_flat (H := S) (.sh r) h.1
    exact ⟨k :: ks, by rw [List.map_cons, ← f1, ← e1], by rw [List.map_cons, ← f2, ← e2]⟩
theorem all_tup {K : PySem.W.Frag} {S : Hp} {kvs : List (Key × V)} {ds : List (D × D)} (r : RpK K S kvs ds) (h : (ds.all fun p => tupK p.1) = true) : ds = [] := by
  cases r with
  | nil => rfl
  | cons r t =>
    rename_i k v vs d ds'
    simp only [List.all_cons, Bool.and_eq_true] at h
    obtain ⟨h1, _⟩ := h
    cases k <;> cases h1
/-- what a dict holds at a key that may be asked -/
theorem dget_ok {K : PySem.W.Frag} {H S : Hp} {x y : V} {kvs : List (D × D)} {k : D} (m : Sub S H) (p : Pk K H S x (.dict kvs)) (q : Pk K H S y k) (h : askK kvs k = true) (hk : ∀ b ys, y = .ref b → SqT K H b ys → H b = some (.tup ys)) :
    ∃ a o, x = .ref a ∧ DGet H a y o ∧ match dget kvs k with
      | some d => ∃ v, o = some v ∧ Rp K S v d
      | none => o = none := by
  have tupc : ∀ {kt : List (List Key × V)}, RpT K S kt kvs → (∀ a, Rd H a (.dT kt) → x = .ref a → tupK k = true → ∃ a o, x = .ref a ∧ DGet H a y o ∧ match dget kvs k with
      | some d => ∃ v, o = some v ∧ Rp K S v d
      | none => o = none) := fun {kt} r a ha hx ht => by
    cases k <;> simp only [tupK, Bool.false_eq_true] at ht
    rename_i xs
    obtain ⟨b, ys, rfl, hb, rb⟩ := q.tup m
    obtain ⟨ks, e1, e2⟩ := rpA_keys rb ht
    subst e1 e2
    refine ⟨a, _, hx, .inr ⟨kt, ks, b, ha, rfl, hk b _ rfl hb, rfl⟩, ?_⟩
    have g := rpT_get ks r
    revert g
    cases dget kvs (.tuple (ks.map keyD)) with
    | none => exact fun g => g
    | some d => exact fun g => g
  have flc : ∀ {kt : List (Key × V)}, RpK K S kt kvs → (∀ a, Rd H a (.dK kt) → x = .ref a → flatK k = true → ∃ a o, x = .ref a ∧ DGet H a y o ∧ match dget kvs k with
      | some d => ∃ v, o = some v ∧ Rp K S v d
      | none => o = none) := fun {kt} r a ha hx ht => by
    obtain ⟨key, e1, e2⟩ := key_of_flat q ht
    subst e1 e2
    refine ⟨a, _, hx, .inl ⟨kt, key, ha, rfl, rfl⟩, ?_⟩
    have g := rpK_get key r
    revert g
    cases dget kvs (keyD key) with
    | none => exact fun g => g
    | some d => exact fun g => g
  unfold askK at h
  simp only [Bool.or_eq_true, Bool.and_eq_true, Bool.not_eq_true'] at h
  rcases h with ⟨h1, h2⟩ | ⟨⟨h1, h2⟩, h3⟩
  · cases p with
    | sh r =>
      cases r with
      | dk hs ha => exact flc ha _ (m.mo _ _ trivial hs) rfl h1
      | dt hs hn ha => exact absurd (rpT_flat ha h2) hn
    | ow t =>
      cases t with
      | dk e r => exact flc r _ (.inl e) rfl h1
      | dt e hn r => exact absurd (rpT_flat r h2) hn
  · cases p with
    | sh r =>
      cases r with
      | dk hs ha => rw [all_tup ha h3] at h2; cases h2
      | dt hs hn ha => exact tupc ha _ (m.mo _ _ trivial hs) rfl h1
    | ow t =>
      cases t with
      | dk e r => rw [all_tup r h3] at h2; cases h2
      | dt e hn r => exact tupc r _ (.inl e) rfl h1
def dIdx : D → D → Option Rv
  | .list xs, .int i => (atI xs i).map .val
  | .tuple xs, .int i => (atI xs i).map .val
  | .str x, .int i => if x.length ≤ sizeLine then (atI x.cps.toList i).map fun c => .val (.str ⟨#[c]⟩) else none
  | .dict kvs, k => if flatK k = true ∧ askK kvs k = true then (dget kvs k).map .val else none
  | _, _ => none
theorem atI_rp {K : PySem.W.Frag} {S : Hp} {vs : List V} {ds : List D} {i : Int} {d : D} (r : RpA K S vs ds) (e : atI ds i = some d) : ∃ v, atI vs i = some v ∧ Rp K S v d := by
  unfold atI at e ⊢
  rw [r.length]
  cases q : ixN ds.length i with
  | none => rw [q] at e; cases e
  | some j => rw [q] at e; exact r.get e
theorem sx_ix (hu : X.A.units + 1 < cLine) (ha : SX X W a fa) (hb : SX X W b fb) (hs : PlainIx b) : SX X W (.Subscript a b pos) (op2 dIdx fa fb) := by
  refine PE.imp (pe_ix (IxR.or (IxR.or (IxR.or ix_list ix_tup) ix_str) (IxR.dict hu)) (so_opn ha) (so_opn hb) hs) fun σ H Q h => op2_core (op := dIdx) (fun x y H S d1 d2 rv Q m p1 p2 e o => ?_) h
  cases d1 <;> cases d2 <;> simp only [dIdx, reduceCtorEq] at e
  case str.int z i =>
    split at e
    · rename_i hz
      cases q : atI z.cps.toList i with
      | none => rw [q] at e; cases e
      | some c =>
        rw [q] at e; cases e
        rw [p1.str, p2.int]
        exact .inl (.inr ⟨z, i, c, rfl, rfl, hz, q, o.val m (.str _)⟩)
    · cases e
  case list.int xs i =>
    cases q : atI xs i with
    | none => rw [q] at e; cases e
    | some d =>
      rw [q] at e; cases e
      rw [p2.int]
      obtain ⟨a, ys, rfl, hs, r⟩ := p1.lst m
      obtain ⟨v, e1, e2⟩ := atI_rp r q
      exact .inl (.inl (.inl ⟨a, ys, i, v, rfl, rfl, hs, e1, o.val m e2⟩))
  case tuple.int xs i =>
    cases q : atI xs i with
    | none => rw [q] at e; cases e
    | some d =>
      rw [q] at e; cases e
      rw [p2.int]
      obtain ⟨a, ys, rfl, hs, r⟩ := p1.tup m
      obtain ⟨v, e1, e2⟩ := atI_rp r q
      exact .inl (.inl (.inr ⟨a, ys, i, v, rfl, rfl, hs, e1, o.val m e2⟩))
  all_goals
    split at e
    · rename_i hh
      obtain ⟨hf, hk⟩ := hh
      obtain ⟨a, ov, rfl, g, hv⟩ := dget_ok m p1 p2 hk (fun b ys z hb => by
        subst z
        obtain ⟨k, e1, _⟩ := key_of_flat p2 hf
        cases k <;> cases e1)
      revert e hv
      generalize dget _ _ = dd
      intro e hv
      cases dd with
      | none => cases e
      | some d =>
        cases e
        obtain ⟨v, rfl, rv⟩ := hv
        exact .inr ⟨a, v, rfl, g, o.val m rv⟩
    · cases e
end
end Ev

set_option Elab.async false
set_option linter.all false
set_option maxRecDepth 100000
set_option maxHeartbeats 1000000
/-! EvT: targets, statements, loops. -/
namespace Ev
open PySem PySem.Spec L2
section
variable {K : PySem.W.Frag} {Γ : G} {ρ ρ' : En} {σ : St} {H H' S S' : Hp} {v : V} {r : Rv} {d : D}
/-- a slot takes another value -/
theorem Rel.put {i : Nat} {s : Sl} {v : V} (R : Rel K Γ ρ σ H S) (h : SlOk K Γ H S i (some v) s) (hh : held s = true → ∀ (j : Nat) t, j ≠ i → ρ[j]? = some t → held t = true → σ[j]? ≠ some (some v)) :
    Rel K Γ (ρ.set i s) (σ.set i (some v)) H S := by
  have get : ∀ (j : Nat) t, (ρ.set i s)[j]? = some t → (j = i ∧ t = s ∧ i < ρ.length) ∨ (j ≠ i ∧ ρ[j]? = some t) := fun j t e => by
    by_cases q : i = j
    · subst q
      have hl : i < ρ.length := by
        have := (List.getElem?_eq_some_iff.mp e).1
        simpa using this
      rw [List.getElem?_set_self hl] at e
      cases e
      exact .inl ⟨rfl, rfl, hl⟩
    · rw [List.getElem?_set_ne q] at e
      exact .inr ⟨fun z => q z.symm, e⟩
  have sg : ∀ j, j ≠ i → (σ.set i (some v))[j]? = σ[j]? := fun j q => List.getElem?_set_ne (fun z => q z.symm)
  have si : i < ρ.length → (σ.set i (some v))[i]? = some (some v) := fun hl => List.getElem?_set_self (by rw [← R.len]; exact hl)
  refine ⟨R.sub, R.s0, R.keep, R.new, R.lent, by rw [List.length_set, List.length_set]; exact R.len, fun j t e => ?_, fun j k t u a e1 e2 h1 h2 s1 s2 => ?_⟩
  · rcases get j t e with ⟨rfl, rfl, hl⟩ | ⟨hj, e⟩
    · exact ⟨_, si hl, h⟩
    · rw [sg j hj]; exact R.sl j t e
  · rcases get j t e1 with ⟨rfl, rfl, hl⟩ | ⟨hj, f1⟩ <;> rcases get k u e2 with ⟨rfl, rfl, hl'⟩ | ⟨hk, f2⟩
    · rfl
    · rw [si hl] at s1; cases s1
      rw [sg k hk] at s2
      exact absurd s2 (hh h1 k u hk f2 h2)
    · rw [si hl'] at s2; cases s2
      rw [sg j hj] at s1
      exact absurd s1 (hh h2 j t hj f1 h1)
    · rw [sg j hj] at s1; rw [sg k hk] at s2
      exact R.ap j k t u a f1 f2 h1 h2 s1 s2
theorem Rel.putVal {i : Nat} (R : Rel K Γ ρ σ H S) (h : Rp K S v d) : Rel K Γ (ρ.set i (.val d)) (σ.set i (some v)) H S := R.put ⟨v, rfl, h⟩ fun q => by cases q
theorem Rel.putOwn {i : Nat} {a : Addr} (R : Rel K Γ ρ σ H S) (n : S a = none) (z : Γ.H0 a = none) (t : Top K H S a d) (ap : ∀ (j : Nat) s, ρ[j]? = some s → held s = true → σ[j]? ≠ some (some (.ref a))) :
    Rel K Γ (ρ.set i (.own d)) (σ.set i (some (.ref a))) H S := R.put ⟨a, rfl, n, z, t⟩ fun _ j t _ e hh => ap j t e hh
end

/-! ### targets -/
/-- all slots but us are as they were -/
def SameBut (us : List Nat) (σ σ' : St) : Prop := σ'.length = σ.length ∧ ∀ i, i ∉ us → σ'[i]? = σ[i]?
theorem SameBut.refl (us : List Nat) (σ : St) : SameBut us σ σ := ⟨rfl, fun _ _ => rfl⟩
theorem SameBut.trans {us vs : List Nat} {σ σ' σ'' : St} (a : SameBut us σ σ') (b : SameBut vs σ' σ'') : SameBut (us ++ vs) σ σ'' :=
  ⟨b.1.trans a.1, fun i h => (b.2 i fun z => h (List.mem_append_right _ z)).trans (a.2 i fun z => h (List.mem_append_left _ z))⟩
def tGt (K : PySem.W.Frag) (g : Tg) (us : List Nat) : TG := fun v σ H Q => ∃ Γ ρ S d ρ', Rel K Γ ρ σ H S ∧ Rp K S v d ∧ g d ρ = some ρ' ∧ ∀ σ', SameBut us σ σ' → Rel K Γ ρ' σ' H S → Q σ' H
def tGs (K : PySem.W.Frag) (gs : List Tg) (us : List Nat) : TGs := fun vs σ H Q => ∃ Γ ρ S ds ρ', Rel K Γ ρ σ H S ∧ RpA K S vs ds ∧ stAll gs ds ρ = some ρ' ∧ ∀ σ', SameBut us σ σ' → Rel K Γ ρ' σ' H S → Q σ' H
abbrev SG (X : Cx) (tg : Expr) (g : Tg) (us : List Nat) : Prop := PG X tg (tGt X.K g us)
abbrev SGs (X : Cx) (tgs : List Expr) (gs : List Tg) (us : List Nat) : Prop := PGs X tgs (tGs X.K gs us)
theorem PG.imp {X : Cx} {e : Expr} {t u : TG} (h : PG X e t) (q : ∀ v σ H Q, u v σ H Q → t v σ H Q) : PG X e u := ⟨fun pins s σ H v w Q I r h2 => h.run pins s σ H v w Q I r (q v σ H Q h2)⟩
theorem PGs.imp {X : Cx} {e : List Expr} {t u : TGs} (h : PGs X e t) (q : ∀ v σ H Q, u v σ H Q → t v σ H Q) : PGs X e u := ⟨fun pins s σ H v w Q I r h2 => h.run pins s σ H v w Q I r (q v σ H Q h2)⟩
section
variable {X : Cx} {W : WX} {pos : Pos} {us vs : List Nat}
theorem sg_name {i : Nat} {x : Str} (hN : X.N.Nodup) (hi : X.N[i]? = some x) (hx : Loc X.env.scope x) (hf : X.fn x = true ∨ X.env.scope.names.lookup x = some .local := by first | exact .inl rfl | exact .inr rfl | assumption) : SG X (.Name x pos) (stI i) [i] :=
  PG.imp (pg_name hN hi hx hf) fun v σ H Q ⟨Γ, ρ, S, d, ρ', R, rp, e, k⟩ => by
    cases e
    exact k _ ⟨List.length_set, fun j hj => List.getElem?_set_ne fun z => hj (by simp [z])⟩ (R.putVal rp)
theorem sgs_nil : SGs X [] [] [] := PGs.imp pgs_nil fun vs σ H Q ⟨Γ, ρ, S, ds, ρ', R, rp, e, k⟩ => by
  cases rp with
  | nil => cases e; exact ⟨rfl, k _ (.refl _ _) R⟩
  | cons h t => cases e
theorem sgs_cons {e : Expr} {es : List Expr} {g : Tg} {gs : List Tg} (h1 : SG X e g us) (h2 : SGs X es gs vs) (hs : (assignEach (e :: es) X.env).map (·.2) = assign e X.env :: (assignEach es X.env).map (·.2) := by rfl) : SGs X (e :: es) (g :: gs) (us ++ vs) :=
  PGs.imp (pgs_cons h1 h2 hs) fun vs σ H Q ⟨Γ, ρ, S, ds, ρ', R, rp, e, k⟩ => by
    cases rp with
    | nil => cases e
    | @cons v vs d ds h t =>
      unfold stAll at e
      cases q : g d ρ with
      | none => rw [q] at e; cases e
      | some ρ1 =>
        rw [q] at e
        exact ⟨v, vs, rfl, Γ, ρ, S, d, ρ1, R, h, q, fun σ1 s1 R1 => ⟨Γ, ρ1, S, ds, ρ', R1, t, e, fun σ2 s2 R2 => k σ2 (s1.trans s2) R2⟩⟩
theorem stAll_len : ∀ {gs : List Tg} {ds : List D} {ρ ρ' : En}, stAll gs ds ρ = some ρ' → ds.length = gs.length
  | [], [], _, _, _ => rfl
  | [], _ :: _, _, _, e => by cases e
  | _ :: _, [], _, _, e => by cases e
  | g :: gs, d :: ds, ρ, ρ', e => by
    unfold stAll at e
    cases q : g d ρ with
    | none => rw [q] at e; cases e
    | some ρ1 => rw [q] at e; rw [List.length_cons, List.length_cons, stAll_len e]
theorem sg_tup {es : List Expr} {k : Nat} {gs : List Tg} (hc : X.calm = true) (h : SGs X es gs us) (hn : (assignEach es X.env).length = gs.length := by rfl) (hst : (assignEach es X.env).findIdx? (·.1) = none := by rfl) : SG X (.Tuple es k pos) (stT gs) us := by
  have both : PG X (.Tuple es k pos) fun v σ H Q => gTup X.K gs.length (tGs X.K gs us) v σ H Q ∨ gLst X.K gs.length (tGs X.K gs us) v σ H Q := ⟨fun pins s σ H v u Q I r q => by
    rcases q with q | q
    · exact (pg_tup hc h hn hst).run pins s σ H v u Q I r q
    · exact (pg_lst hc h hn hst).run pins s σ H v u Q I r q⟩
  refine PG.imp both fun v σ H Q ⟨Γ, ρ, S, d, ρ', R, rp, e, k⟩ => ?_
  cases d <;> simp only [stT, reduceCtorEq] at e
  · cases rp with
    | lst hs ha => exact .inr ⟨_, _, rfl, R.sub.mo.sqL hs, by rw [ha.length, stAll_len e], Γ, ρ, S, _, ρ', R, ha, e, k⟩
  · cases rp with
    | tup hs ha => exact .inl ⟨_, _, rfl, R.sub.mo.sqT hs, by rw [ha.length, stAll_len e], Γ, ρ, S, _, ρ', R, ha, e, k⟩
end

/-! ### statements -/
def SPost (K : PySem.W.Frag) (W : WX) (cm : Str → Option Value) (Γ : G) (S : Hp) (D : Ends) : RS → Prop
  | .nx ρ => ∀ σ H' S', Sub S S' → Rel K Γ ρ σ H' S' → D.nx σ H'
  | .rt r ρ => ∀ σ H' S' v, Sub S S' → Rel K Γ ρ σ H' S' → RvOk K Γ ρ σ H' S' v r → D.rt v H'
  | .bk ρ => ∀ σ H' S', Sub S S' → Rel K Γ ρ σ H' S' → D.bk σ H'
  | .ct ρ => ∀ σ H' S', Sub S S' → Rel K Γ ρ σ H' S' → D.ct σ H'
  | .exc c ρ => ∀ σ H' S', Sub S S' → Rel K Γ ρ σ H' S' → ∀ cls, cm c = some cls → W cls none σ H'
  | .bad => False
theorem SPost.sub {K : PySem.W.Frag} {W : WX} {cm : Str → Option Value} {Γ : G} {S S' : Hp} {D : Ends} {r : RS} (h : SPost K W cm Γ S D r) (m : Sub S S') : SPost K W cm Γ S' D r := by
  cases r with
  | nx ρ => exact fun σ H1 S1 m1 R => h σ H1 S1 (m.trans m1) R
  | rt r ρ => exact fun σ H1 S1 v m1 R => h σ H1 S1 v (m.trans m1) R
  | bk ρ => exact fun σ H1 S1 m1 R => h σ H1 S1 (m.trans m1) R
  | ct ρ => exact fun σ H1 S1 m1 R => h σ H1 S1 (m.trans m1) R
  | exc c ρ => exact fun σ H1 S1 m1 R => h σ H1 S1 (m.trans m1) R
  | bad => exact h
def tS (K : PySem.W.Frag) (W : WX) (cm : Str → Option Value) (f : Sm) : TS := fun D σ H => ∃ Γ ρ S, Rel K Γ ρ σ H S ∧ SPost K W cm Γ S D (f ρ)
abbrev SS (X : Cx) (W : WX) (st : Stmt) (f : Sm) : Prop := PS X st (tS X.K W X.mg f)
abbrev SSs (X : Cx) (W : WX) (st : List Stmt) (f : Sm) : Prop := PSs X st (tS X.K W X.mg f)
section
variable {X : Cx} {W : WX} {pos : Pos} {e : Expr} {f : Ex} {st : Stmt} {rest : List Stmt} {g g' : Sm} {gs : List Sm}
theorem ss_nil : SSs X W [] (seqS []) := PSs.imp pss_nil fun D σ H ⟨Γ, ρ, S, R, p⟩ => p σ H S (.refl _) R
theorem ss_cons (h1 : SS X W st g) (h2 : SSs X W rest (seqS gs)) : SSs X W (st :: rest) (seqS (g :: gs)) := by
  refine PSs.imp (pss_cons h1 h2) fun D σ H ⟨Γ, ρ, S, R, p⟩ => ⟨Γ, ρ, S, R, ?_⟩
  unfold seqS at p
  cases q : g ρ with
  | nx ρ1 =>
    rw [q] at p
    exact fun σ1 H1 S1 m1 R1 => ⟨Γ, ρ1, S1, R1, p.sub m1⟩
  | rt r ρ1 => rw [q] at p; exact p
  | bk ρ1 => rw [q] at p; exact p
  | ct ρ1 => rw [q] at p; exact p
  | exc c ρ1 => rw [q] at p; exact p
  | bad => rw [q] at p; exact p
theorem ss_pass : SS X W (.Pass pos) (seqS []) := PS.imp ps_pass fun D σ H ⟨Γ, ρ, S, R, p⟩ => p σ H S (.refl _) R
theorem ss_break : SS X W (.Break pos) (fun ρ => .bk ρ) := PS.imp ps_break fun D σ H ⟨Γ, ρ, S, R, p⟩ => p σ H S (.refl _) R
theorem ss_continue : SS X W (.Continue pos) (fun ρ => .ct ρ) := PS.imp ps_continue fun D σ H ⟨Γ, ρ, S, R, p⟩ => p σ H S (.refl _) R
/-- from an expression's end to a statement's -/
theorem post_of {K : PySem.W.Frag} {cm : Str → Option Value} {Γ : G} {S : Hp} {D : Ends} {α : Type} {r : RE α} {σ : St} {k : α → En → RS} {kk : α → En → Hp → Hp → Prop}
    (p : SPost K W cm Γ S D (r.go k)) (h : ∀ a ρ1 H1 S1, Sub S S1 → Rel K Γ ρ1 σ H1 S1 → SPost K W cm Γ S1 D (k a ρ1) → kk a ρ1 H1 S1) : Post K W cm Γ σ S r kk := by
  cases r with
  | ok a ρ => exact fun H1 S1 m1 R1 => h a ρ H1 S1 m1 R1 (p.sub m1)
  | exc c ρ => exact fun H1 S1 m1 R1 => p σ H1 S1 m1 R1
  | bad => exact p
theorem setS_core {i : Nat} {σ : St} {H : Hp} {D : Ends} (h : tS X.K W X.mg (setS i f) D σ H) : tX X.K W X.mg f σ H fun v H1 => D.nx (σ.set i (some v)) H1 := by
  obtain ⟨Γ, ρ, S, R, p⟩ := h
  refine ⟨Γ, ρ, S, R, ?_⟩
  unfold setS at p
  cases q : f ρ with
  | exc c ρ1 => rw [q] at p; exact fun H1 S1 m1 R1 => p σ H1 S1 m1 R1
  | bad => rw [q] at p; exact p
  | ok r ρ1 =>
    rw [q, RE.go_ok] at p
    intro H1 S1 m1 R1 v hv
    cases r with
    | val d => exact p _ H1 S1 m1 (R1.putVal hv)
    | frs d =>
      obtain ⟨a, rfl, n, z, t, ap⟩ := hv
      exact p _ H1 S1 m1 (R1.putOwn n z t ap)
    | slot j =>
      simp only at p
      cases q2 : close (.slot j) ρ1 with
      | ok d ρ2 =>
        rw [q2] at p
        obtain ⟨S2, m2, R2, rp⟩ := close_ok R1 hv q2
        exact p _ H1 S2 (m1.trans m2) (R2.putVal rp)
      | exc c ρ2 => exact (close_exc q2).elim
      | bad => rw [q2] at p; exact p.elim
theorem ss_set {i : Nat} {x : Str} {pos' : Pos} (hN : X.N.Nodup) (hi : X.N[i]? = some x) (hx : Loc X.env.scope x) (he : SX X W e f) (hs : swapsWith e (some (.Name x pos')) pos.line X.env = pure false := by rfl)
    (hf : X.fn x = true ∨ X.env.scope.names.lookup x = some .local := by first | exact .inl rfl | exact .inr rfl | assumption) : SS X W (.Assign [.Name x pos'] e pos) (setS i f) :=
  PS.imp (ps_set hN hi hx he hs hf) fun _ _ _ h => setS_core h
theorem ss_asg {tg : Expr} {t : Tg} {us : List Nat} (he : SX X W e f) (hg : SG X tg t us) (hs : swapsWithSole [tg] e pos.line X.env = pure false := by rfl) (hw : swappedStores [tg] e X.env = pure none := by rfl)
    (h1 : (assignEach [tg] X.env).map (·.2) = [assign tg X.env] := by rfl) : SS X W (.Assign [tg] e pos) (asgS t f) := by
  refine PS.imp (ps_asg (sv_clo he) hg hs hw h1) fun D σ H ⟨Γ, ρ, S, R, p⟩ => ⟨Γ, ρ, S, R, ?_⟩
  unfold asgS at p
  refine post_of (k := fun d ρ => match t d ρ with | some ρ => .nx ρ | none => .bad) p fun d ρ1 H1 S1 m1 R1 p1 v hv => ?_
  cases q : t d ρ1 with
  | none => simp only [q] at p1; exact p1.elim
  | some ρ2 =>
    simp only [q] at p1
    exact ⟨Γ, ρ1, S1, d, ρ2, R1, hv, q, fun σ' _ R' => p1 σ' H1 S1 (.refl _) R'⟩
theorem ss_exp (he : SX X W e f) (hs : swapsWith e none pos.line X.env = pure false := by rfl) : SS X W (.Expr e pos) (expS f) := by
  refine PS.imp (ps_expr he hs) fun D σ H ⟨Γ, ρ, S, R, p⟩ => ⟨Γ, ρ, S, R, ?_⟩
  unfold expS at p
  exact post_of (k := fun _ ρ => .nx ρ) p fun r ρ1 H1 S1 m1 R1 p1 v hv => p1 σ H1 S1 (.refl _) R1
theorem ss_ret (he : SX X W e f) : SS X W (.Return (some e) pos) (retS f) := by
  refine PS.imp (ps_ret he) fun D σ H ⟨Γ, ρ, S, R, p⟩ => ⟨Γ, ρ, S, R, ?_⟩
  unfold retS at p
  exact post_of (k := fun r ρ => .rt r ρ) p fun r ρ1 H1 S1 m1 R1 p1 v hv => p1 σ H1 S1 v (.refl _) R1 hv
theorem ss_retN : SS X W (.Return none pos) retN := PS.imp ps_retN fun D σ H ⟨Γ, ρ, S, R, p⟩ => p σ H S .non (.refl _) R .non
theorem ss_if {c : Expr} {a b : List Stmt} {t : Tt} (hc : ST X W c t) (ha : SSs X W a g) (hb : SSs X W b g') : SS X W (.If c a b pos) (ifS t g g') := by
  refine PS.imp (ps_if hc ha hb) fun D σ H ⟨Γ, ρ, S, R, p⟩ => ⟨Γ, ρ, S, R, ?_⟩
  unfold ifS at p
  refine post_of (k := fun c ρ => if c = true then g ρ else g' ρ) p fun c ρ1 H1 S1 m1 R1 p1 => ?_
  cases c with
  | true => rw [if_pos rfl] at p1 ⊢; exact ⟨Γ, ρ1, S1, R1, p1⟩
  | false => rw [if_neg Bool.false_ne_true] at p1 ⊢; exact ⟨Γ, ρ1, S1, R1, p1⟩
/-- raise C('..'), C an own class -/
theorem ss_raise {c : Str} {cls : Value} {t : St → Hp → XK → Prop} (hc : X.calm = true) (tk : Takes X W) (he : PMk X e t) (ht : ∀ σ H Q, Q cls none H → t σ H Q) (hm : X.mg c = some cls) : SS X W (.Raise (some e) none pos) (raiS c) := by
  refine PS.imp (ps_raise hc tk he) fun D σ H ⟨Γ, ρ, S, R, p⟩ => ht _ _ _ ?_
  exact p σ H S (.refl _) R cls hm

/-! ### loops -/
def ItOk (K : PySem.W.Frag) (S0 : Hp) (J : It) (ds : List D) : Prop := ∀ (i : Nat) (H S : Hp), Sub S0 S → Sub S H →
  (i = ds.length → J.stop i H) ∧ ∀ d, ds[i]? = some d → J.go i H ∧ ∀ x H', J.yld i H x H' → ∃ S', Grow H S H' S' ∧ Rp K S' x d
def tI (K : PySem.W.Frag) (W : WX) (cm : Str → Option Value) (it : Itr) : TI := fun σ H Q => ∃ Γ ρ S, Rel K Γ ρ σ H S ∧ Post K W cm Γ σ S (it ρ) fun ds _ H' S' => ∀ J, ItOk K S' J ds → Q J H'
abbrev SI (X : Cx) (W : WX) (tg iter : Expr) (it : Itr) : Prop := PI X tg iter (tI X.K W X.mg it)
theorem PI.imp {X : Cx} {tg e : Expr} {t u : TI} (h : PI X tg e t) (q : ∀ σ H Q, u σ H Q → t σ H Q) : PI X tg e u := ⟨fun pins s σ H Q I w => h.run pins s σ H Q I (q σ H Q w)⟩
theorem drop_cons {α : Type} {ds : List α} {i : Nat} {d : α} (h : ds[i]? = some d) : ds.drop i = d :: ds.drop (i + 1) := by
  obtain ⟨hl, rfl⟩ := List.getElem?_eq_some_iff.mp h
  exact List.drop_eq_getElem_cons hl
variable {tg iter : Expr} {body : List Stmt} {it : Itr} {t : Tg}
def forB (J : It) (gt : TG) (tb : TS) (D : Ends) (σ : St) (H1 : Hp) : Prop := ∃ W : Nat → Nat → St → Hp → Prop, (∃ m, W 0 m σ H1) ∧ ∀ i m σ H, W i m σ H →
  (J.stop i H ∧ D.nx σ H) ∨ (J.go i H ∧ ∃ N : St → Hp → Prop, (∀ σ' H', N σ' H' → ∃ m', m' < m ∧ W (i + 1) m' σ' H') ∧ ∀ x H', J.yld i H x H' → gt x σ H' fun σ2 H2 => tb { D with nx := N, ct := N, bk := D.nx } σ2 H2)
theorem for_coreJ (us : List Nat) {Γ : G} {ρ1 : En} {σ : St} {H1 S1 : Hp} {D : Ends} {J : It} {ds : List Ev.D} (R1 : Rel X.K Γ ρ1 σ H1 S1) (p1 : SPost X.K W X.mg Γ S1 D (forLoop t g ds ρ1)) (hJ : ItOk X.K S1 J ds) : forB J (tGt X.K t us) (tS X.K W X.mg g) D σ H1 := by
  generalize hT : forLoop t g ds ρ1 = T at p1
  refine ⟨fun i m σ H => m = ds.length - i ∧ i ≤ ds.length ∧ ∃ ρi Si, Sub S1 Si ∧ Rel X.K Γ ρi σ H Si ∧ forLoop t g (ds.drop i) ρi = T, ⟨ds.length, by simp, Nat.zero_le _, ρ1, S1, .refl _, R1, by rw [List.drop_zero]; exact hT⟩, ?_⟩
  rintro i m σi Hi ⟨rfl, hi, ρi, Si, mi, Ri, ei⟩
  by_cases hlt : i < ds.length
  · obtain ⟨d, hd⟩ : ∃ d, ds[i]? = some d := ⟨_, List.getElem?_eq_getElem hlt⟩
    obtain ⟨go, yl⟩ := (hJ i Hi Si mi Ri.sub).2 d hd
    rw [drop_cons hd] at ei
    refine .inr ⟨go, fun σ' H' => ∃ ρi Si, Sub S1 Si ∧ Rel X.K Γ ρi σ' H' Si ∧ forLoop t g (ds.drop (i + 1)) ρi = T, fun σ' H' q => ⟨ds.length - (i + 1), by omega, rfl, hlt, q⟩, fun x H' hx => ?_⟩
    obtain ⟨S', gr, rp⟩ := yl x H' hx
    have R' := Ri.grow gr
    unfold forLoop at ei
    cases q : t d ρi with
    | none => simp only [q] at ei; rw [← ei] at p1; exact p1.elim
    | some ρ2 =>
      simp only [q] at ei
      refine ⟨Γ, ρi, S', d, ρ2, R', rp, q, fun σ2 _ R2 => ⟨Γ, ρ2, S', R2, ?_⟩⟩
      cases q2 : g ρ2 with
      | nx ρ3 =>
        simp only [q2] at ei
        exact fun σ3 H3 S3 m3 R3 => ⟨ρ3, S3, (mi.trans gr.s).trans m3, R3, ei⟩
      | ct ρ3 =>
        simp only [q2] at ei
        exact fun σ3 H3 S3 m3 R3 => ⟨ρ3, S3, (mi.trans gr.s).trans m3, R3, ei⟩
      | bk ρ3 =>
        simp only [q2] at ei
        rw [← ei] at p1
        exact fun σ3 H3 S3 m3 R3 => p1 σ3 H3 S3 ((mi.trans gr.s).trans m3) R3
      | rt r ρ3 =>
        simp only [q2] at ei
        rw [← ei] at p1
        exact fun σ3 H3 S3 v m3 R3 => p1 σ3 H3 S3 v ((mi.trans gr.s).trans m3) R3
      | exc c ρ3 =>
        simp only [q2] at ei
        rw [← ei] at p1
        exact fun σ3 H3 S3 m3 R3 => p1 σ3 H3 S3 ((mi.trans gr.s).trans m3) R3
      | bad =>
        simp only [q2] at ei
        rw [← ei] at p1
        exact p1.elim
  · have e : i = ds.length := by omega
    subst e
    rw [List.drop_length] at ei
    have ei : RS.nx ρi = T := ei
    rw [← ei] at p1
    exact .inl ⟨(hJ _ Hi Si mi Ri.sub).1 rfl, p1 σi Hi Si mi Ri⟩
theorem for_core {σ : St} {H : Hp} {D : Ends} (us : List Nat) (h : tS X.K W X.mg (forS t it g) D σ H) : tFor (tI X.K W X.mg it) (tGt X.K t us) (tS X.K W X.mg g) D σ H := by
  obtain ⟨Γ, ρ, S, R, p⟩ := h
  refine ⟨Γ, ρ, S, R, ?_⟩
  unfold forS at p
  exact post_of (k := fun ds ρ => forLoop t g ds ρ) p fun ds ρ1 H1 S1 m1 R1 p1 J hJ => for_coreJ us R1 p1 hJ
theorem ss_for (hp : PassesOwn (model X.prog X.w) X.A X.env X.xe) (hc : X.calm = true) {us : List Nat} (hi : SI X W tg iter it) (hg : SG X tg t us) (hb : SSs X W body g) (hs : ∀ x, foldedSetIterable iter X.env x = pure x := by intro _; rfl) :
    SS X W (.For tg iter body [] pos) (forS t it g) := PS.imp (ps_for hp hc hi hg hb hs) fun _ _ _ h => for_core us h
theorem ss_while {c : Expr} {tt : Tt} (n : Nat) (hp : PassesOwn (model X.prog X.w) X.A X.env X.xe) (hc : ST X W c tt) (hb : SSs X W body g) : SS X W (.While c body [] pos) (whLoop tt g n) := by
  refine PS.imp (ps_while hp hc hb) fun D σ H ⟨Γ, ρ, S, R, p⟩ => ?_
  generalize hT : whLoop tt g n ρ = T at p
  refine ⟨fun m σ H => ∃ ρi Si, Sub S Si ∧ Rel X.K Γ ρi σ H Si ∧ whLoop tt g m ρi = T, ⟨n, ρ, S, .refl _, R, hT⟩, ?_⟩
  rintro m σi Hi ⟨ρi, Si, mi, Ri, ei⟩
  refine ⟨Γ, ρi, Si, Ri, ?_⟩
  cases m with
  | zero => have ei : RS.bad = T := ei; rw [← ei] at p; exact p.elim
  | succ m =>
    unfold whLoop at ei
    cases q : tt ρi with
    | exc c ρ1 => simp only [q] at ei; rw [← ei] at p; exact fun H1 S1 m1 R1 => p σi H1 S1 (mi.trans m1) R1
    | bad => simp only [q] at ei; rw [← ei] at p; exact p
    | ok b ρ1 =>
      intro H1 S1 m1 R1
      cases b with
      | false =>
        simp only [q] at ei
        rw [← ei] at p
        exact iteF (p σi H1 S1 (mi.trans m1) R1)
      | true =>
        simp only [q] at ei
        refine iteT ?_
        refine ⟨fun σ' H' => ∃ ρi Si, Sub S Si ∧ Rel X.K Γ ρi σ' H' Si ∧ whLoop tt g m ρi = T, fun σ' H' q => ⟨m, Nat.lt_succ_self _, q⟩, Γ, ρ1, S1, R1, ?_⟩
        cases q2 : g ρ1 with
        | nx ρ3 => simp only [q2] at ei; exact fun σ3 H3 S3 m3 R3 => ⟨ρ3, S3, (mi.trans m1).trans m3, R3, ei⟩
        | ct ρ3 => simp only [q2] at ei; exact fun σ3 H3 S3 m3 R3 => ⟨ρ3, S3, (mi.trans m1).trans m3, R3, ei⟩
        | bk ρ3 => simp only [q2] at ei; rw [← ei] at p; exact fun σ3 H3 S3 m3 R3 => p σ3 H3 S3 ((mi.trans m1).trans m3) R3
        | rt r ρ3 => simp only [q2] at ei; rw [← ei] at p; exact fun σ3 H3 S3 v m3 R3 => p σ3 H3 S3 v ((mi.trans m1).trans m3) R3
        | exc c ρ3 => simp only [q2] at ei; rw [← ei] at p; exact fun σ3 H3 S3 m3 R3 => p σ3 H3 S3 ((mi.trans m1).trans m3) R3
        | bad => simp only [q2] at ei; rw [← ei] at p; exact p.elim
end
end Ev

set_option Elab.async false
set_option linter.all false
set_option maxRecDepth 100000
set_option maxHeartbeats 1000000
/-! EvC: what is walked, comprehensions. -/
namespace Ev
open PySem PySem.Spec L2
section
variable {X : Cx} {W : WX} {pos p : Pos} {tg iter e e2 a b : Expr} {f fa fb : Ex}
/-! ### what is walked -/
theorem PI.or {t u : TI} (h : PI X tg iter t) (h' : PI X tg iter u) : PI X tg iter fun σ H R => t σ H R ∨ u σ H R := ⟨fun pins s σ H R I w => by
  rcases w with w | w
  · exact h.run pins s σ H R I w
  · exact h'.run pins s σ H R I w⟩
theorem itl_ok {K : PySem.W.Frag} {S0 : Hp} {a : Addr} {xs : List V} {ds : List D} (hs : SqL K S0 a xs) (r : RpA K S0 xs ds) : ItOk K S0 (Itl K a) ds := fun i H S m m2 => by
  have hH := (m.trans m2).mo.sqL hs
  refine ⟨fun e => ⟨xs, hH, by rw [r.length]; omega⟩, fun d hd => ?_⟩
  obtain ⟨v, hv, rv⟩ := r.get hd
  refine ⟨⟨xs, v, hH, hv⟩, fun x H' y => ?_⟩
  obtain ⟨rfl, y⟩ := y
  have := y xs hH
  rw [hv] at this; cases this
  exact ⟨S, .refl m2, rv.sub m⟩
theorem itt_ok {K : PySem.W.Frag} {S0 : Hp} {a : Addr} {xs : List V} {ds : List D} (hs : SqT K S0 a xs) (r : RpA K S0 xs ds) : ItOk K S0 (Itt K a) ds := fun i H S m m2 => by
  have hH := (m.trans m2).mo.sqT hs
  refine ⟨fun e => ⟨xs, hH, by rw [r.length]; omega⟩, fun d hd => ?_⟩
  obtain ⟨v, hv, rv⟩ := r.get hd
  refine ⟨⟨xs, v, hH, hv⟩, fun x H' y => ?_⟩
  obtain ⟨rfl, y⟩ := y
  have := y xs hH
  rw [hv] at this; cases this
  exact ⟨S, .refl m2, rv.sub m⟩
/-- from a shared value to the walk over it -/
theorem walk_core {h : D → En → RE (List D)} {F : V → Hp → (It → Hp → Prop) → Prop} (hh : ∀ d ρ ds ρ', h d ρ = .ok ds ρ' → ρ' = ρ) (hx : ∀ d ρ c ρ', h d ρ ≠ .exc c ρ')
    (sem : ∀ (x : V) (H S : Hp) (d : D) (ρ : En) (ds : List D) (R : It → Hp → Prop), Sub S H → Rp X.K S x d → h d ρ = .ok ds ρ → (∀ J, ItOk X.K S J ds → R J H) → F x H R)
    {σ : St} {H : Hp} {R : It → Hp → Prop} (q : tI X.K W X.mg (fun ρ => (clo f ρ).bind h) σ H R) : tV X.K W X.mg (clo f) σ H fun x H1 => F x H1 R := by
  obtain ⟨Γ, ρ, S, R0, p⟩ := q
  refine ⟨Γ, ρ, S, R0, Post.imp (Post.of_bind p) fun d ρ1 H1 S1 _ m1 R1 k v hv => ?_⟩
  obtain ⟨_, _, k⟩ := k
  cases e : h d ρ1 with
  | ok ds ρ2 =>
    have := hh _ _ _ _ e
    subst this
    rw [e] at k
    exact sem v H1 S1 d ρ2 ds R R1.sub hv e fun J hJ => k H1 S1 (.refl _) R1 J hJ
  | exc c ρ2 => exact absurd e (hx _ _ _ _)
  | bad => rw [e] at k; exact k.elim
theorem si_seq (ha : SX X W e f) : SI X W tg e (itSeq f) := by
  refine PI.imp (PI.or (pi_list (sv_clo ha)) (pi_tup (sv_clo ha))) fun σ H R q => ?_
  obtain ⟨Γ, ρ, S, R0, p⟩ := q
  -- which of both: by the value
  cases ef : clo f ρ with
  | exc c ρ1 =>
    refine .inl ⟨Γ, ρ, S, R0, ?_⟩
    unfold itSeq at p
    rw [ef] at p ⊢
    exact p
  | bad => unfold itSeq at p; rw [ef] at p; exact p.elim
  | ok d ρ1 =>
    unfold itSeq at p
    rw [ef] at p
    simp only [RE.bind_ok] at p
    cases d with
    | list xs =>
      refine .inl ⟨Γ, ρ, S, R0, ?_⟩
      rw [ef]
      intro H1 S1 m1 R1 v hv
      cases hv with
      | lst hs ha => exact ⟨_, rfl, ⟨_, R1.sub.mo.sqL hs⟩, p H1 S1 m1 R1 _ (itl_ok hs ha)⟩
    | tuple xs =>
      refine .inr ⟨Γ, ρ, S, R0, ?_⟩
      rw [ef]
      intro H1 S1 m1 R1 v hv
      cases hv with
      | tup hs ha => exact ⟨_, rfl, ⟨_, R1.sub.mo.sqT hs⟩, p H1 S1 m1 R1 _ (itt_ok hs ha)⟩
    | _ => exact p.elim
theorem si_str (ha : SX X W e f) : SI X W tg e (itStr f) := by
  refine PI.imp (pi_str (sv_clo ha)) fun σ H R q => walk_core (h := fun d ρ => match d with | .str x => .ok (signsD x) ρ | _ => .bad) (F := fun v H R => ∃ x, v = .str x ∧ R (Its x) H) ?_ ?_ ?_ q
  · intro d ρ ds ρ' e
    cases d <;> cases e
    rfl
  · intro d ρ c ρ' e
    cases d <;> cases e
  · intro x H S d ρ ds R m rp e k
    cases d <;> simp only [reduceCtorEq, RE.ok.injEq, and_true] at e
    subst e
    cases rp
    refine ⟨_, rfl, k _ fun i H S m m2 => ⟨fun e => ?_, fun d hd => ?_⟩⟩
    · show _ ≤ i
      rw [e]; simp [signsD]
    · unfold signsD at hd
      rw [List.getElem?_map] at hd
      cases q : (Str.cps _).toList[i]? with
      | none => rw [q] at hd; cases hd
      | some c =>
        rw [q] at hd; cases hd
        have hl := (List.getElem?_eq_some_iff.mp q).1
        refine ⟨by show i < _; simpa using hl, fun x H' y => ?_⟩
        obtain ⟨rfl, c', e1, rfl⟩ := y
        rw [Array.getElem?_toList, e1] at q
        cases q
        exact ⟨S, .refl m2, .str _⟩
theorem itr_ok {K : PySem.W.Frag} {S0 : Hp} (lo hi : Int) : ItOk K S0 (L2.Itr lo (hi - lo).toNat) (rng lo hi) := fun i H S m m2 => by
  refine ⟨fun e => ?_, fun d hd => ?_⟩
  · show _ ≤ i
    rw [e]; simp [rng]
  · unfold rng at hd
    rw [List.getElem?_map] at hd
    cases q : (List.range (hi - lo).toNat)[i]? with
    | none => rw [q] at hd; cases hd
    | some c =>
      rw [q] at hd; cases hd
      obtain ⟨hl, e⟩ := List.getElem?_eq_some_iff.mp q
      rw [List.length_range] at hl
      rw [List.getElem_range] at e
      subst e
      refine ⟨hl, fun x H' y => ?_⟩
      obtain ⟨rfl, rfl⟩ := y
      exact ⟨S, .refl m2, .int _⟩
theorem inR_split {i : Int} (h : inR i = true) : -(2 ^ 62) ≤ i ∧ i < 2 ^ 62 := of_decide_eq_true h
theorem si_rng1 (hg : Gl X "range") (hm : X.mg "range" = none) (ha : SX X W a fa) (hs : starEach [a] X.env = [(false, eval a X.env)] := by rfl) : SI X W tg (.Call (.Name "range" p) [a] [] pos) (itRng1 fa) := by
  refine PI.imp (pi_range1 hg hm (pa_cons (sv_clo ha) pa_nil hs) hs) fun σ H R q => ?_
  refine walk_core (h := fun d ρ => match d with | .int n => if inR n = true then .ok (rng 0 n) ρ else .bad | _ => .bad) (F := fun x H R => ∃ j : Int, [x] = [.int j] ∧ -(2 ^ 62) ≤ j ∧ j < 2 ^ 62 ∧ R (L2.Itr 0 j.toNat) H) ?_ ?_ ?_ q
  · intro d ρ ds ρ' e
    cases d <;> simp only [reduceCtorEq] at e
    split at e <;> cases e
    rfl
  · intro d ρ c ρ' e
    cases d <;> simp only [reduceCtorEq] at e
    split at e <;> cases e
  · intro x H S d ρ ds R m rp e k
    cases d <;> simp only [reduceCtorEq] at e
    split at e
    · rename_i n hn
      cases e
      cases rp
      have z := itr_ok (K := X.K) (S0 := S) 0 n
      rw [Int.sub_zero] at z
      exact ⟨n, rfl, (inR_split hn).1, (inR_split hn).2, k _ z⟩
    · cases e
theorem si_rng2 (hg : Gl X "range") (hm : X.mg "range" = none) (ha : SX X W a fa) (hb : SX X W b fb) (hs : starEach [a, b] X.env = [(false, eval a X.env), (false, eval b X.env)] := by rfl) (hs2 : starEach [b] X.env = [(false, eval b X.env)] := by rfl) :
    SI X W tg (.Call (.Name "range" p) [a, b] [] pos) (itRng2 fa fb) := by
  refine PI.imp (pi_range2 hg hm (pa_cons (sv_clo ha) (pa_cons (sv_clo hb) pa_nil hs2) (by rw [hs, hs2])) hs hs2) fun σ H R ⟨Γ, ρ, S, R0, p⟩ => ?_
  refine ⟨Γ, ρ, S, R0, Post.imp (Post.of_bind p) fun x ρ1 H1 S1 _ m1 R1 k v hv => ⟨Γ, ρ1, S1, R1, Post.imp (Post.of_bind k.2.2) fun y ρ2 H2 S2 _ m2 R2 k2 u hu => ?_⟩⟩
  obtain ⟨_, _, k2⟩ := k2
  have hv := hv.sub m2
  cases x with
  | int i =>
    cases y with
    | int j =>
      cases hv; cases hu
      simp only at k2
      by_cases h : (inR i && inR j) = true
      · rw [if_pos h] at k2
        rw [Bool.and_eq_true] at h
        obtain ⟨a1, a2⟩ := inR_split h.1
        obtain ⟨b1, b2⟩ := inR_split h.2
        exact ⟨i, j, rfl, ⟨a1, a2, b1, b2⟩, k2 H2 S2 (.refl _) R2 _ (itr_ok i j)⟩
      · rw [if_neg h] at k2
        exact k2.elim
    | _ => exact k2.elim
  | _ => cases y <;> exact k2.elim
theorem pairs_get : ∀ {xs ys : List D} {i : Nat} {d : D}, (pairs xs ys)[i]? = some d → ∃ x y, xs[i]? = some x ∧ ys[i]? = some y ∧ d = .tuple [x, y]
  | [], _, _, _, h => by simp [pairs] at h
  | _ :: _, [], _, _, h => by simp [pairs] at h
  | x :: xs, y :: ys, 0, d, h => by simp [pairs] at h; exact ⟨x, y, rfl, rfl, h.symm⟩
  | x :: xs, y :: ys, i + 1, d, h => by
    obtain ⟨a, b, h1, h2, h3⟩ := pairs_get (xs := xs) (ys := ys) (i := i) (d := d) (by simpa [pairs] using h)
    exact ⟨a, b, by simpa using h1, by simpa using h2, h3⟩
theorem pairs_len : ∀ (xs ys : List D), (pairs xs ys).length = min xs.length ys.length
  | [], _ => by simp [pairs]
  | _ :: _, [] => by simp [pairs]
  | x :: xs, y :: ys => by
    have := pairs_len xs ys
    simp only [pairs, List.length_cons]
    omega
theorem itz_ok {K : PySem.W.Frag} {S0 : Hp} {a b : Addr} {xs ys : List V} {ds es : List D} (hs : SqL K S0 a xs) (r : RpA K S0 xs ds) (ht : SqL K S0 b ys) (q : RpA K S0 ys es) : ItOk K S0 (Itz K a b) (pairs ds es) := fun i H S m m2 => by
  have hH := (m.trans m2).mo.sqL hs
  have tH := (m.trans m2).mo.sqL ht
  refine ⟨fun e => ⟨xs, ys, hH, tH, ?_⟩, fun d hd => ?_⟩
  · rw [pairs_len] at e
    rw [r.length, q.length]
    omega
  · obtain ⟨x, y, hx, hy, rfl⟩ := pairs_get hd
    obtain ⟨v, hv, rv⟩ := r.get hx
    obtain ⟨u, hu, ru⟩ := q.get hy
    refine ⟨⟨xs, ys, v, u, hH, tH, hv, hu⟩, fun z H' y => ?_⟩
    obtain ⟨T, v', u', rfl, hT, rfl, y1, y2⟩ := y
    have := y1 xs hH
    rw [hv] at this; cases this
    have := y2 ys tH
    rw [hu] at this; cases this
    have g : Grow H S (upd H T (.tup [v, u])) (upd S T (.tup [v, u])) := .both m2 hT
    exact ⟨_, g, .tup (.inl (.inl upd_same)) (.cons ((rv.sub m).sub g.s) (.cons ((ru.sub m).sub g.s) .nil))⟩
theorem itzT_ok {K : PySem.W.Frag} {S0 : Hp} {a b : Addr} {xs ys : List V} {ds es : List D} (hs : SqT K S0 a xs) (r : RpA K S0 xs ds) (ht : SqT K S0 b ys) (q : RpA K S0 ys es) : ItOk K S0 (RZ.ItzT K a b) (pairs ds es) := fun i H S m m2 => by
  have hH := (m.trans m2).mo.sqT hs
  have tH := (m.trans m2).mo.sqT ht
  refine ⟨fun e => ⟨xs, ys, hH, tH, ?_⟩, fun d hd => ?_⟩
  · rw [pairs_len] at e
    rw [r.length, q.length]
    omega
  · obtain ⟨x, y, hx, hy, rfl⟩ := pairs_get hd
    obtain ⟨v, hv, rv⟩ := r.get hx
    obtain ⟨u, hu, ru⟩ := q.get hy
    refine ⟨⟨xs, ys, v, u, hH, tH, hv, hu⟩, fun z H' y => ?_⟩
    obtain ⟨T, v', u', rfl, hT, rfl, y1, y2⟩ := y
    have := y1 xs hH
    rw [hv] at this; cases this
    have := y2 ys tH
    rw [hu] at this; cases this
    have g : Grow H S (upd H T (.tup [v, u])) (upd S T (.tup [v, u])) := .both m2 hT
    exact ⟨_, g, .tup (.inl (.inl upd_same)) (.cons ((rv.sub m).sub g.s) (.cons ((ru.sub m).sub g.s) .nil))⟩
theorem si_zip {elts : List Expr} {kk : Nat} {tpos : Pos} (hg : Gl X "zip") (hm : X.mg "zip" = none) (ha : SX X W a fa) (hb : SX X W b fb)
    (hs : starEach [a, b] X.env = (false, eval a X.env) :: starEach [b] X.env := by rfl) (hs2 : starEach [b] X.env = (false, eval b X.env) :: starEach [] X.env := by rfl) (hpl : (backTo pos (starEach [b] X.env)).any (·.1) = false := by rfl) :
    SI X W (.Tuple elts kk tpos) (.Call (.Name "zip" p) [a, b] [] pos) (itZip fa fb) := by
  refine PI.imp (RZ.pi_zipA hg hm (pa_cons (sv_clo ha) (pa_cons (sv_clo hb) pa_nil hs2) hs) hs hpl) fun σ H R ⟨Γ, ρ, S, R0, p⟩ => ?_
  refine ⟨Γ, ρ, S, R0, Post.imp (Post.of_bind p) fun x ρ1 H1 S1 _ m1 R1 k v hv => ⟨Γ, ρ1, S1, R1, Post.imp (Post.of_bind k.2.2) fun y ρ2 H2 S2 _ m2 R2 k2 u hu => ?_⟩⟩
  obtain ⟨_, _, k2⟩ := k2
  have hv := hv.sub m2
  cases x <;> cases y <;> try exact k2.elim
  · cases hv with
    | lst hs ha => cases hu with
      | lst ht hb => exact ⟨_, _, _, _, rfl, .inl ⟨R2.sub.mo.sqL hs, R2.sub.mo.sqL ht, k2 H2 S2 (.refl _) R2 _ (itz_ok hs ha ht hb)⟩⟩
  · cases hv with
    | tup hs ha => cases hu with
      | tup ht hb => exact ⟨_, _, _, _, rfl, .inr ⟨R2.sub.mo.sqT hs, R2.sub.mo.sqT ht, k2 H2 S2 (.refl _) R2 _ (itzT_ok hs ha ht hb)⟩⟩
end
end Ev

set_option Elab.async false
set_option linter.all false
set_option maxRecDepth 100000
set_option maxHeartbeats 1000000
/-! EvC2: comprehensions. -/
namespace Ev
open PySem PySem.Spec L2
/-- nothing is let out -/
abbrev W0 : WX := fun _ _ _ _ => False
theorem takesW0 {X : Cx} : Takes X W0 := fun _ _ x => by
  obtain ⟨_, _, _, _, _, _, _, _, _, _, _, _, _, _, _, _, z⟩ := x
  exact z.elim
section
variable {K : PySem.W.Frag} {Γ : G} {ρ ρ' : En} {σ : St} {H H' S S' : Hp}
/-! ### an object of the code's own that no slot holds -/
def G.hide (Γ : G) (p : Addr) (o : HO) : G := { Γ with H0 := upd Γ.H0 p o }
structure Apart (Γ : G) (p : Addr) (S : Hp) (ρ : En) (σ : St) : Prop where
  h0 : Γ.H0 p = none
  s : S p = none
  b : p ∉ Γ.B
  ap : ∀ (i : Nat) s, ρ[i]? = some s → held s = true → σ[i]? ≠ some (some (.ref p))
theorem Rel.apart {p : Addr} (R : Rel K Γ ρ σ H S) (n : H p = none) : Apart Γ p S ρ σ := by
  have hb : p ∉ Γ.B := fun b => by
    obtain ⟨o, e⟩ := R.lent p b
    rw [n] at e; cases e
  refine ⟨?_, R.sub.none n, hb, fun i s e hh q => ?_⟩
  · cases w : Γ.H0 p with
    | none => rfl
    | some u => rw [R.keep p u w hb] at n; cases n
  · obtain ⟨o, h1, h2⟩ := R.sl i s e
    rw [q] at h1; cases h1
    cases s with
    | no => cases hh
    | val d => cases hh
    | own d =>
      obtain ⟨a', e', _, _, t'⟩ := h2
      cases e'
      obtain ⟨o, ho, _⟩ := t'.there
      rw [n] at ho; cases ho
    | byr d =>
      obtain ⟨a', e', _, _, t'⟩ := h2
      cases e'
      obtain ⟨o, ho, _⟩ := t'.there
      rw [n] at ho; cases ho
theorem Rel.hide {p : Addr} {o : HO} (R : Rel K Γ ρ σ H S) (A : Apart Γ p S ρ σ) (e : H p = some o) : Rel K (Γ.hide p o) ρ σ H S := by
  refine ⟨R.sub, R.s0, fun a u q b => ?_, fun a u q n => ?_, R.lent, R.len, fun i s q => ?_, R.ap⟩
  · have q : upd Γ.H0 p o a = some u := q
    by_cases h : a = p
    · subst h; rw [upd_same] at q; cases q; exact e
    · rw [upd_ne h] at q; exact R.keep a u q b
  · show upd Γ.H0 p o a = none
    have h : a ≠ p := fun z => by rw [z, A.s] at q; cases q
    rw [upd_ne h]; exact R.new a u q n
  · obtain ⟨ov, h1, h2⟩ := R.sl i s q
    refine ⟨ov, h1, ?_⟩
    cases s with
    | no => trivial
    | val d => exact h2
    | own d =>
      obtain ⟨a, e', n, z, t⟩ := h2
      have h : a ≠ p := fun w => A.ap i _ q rfl (by rw [h1, e', w])
      exact ⟨a, e', n, by show upd Γ.H0 p o a = none; rw [upd_ne h]; exact z, t⟩
    | byr d => exact h2
theorem Rel.unhide {p : Addr} {o : HO} (R : Rel K (Γ.hide p o) ρ σ H S) (h0 : Γ.H0 p = none) (s0 : Γ.S0 p = none) (b : p ∉ Γ.B) : Rel K Γ ρ σ H S ∧ H p = some o ∧ Apart Γ p S ρ σ := by
  have hid : (Γ.hide p o).H0 p = some o := upd_same
  have sp : S p = none := by
    cases q : S p with
    | none => rfl
    | some u => have := R.new p u q s0; rw [hid] at this; cases this
  have off : ∀ a, a ≠ p → (Γ.hide p o).H0 a = Γ.H0 a := fun a h => upd_ne h
  refine ⟨⟨R.sub, R.s0, fun a u q hb => ?_, fun a u q n => ?_, R.lent, R.len, fun i s q => ?_, R.ap⟩, R.keep p o hid b, h0, sp, b, fun i s q hh z => ?_⟩
  · have h : a ≠ p := fun w => by rw [w, h0] at q; cases q
    exact R.keep a u (by rw [off a h]; exact q) hb
  · have h : a ≠ p := fun w => by rw [w, sp] at q; cases q
    have := R.new a u q n
    rw [off a h] at this; exact this
  · obtain ⟨ov, h1, h2⟩ := R.sl i s q
    refine ⟨ov, h1, ?_⟩
    cases s with
    | no => trivial
    | val d => exact h2
    | own d =>
      obtain ⟨a, e', n, z, t⟩ := h2
      have h : a ≠ p := fun w => by rw [w, hid] at z; cases z
      exact ⟨a, e', n, by rw [off a h] at z; exact z, t⟩
    | byr d => exact h2
  · obtain ⟨ov, h1, h2⟩ := R.sl i s q
    rw [z] at h1; cases h1
    cases s with
    | no => cases hh
    | val d => cases hh
    | own d =>
      obtain ⟨a, e', n, z', t⟩ := h2
      cases e'
      rw [hid] at z'; cases z'
    | byr d =>
      obtain ⟨a, e', hb, _⟩ := h2
      cases e'
      exact b (List.mem_map.mpr ⟨_, hb, rfl⟩)
/-- it is written -/
theorem Rel.poke {p : Addr} {o : HO} (R : Rel K Γ ρ σ H S) (A : Apart Γ p S ρ σ) : Rel K Γ ρ σ (upd H p o) S := by
  have off : ∀ a u, S a = some u → a ≠ p := fun a u e z => by rw [z, A.s] at e; cases e
  refine ⟨fun a u e => by rw [upd_ne (off a u e)]; exact R.sub a u e, R.s0, fun a u q b => ?_, R.new, fun a b => ?_, R.len, fun i s q => ?_, R.ap⟩
  · have h : a ≠ p := fun w => by rw [w, A.h0] at q; cases q
    rw [upd_ne h]; exact R.keep a u q b
  · obtain ⟨u, e⟩ := R.lent a b
    by_cases h : a = p
    · exact ⟨o, by rw [h, upd_same]⟩
    · exact ⟨u, by rw [upd_ne h]; exact e⟩
  · obtain ⟨ov, h1, h2⟩ := R.sl i s q
    refine ⟨ov, h1, ?_⟩
    cases s with
    | no => trivial
    | val d => exact h2
    | own d =>
      obtain ⟨a, e', n, z, t⟩ := h2
      have h : a ≠ p := fun w => A.ap i _ q rfl (by rw [h1, e', w])
      exact ⟨a, e', n, z, t.at (fun u e => by rw [upd_ne h]; exact e) (.refl _)⟩
    | byr d =>
      obtain ⟨a, e', n, z, t⟩ := h2
      have h : a ≠ p := fun w => A.ap i _ q rfl (by rw [h1, e', w])
      exact ⟨a, e', n, z, t.at (fun u e => by rw [upd_ne h]; exact e) (.refl _)⟩
/-! ### slots put away and back -/
theorem wipeE_len (ρ : En) : ∀ vs : List Nat, (wipeE ρ vs).length = ρ.length
  | [] => rfl
  | v :: vs => by unfold wipeE; rw [List.length_set, wipeE_len ρ vs]
theorem wipeE_get {ρ : En} {i : Nat} {s : Sl} : ∀ {vs : List Nat}, (wipeE ρ vs)[i]? = some s → s = .no ∨ (i ∉ vs ∧ ρ[i]? = some s)
  | [], h => .inr ⟨by simp, h⟩
  | v :: vs, h => by
    unfold wipeE at h
    by_cases q : v = i
    · subst q
      have hl : v < (wipeE ρ vs).length := by
        have := (List.getElem?_eq_some_iff.mp h).1
        simpa using this
      rw [List.getElem?_set_self hl] at h
      cases h
      exact .inl rfl
    · rw [List.getElem?_set_ne q] at h
      rcases wipeE_get h with h | ⟨h1, h2⟩
      · exact .inl h
      · exact .inr ⟨by simp only [List.mem_cons, not_or]; exact ⟨fun z => q z.symm, h1⟩, h2⟩
theorem wipe_get {σ : St} {i : Nat} : ∀ {vs : List Nat}, i ∉ vs → (wipe σ vs)[i]? = σ[i]?
  | [], _ => rfl
  | v :: vs, h => by
    unfold wipe
    have h' : i ≠ v ∧ i ∉ vs := by simpa [not_or] using h
    rw [List.getElem?_set_ne (fun z => h'.1 z.symm)]
    exact wipe_get h'.2
theorem Rel.wipe {vs : List Nat} (R : Rel K Γ ρ σ H S) : Rel K Γ (wipeE ρ vs) (wipe σ vs) H S := by
  refine ⟨R.sub, R.s0, R.keep, R.new, R.lent, by rw [wipeE_len, wipe_length]; exact R.len, fun i s e => ?_, fun i j s t a e1 e2 h1 h2 s1 s2 => ?_⟩
  · have hl : i < (L2.wipe σ vs).length := by
      rw [wipe_length, ← R.len]
      have := (List.getElem?_eq_some_iff.mp e).1
      rw [wipeE_len] at this; exact this
    rcases wipeE_get e with rfl | ⟨hi, e⟩
    · exact ⟨_, List.getElem?_eq_getElem hl, trivial⟩
    · rw [wipe_get hi]; exact R.sl i s e
  · rcases wipeE_get e1 with rfl | ⟨hi, e1⟩
    · cases h1
    · rcases wipeE_get e2 with rfl | ⟨hj, e2⟩
      · cases h2
      · rw [wipe_get hi] at s1; rw [wipe_get hj] at s2
        exact R.ap i j s t a e1 e2 h1 h2 s1 s2
theorem wipe_same {vs us : List Nat} {σ σ' : St} (h : SameBut us (wipe σ vs) σ') (hu : ∀ i ∈ us, i ∈ vs) : wipe σ' vs = wipe σ vs := by
  apply List.ext_getElem?
  intro i
  by_cases hi : i ∈ vs
  · have at' : ∀ (τ : St) (vs : List Nat), i ∈ vs → (wipe τ vs)[i]? = if i < τ.length then some none else none := by
      intro τ vs
      induction vs with
      | nil => intro h; cases h
      | cons v vs ih =>
        intro h
        unfold wipe
        by_cases q : v = i
        · subst q
          by_cases hl : v < τ.length
          · rw [if_pos hl, List.getElem?_set_self (by rw [wipe_length]; exact hl)]
          · rw [if_neg hl]
            exact List.getElem?_eq_none (by rw [List.length_set, wipe_length]; omega)
        · rw [List.getElem?_set_ne q]
          exact ih (by
            rcases List.mem_cons.mp h with z | z
            · exact absurd z.symm q
            · exact z)
    rw [at' σ' vs hi, at' σ vs hi, h.1, wipe_length]
  · rw [wipe_get hi, h.2 i (fun z => hi (hu i z)), wipe_get hi]
theorem back_len (ρ0 ρ : En) : ∀ vs : List Nat, (back ρ0 ρ vs).length = ρ.length
  | [] => rfl
  | v :: vs => by unfold back; rw [List.length_set, back_len ρ0 ρ vs]
theorem back_get {ρ0 ρ : En} {i : Nat} {s : Sl} : ∀ {vs : List Nat}, (back ρ0 ρ vs)[i]? = some s → (i ∈ vs ∧ s = ρ0.getD i .no) ∨ (i ∉ vs ∧ ρ[i]? = some s)
  | [], h => .inr ⟨by simp, h⟩
  | v :: vs, h => by
    unfold back at h
    by_cases q : v = i
    · subst q
      have hl : v < (back ρ0 ρ vs).length := by
        have := (List.getElem?_eq_some_iff.mp h).1
        simpa using this
      rw [List.getElem?_set_self hl] at h
      cases h
      exact .inl ⟨List.mem_cons_self, rfl⟩
    · rw [List.getElem?_set_ne q] at h
      rcases back_get h with ⟨h1, h2⟩ | ⟨h1, h2⟩
      · exact .inl ⟨List.mem_cons_of_mem _ h1, h2⟩
      · exact .inr ⟨by simp only [List.mem_cons, not_or]; exact ⟨fun z => q z.symm, h1⟩, h2⟩
theorem mayHide_get {vs : List Nat} (h : mayHide ρ vs = true) {v : Nat} (hv : v ∈ vs) : ρ[v]? = some .no ∨ ∃ d, ρ[v]? = some (.val d) := by
  unfold mayHide at h
  have := List.all_eq_true.mp h v hv
  split at this
  · exact .inl (by assumption)
  · exact .inr ⟨_, by assumption⟩
  · cases this
theorem Rel.back {vs : List Nat} {ρ0 : En} {H0 S0 : Hp} (R0 : Rel K Γ ρ0 σ H0 S0) (m : Sub S0 S) (mh : mayHide ρ0 vs = true) (R : Rel K Γ ρ (L2.wipe σ vs) H S) : Rel K Γ (Ev.back ρ0 ρ vs) σ H S := by
  have hid : ∀ {i s}, i ∈ vs → s = ρ0.getD i .no → (s = .no ∨ ∃ d, s = .val d) ∧ ρ0[i]? = some s := fun {i s} hi e => by
    rcases mayHide_get mh hi with q | ⟨d, q⟩
    · have : ρ0.getD i .no = .no := by rw [List.getD_eq_getElem?_getD, q]; rfl
      rw [this] at e; subst e; exact ⟨.inl rfl, q⟩
    · have : ρ0.getD i .no = .val d := by rw [List.getD_eq_getElem?_getD, q]; rfl
      rw [this] at e; subst e; exact ⟨.inr ⟨d, rfl⟩, q⟩
  refine ⟨R.sub, R.s0, R.keep, R.new, R.lent, by rw [back_len, R.len, wipe_length], fun i s e => ?_, fun i j s t a e1 e2 h1 h2 s1 s2 => ?_⟩
  · rcases back_get e with ⟨hi, e'⟩ | ⟨hi, e'⟩
    · obtain ⟨c, q⟩ := hid hi e'
      obtain ⟨o, f1, f2⟩ := R0.sl i s q
      refine ⟨o, f1, ?_⟩
      rcases c with rfl | ⟨d, rfl⟩
      · trivial
      · obtain ⟨v, e, r⟩ := f2; exact ⟨v, e, r.sub m⟩
    · have := R.sl i s e'
      rw [wipe_get hi] at this; exact this
  · have un : ∀ {i s}, (Ev.back ρ0 ρ vs)[i]? = some s → held s = true → i ∉ vs ∧ ρ[i]? = some s := fun {i s} e hh => by
      rcases back_get e with ⟨hi, e'⟩ | q
      · rcases (hid hi e').1 with rfl | ⟨d, rfl⟩ <;> cases hh
      · exact q
    obtain ⟨hi, e1⟩ := un e1 h1
    obtain ⟨hj, e2⟩ := un e2 h2
    exact R.ap i j s t a e1 e2 h1 h2 (by rw [wipe_get hi]; exact s1) (by rw [wipe_get hj]; exact s2)
end

/-! ### list comprehensions -/
section
variable {X : Cx} {W : WX} {it : Itr} {t : Tg} {c : Tt} {f k : Ex} {us vs : List Nat}
/-- what a comprehension gives, as a meaning -/
def lcR (vs : List Nat) (t : Tg) (c : Tt) (f : Ex) (ds : List D) (ρ : En) : RE Rv := if mayHide ρ vs = true ∧ ds.length ≤ sizeLine then
    match lcLoop vs t c f ds (wipeE ρ vs) [] with
    | .ok ys ρ' => .ok (.frs (.list ys)) (back ρ ρ' vs)
    | _ => .bad
  else .bad
def lcB (J : It) (gt : TG) (tt : TT) (te : TE) (vs : List Nat) (σ : St) (H1 : Hp) (Q : VK) : Prop := ∀ D, H1 D = none → ∃ W : Nat → Nat → Hp → Prop, (∃ m, W 0 m (upd H1 D (.lst []))) ∧ ∀ i m H, W i m H →
  (J.stop i H ∧ Q (.ref D) H) ∨ (J.go i H ∧ ∃ Nx : Hp → Prop, (∀ H', Nx H' → ∃ m', m' < m ∧ W (i + 1) m' H') ∧ ∀ x H', J.yld i H x H' → gt x (wipe σ vs) H' fun σ2 H2 => wipe σ2 vs = wipe σ vs ∧ tt σ2 H2 fun b H3 =>
    if b = true then te σ2 H3 fun y H4 => ∃ acc, H4 D = some (.lst acc) ∧ acc.length < sizeLine ∧ Nx (upd H4 D (.lst (acc ++ [y]))) else Nx H3)
theorem lc_coreJ (hu : ∀ i ∈ us, i ∈ vs) {Γ : G} {ρ1 : En} {σ : St} {H1 S1 : Hp} {Q : VK} {ds : List D} {J : It} (R1 : Rel X.K Γ ρ1 σ H1 S1) (hJ : ItOk X.K S1 J ds) (kk : Post X.K W X.mg Γ σ S1 (lcR vs t c f ds ρ1) fun r ρ H' S' => ∀ v, RvOk X.K Γ ρ σ H' S' v r → Q v H') :
    lcB J (tGt X.K t us) (tB' X.K W0 X.mg c) (tV X.K W0 X.mg (clo f)) vs σ H1 Q := by
  unfold lcR at kk
  intro L hL
  by_cases hc : mayHide ρ1 vs = true ∧ ds.length ≤ sizeLine
  · rw [if_pos hc] at kk
    obtain ⟨mh, hz⟩ := hc
    have A1 := R1.apart hL
    have s0L : Γ.S0 L = none := R1.s0.none A1.s
    generalize hT : lcLoop vs t c f ds (wipeE ρ1 vs) [] = T at kk
    -- turn i: what is made so far
    refine ⟨fun i m H => m = ds.length - i ∧ i ≤ ds.length ∧ ∃ ρi Si acc accV, Sub S1 Si ∧ Rel X.K Γ ρi (wipe σ vs) H Si ∧ Apart Γ L Si ρi (wipe σ vs) ∧ H L = some (.lst accV) ∧ RpA X.K Si accV acc ∧ acc.length ≤ i ∧ lcLoop vs t c f (ds.drop i) ρi acc = T,
      ⟨ds.length, by simp, Nat.zero_le _, wipeE ρ1 vs, S1, [], [], .refl _, (R1.wipe (vs := vs)).poke ⟨A1.h0, A1.s, A1.b, ?_⟩, ⟨A1.h0, A1.s, A1.b, ?_⟩, upd_same, .nil, Nat.zero_le _, by rw [List.drop_zero]; exact hT⟩, ?_⟩
    · exact ((R1.wipe (vs := vs)).apart hL).ap
    · exact ((R1.wipe (vs := vs)).apart hL).ap
    · rintro i m Hi ⟨rfl, hi, ρi, Si, acc, accV, mi, Ri, Ai, eL, ra, hl, ei⟩
      by_cases hlt : i < ds.length
      · obtain ⟨d, hd⟩ : ∃ d, ds[i]? = some d := ⟨_, List.getElem?_eq_getElem hlt⟩
        obtain ⟨go, yl⟩ := (hJ i Hi Si mi Ri.sub).2 d hd
        rw [drop_cons hd] at ei
        refine .inr ⟨go, fun H => i + 1 ≤ ds.length ∧ ∃ ρi Si acc accV, Sub S1 Si ∧ Rel X.K Γ ρi (wipe σ vs) H Si ∧ Apart Γ L Si ρi (wipe σ vs) ∧ H L = some (.lst accV) ∧ RpA X.K Si accV acc ∧ acc.length ≤ i + 1 ∧ lcLoop vs t c f (ds.drop (i + 1)) ρi acc = T, fun H' q => ⟨ds.length - (i + 1), by omega, rfl, q⟩, fun x H' hx => ?_⟩
        obtain ⟨S', gr, rp⟩ := yl x H' hx
        have eL' := gr.h _ _ eL
        have R' := Ri.grow gr
        have s' : S' L = none := by
          cases q : S' L with
          | none => rfl
          | some u => have := gr.n L u q Ai.s; rw [eL] at this; cases this
        have A' : Apart Γ L S' ρi (wipe σ vs) := ⟨Ai.h0, s', Ai.b, Ai.ap⟩
        have Rh := R'.hide A' eL'
        unfold lcLoop at ei
        cases q : t d ρi with
        | none => simp only [q] at ei; rw [← ei] at kk; exact kk.elim
        | some ρ2 =>
          simp only [q] at ei
          refine ⟨Γ.hide L (.lst accV), ρi, S', d, ρ2, Rh, rp, q, fun σ2 sb R2 => ⟨wipe_same sb hu, Γ.hide L (.lst accV), ρ2, S', R2, ?_⟩⟩
          cases q2 : c ρ2 with
          | exc cc ρ3 => simp only [q2] at ei; rw [← ei] at kk; exact kk.elim
          | bad => simp only [q2] at ei; rw [← ei] at kk; exact kk.elim
          | ok b ρ3 =>
            intro H3 S3 m3 R3
            cases b with
            | false =>
              simp only [q2] at ei
              refine iteF ?_
              obtain ⟨R3', e3, A3⟩ := (R3.wipe (vs := vs)).unhide Ai.h0 s0L Ai.b
              rw [wipe_same sb hu] at R3' A3
              exact ⟨hlt, _, S3, acc, accV, (mi.trans gr.s).trans m3, R3', A3, e3, ra.sub (gr.s.trans m3), by omega, ei⟩
            | true =>
              simp only [q2] at ei
              refine iteT ⟨Γ.hide L (.lst accV), ρ3, S3, R3, ?_⟩
              cases q3 : clo f ρ3 with
              | exc cc ρ4 => simp only [q3] at ei; rw [← ei] at kk; exact kk.elim
              | bad => simp only [q3] at ei; rw [← ei] at kk; exact kk.elim
              | ok y ρ4 =>
                simp only [q3] at ei
                intro H4 S4 m4 R4 v hv
                obtain ⟨R4', e4, A4⟩ := (R4.wipe (vs := vs)).unhide Ai.h0 s0L Ai.b
                rw [wipe_same sb hu] at R4' A4
                refine ⟨accV, e4, by rw [ra.length]; omega, hlt, _, S4, acc ++ [y], accV ++ [v], ((mi.trans gr.s).trans m3).trans m4, R4'.poke A4, A4, upd_same, (ra.sub ((gr.s.trans m3).trans m4)).append (.cons hv .nil), ?_, ei⟩
                rw [List.length_append, List.length_singleton]; omega
      · have e : i = ds.length := by omega
        subst e
        rw [List.drop_length] at ei
        have ei : RE.ok acc ρi = T := ei
        rw [← ei] at kk
        refine .inl ⟨(hJ _ Hi Si mi Ri.sub).1 rfl, ?_⟩
        have Rb := R1.back mi mh Ri
        refine kk Hi Si mi Rb _ ⟨L, rfl, Ai.s, Ai.h0, .lst eL ra, fun j s e hh q => ?_⟩
        rcases back_get e with ⟨hj, e'⟩ | ⟨hj, e'⟩
        · rcases mayHide_get mh hj with z | ⟨d, z⟩
          · have : ρ1.getD j .no = .no := by rw [List.getD_eq_getElem?_getD, z]; rfl
            rw [this] at e'; subst e'; cases hh
          · have : ρ1.getD j .no = .val d := by rw [List.getD_eq_getElem?_getD, z]; rfl
            rw [this] at e'; subst e'; cases hh
        · exact Ai.ap j s e' hh (by rw [wipe_get hj]; exact q)
  · rw [if_neg hc] at kk
    exact kk.elim
theorem lc_core' (hu : ∀ i ∈ us, i ∈ vs) {σ : St} {H : Hp} {Q : VK} (h : tX X.K W X.mg (lcE vs it t c f) σ H Q) : tLc (tI X.K W X.mg it) (tGt X.K t us) (tB' X.K W0 X.mg c) (tV X.K W0 X.mg (clo f)) vs σ H Q := by
  obtain ⟨Γ, ρ, S, R, p⟩ := h
  exact ⟨Γ, ρ, S, R, Post.imp (Post.of_bind p) fun ds ρ1 H1 S1 _ m1 R1 kk J hJ => lc_coreJ hu R1 hJ kk.2.2⟩
variable {elt tg iter : Expr} {ifs : List Expr} {scope : Scope} {own : List (Str × Nat)} {pos : Pos}
abbrev STs (X : Cx) (ifs : List Expr) (c : Tt) : Prop := PTs X ifs (tB' X.K W0 X.mg c)
theorem sts_nil : STs X [] yesT := ⟨fun pins s σ H Q I ⟨Γ, ρ, S, R, p⟩ => pts_nil.run pins s σ H Q I (p H S (.refl _) R)⟩
theorem sts_one {e : Expr} (h : ST X W0 e c) : STs X [e] c := pts_one h
/-- the context of a comprehension's block -/
abbrev Cx.bk (X : Cx) (scope : Scope) (s : Shared) (H : Hp) (C : Addr) (cl : List (Str × Addr)) (fp : List Addr) : Cx := X.blk s H scope (compEnvC scope cl C X.env) fp
theorem sx_lc (hc : X.calm = true) (hN : X.N.Nodup) (hi : SI X W tg iter it) (ok : BlkOk X.N X.env.scope scope own)
    (hg : ∀ (s : Shared) (H : Hp) (C : Addr) (cl : List (Str × Addr)) (fp : List Addr), SG (Cx.bk X scope s H C cl fp) tg t us) (ht : ∀ (s : Shared) (H : Hp) (C : Addr) (cl : List (Str × Addr)) (fp : List Addr), STs (Cx.bk X scope s H C cl fp) ifs c)
    (he : ∀ (s : Shared) (H : Hp) (C : Addr) (cl : List (Str × Addr)) (fp : List Addr), SX (Cx.bk X scope s H C cl fp) W0 elt f) (hu : ∀ i ∈ us, i ∈ own.map (·.2) := by decide) (hs : ∀ x, foldedSetIterable iter X.env x = pure x := by intro _; rfl) :
    SX X W (.ListComp elt [⟨tg, iter, ifs, 0⟩] scope pos) (lcE (own.map (·.2)) it t c f) :=
  PE.imp (pe_lc hc hN hi ok hg ht (fun s H C cl fp => sv_clo (he s H C cl fp)) hs) fun _ _ _ h => lc_core' hu h
theorem ss_setLc {i : Nat} {y : Str} {py spos : Pos} (hc : X.calm = true) (hN : X.N.Nodup) (hy : X.N[i]? = some y) (hyl : X.env.scope.names.lookup y = some .local)
    (hsw : swapsWith (.ListComp elt [⟨tg, iter, ifs, 0⟩] scope pos) (some (.Name y py)) spos.line X.env = pure true) (hi : SI X W tg iter it) (ok : BlkOk X.N X.env.scope scope own)
    (hg : ∀ (s : Shared) (H : Hp) (C : Addr) (cl : List (Str × Addr)) (fp : List Addr), SG (Cx.bk X scope s H C cl fp) tg t us) (ht : ∀ (s : Shared) (H : Hp) (C : Addr) (cl : List (Str × Addr)) (fp : List Addr), STs (Cx.bk X scope s H C cl fp) ifs c)
    (he : ∀ (s : Shared) (H : Hp) (C : Addr) (cl : List (Str × Addr)) (fp : List Addr), SX (Cx.bk X scope s H C cl fp) W0 elt f) (hu : ∀ i ∈ us, i ∈ own.map (·.2) := by decide) (hs : ∀ x, foldedSetIterable iter X.env x = pure x := by intro _; rfl) :
    SS X W (.Assign [.Name y py] (.ListComp elt [⟨tg, iter, ifs, 0⟩] scope pos) spos) (setS i (lcE (own.map (·.2)) it t c f)) :=
  PS.imp (ps_setLc hc hN hy hyl hsw hi ok hg ht (fun s H C cl fp => sv_clo (he s H C cl fp)) hs) fun D σ H h => lc_core' hu (setS_core h)
end
end Ev

set_option Elab.async false
set_option linter.all false
set_option maxRecDepth 100000
set_option maxHeartbeats 1000000
/-! EvF: defs and their calls. -/
namespace Ev
open PySem PySem.Spec L2
/-! ### what a def promises -/
/-- the lent objects, by the parameters' places -/
def lentA : Nat → List Sl → List V → List (Nat × Addr)
  | n, .byr _ :: as, .ref a :: vs => (n, a) :: lentA (n + 1) as vs
  | n, _ :: as, _ :: vs => lentA (n + 1) as vs
  | _, _, _ => []
inductive ArgOk (K : PySem.W.Frag) (H S : Hp) : List Sl → List V → Prop
  | nil : ArgOk K H S [] []
  | val {d : D} {v : V} {as : List Sl} {vs : List V} : Rp K S v d → ArgOk K H S as vs → ArgOk K H S (.val d :: as) (v :: vs)
  | byr {d : D} {a : Addr} {as : List Sl} {vs : List V} : S a = none → Top K H S a d → ArgOk K H S as vs → ArgOk K H S (.byr d :: as) (.ref a :: vs)
inductive OutOk (K : PySem.W.Frag) (H S : Hp) : List Sl → List V → List D → Prop
  | nil : OutOk K H S [] [] []
  | val {d : D} {v : V} {as : List Sl} {vs : List V} {os : List D} : OutOk K H S as vs os → OutOk K H S (.val d :: as) (v :: vs) os
  | byr {d o : D} {a : Addr} {as : List Sl} {vs : List V} {os : List D} : S a = none → Top K H S a o → OutOk K H S as vs os → OutOk K H S (.byr d :: as) (.ref a :: vs) (o :: os)
structure FEnd (K : PySem.W.Frag) (H S H' S' : Hp) (as : List Sl) (vs : List V) (os : List D) : Prop where
  s : Sub S S'
  sub : Sub S' H'
  keep : ∀ a o, H a = some o → a ∉ (lentA 0 as vs).map (·.2) → H' a = some o
  new : ∀ a o, S' a = some o → S a = none → H a = none
  out : OutOk K H' S' as vs os
def FPost (K : PySem.W.Frag) (cm : Str → Option Value) (H S : Hp) (as : List Sl) (vs : List V) (Q : VK) (E : XK) : RF → Prop
  | .rt r os => ∀ v H' S', FEnd K H S H' S' as vs os → RvN K H H' S' v r → Q v H'
  | .exc c os => ∀ H' S', FEnd K H S H' S' as vs os → ∀ cls, cm c = some cls → E cls none H'
  | .bad => False
def spF (K : PySem.W.Frag) (cm : Str → Option Value) (n : Nat) (F : FnS) : Sp := fun vs H Q E => vs.length = n ∧ ∃ S as, Sub S H ∧ ArgOk K H S as vs ∧ ((lentA 0 as vs).map (·.2)).Nodup ∧ FPost K cm H S as vs Q E (F as)
/-- a def that keeps the promise of F, called where no repr runs -/
structure FnG (P : Program) (w : World) (K : PySem.W.Frag) (mg : Str → Option Value) (base : Heap) (k : Nat) (f : Addr) (fd : FuncData) (ps : List Str) (F : FnS) : Prop where
  run : ∀ (A : Around) (outer : List Env) (s : Shared) (H : Hp) (args : Args) (us : List Value) (vs : List V) (Q : VK) (E : XK), Room k A → A.guards = some [] → Env0 P w K mg base A outer s H → BindsTo s fd args (ps.zip us) → Vals vs us →
    spF K mg ps.length F vs H Q E → codeAny (model P w) A (.call (.ref f) args) (CR (L2.CX P w) outer P w H s Q E) s
theorem FnG.mono {P : Program} {w : World} {K : PySem.W.Frag} {mg : Str → Option Value} {base : Heap} {j k : Nat} {f : Addr} {fd : FuncData} {ps : List Str} {F : FnS} (h : FnG P w K mg base j f fd ps F) (l : j ≤ k) : FnG P w K mg base k f fd ps F :=
  ⟨fun A outer s H args us vs Q E hr => h.run A outer s H args us vs Q E (hr.mono l)⟩

/-! ### from a body to the def -/
theorem argOk_len {K : PySem.W.Frag} {H S : Hp} : ∀ {as : List Sl} {vs : List V}, ArgOk K H S as vs → as.length = vs.length
  | _, _, .nil => rfl
  | _, _, .val _ t => by rw [List.length_cons, List.length_cons, argOk_len t]
  | _, _, .byr _ _ t => by rw [List.length_cons, List.length_cons, argOk_len t]
theorem lentA_ge : ∀ {as : List Sl} {vs : List V} {n : Nat} {p : Nat × Addr}, p ∈ lentA n as vs → n ≤ p.1
  | [], _, _, _, h => by cases h
  | _ :: _, [], n, _, h => by
    rename_i s as p
    cases s <;> cases h
  | s :: as, v :: vs, n, p, h => by
    cases s with
    | byr d =>
      cases v with
      | ref a =>
        rcases List.mem_cons.mp h with e | h
        · rw [e]; exact Nat.le_refl _
        · exact Nat.le_of_succ_le (lentA_ge (n := n + 1) h)
      | _ => exact Nat.le_of_succ_le (lentA_ge (n := n + 1) h)
    | _ => exact Nat.le_of_succ_le (lentA_ge (n := n + 1) h)
/-- the arguments at their places -/
theorem argOk_get {K : PySem.W.Frag} {H S : Hp} : ∀ {as : List Sl} {vs : List V} {n i : Nat} {s : Sl}, ArgOk K H S as vs → as[i]? = some s → ∃ v, vs[i]? = some v ∧ (match s with
    | .val d => Rp K S v d
    | .byr d => ∃ a, v = .ref a ∧ (n + i, a) ∈ lentA n as vs ∧ S a = none ∧ Top K H S a d
    | _ => False)
  | _, _, _, _, _, .nil, h => by simp at h
  | _, _, _, 0, _, .val r t, h => by simp at h; subst h; exact ⟨_, rfl, r⟩
  | _, _, _, 0, _, .byr n r t, h => by simp at h; subst h; exact ⟨_, rfl, _, rfl, List.mem_cons_self, n, r⟩
  | _, _, n, i + 1, s, .val (vs := vs) r t, h => by
    obtain ⟨v, h1, h2⟩ := argOk_get (n := n + 1) (i := i) (s := s) t (by simpa using h)
    refine ⟨v, by simpa using h1, ?_⟩
    cases s with
    | val d => exact h2
    | byr d => obtain ⟨a, e1, e2, e3⟩ := h2; exact ⟨a, e1, by rw [show n + (i + 1) = n + 1 + i by omega]; exact e2, e3⟩
    | _ => exact h2
  | _, _, n, i + 1, s, .byr (vs := vs) q r t, h => by
    obtain ⟨v, h1, h2⟩ := argOk_get (n := n + 1) (i := i) (s := s) t (by simpa using h)
    refine ⟨v, by simpa using h1, ?_⟩
    cases s with
    | val d => exact h2
    | byr d => obtain ⟨a, e1, e2, e3⟩ := h2; exact ⟨a, e1, by rw [show n + (i + 1) = n + 1 + i by omega]; exact List.mem_cons_of_mem _ e2, e3⟩
    | _ => exact h2
theorem lentA_tracked {K : PySem.W.Frag} {H S : Hp} : ∀ {as : List Sl} {vs : List V} {n : Nat} {p : Nat × Addr}, ArgOk K H S as vs → p ∈ lentA n as vs → ∃ o, H p.2 = some o
  | _, _, _, _, .nil, h => by cases h
  | _, _, n, _, .val r t, h => lentA_tracked (n := n + 1) t h
  | _, _, n, _, .byr q r t, h => by
    rcases List.mem_cons.mp h with e | h
    · rw [e]; obtain ⟨o, ho, _⟩ := r.there; exact ⟨o, ho⟩
    · exact lentA_tracked (n := n + 1) t h
/-- the addresses apart: the places are -/
theorem lentA_inj : ∀ {l : List (Nat × Addr)}, (l.map (·.2)).Nodup → ∀ {i j : Nat} {a : Addr}, (i, a) ∈ l → (j, a) ∈ l → i = j
  | [], _, _, _, _, h, _ => by cases h
  | p :: l, nd, i, j, a, h1, h2 => by
    rw [List.map_cons, List.nodup_cons] at nd
    rcases List.mem_cons.mp h1 with e1 | h1 <;> rcases List.mem_cons.mp h2 with e2 | h2
    · rw [← e2] at e1; exact (Prod.mk.inj e1).1
    · rw [← e1] at nd; exact absurd (List.mem_map.mpr ⟨_, h2, rfl⟩) nd.1
    · rw [← e2] at nd; exact absurd (List.mem_map.mpr ⟨_, h1, rfl⟩) nd.1
    · exact lentA_inj nd.2 h1 h2
theorem rel_start {K : PySem.W.Frag} {H S : Hp} {as : List Sl} {vs : List V} {N : List Str} (m : Sub S H) (h : ArgOk K H S as vs) (nd : ((lentA 0 as vs).map (·.2)).Nodup) (hl : vs.length ≤ N.length) :
    Rel K ⟨H, S, lentA 0 as vs⟩ (as ++ List.replicate (N.length - as.length) .no) (L2.start N vs) H S := by
  have el := argOk_len h
  have rep : ∀ (i : Nat) s, (as ++ List.replicate (N.length - as.length) Sl.no)[i]? = some s → s = .no ∧ i < N.length ∨ as[i]? = some s := fun i s e => by
    by_cases hi : i < as.length
    · rw [List.getElem?_append_left hi] at e; exact .inr e
    · rw [List.getElem?_append_right (by omega), List.getElem?_replicate] at e
      split at e
      · cases e; exact .inl ⟨rfl, by omega⟩
      · cases e
  have stl : (L2.start N vs).length = N.length := by unfold L2.start; rw [List.length_append, List.length_map, List.length_replicate]; omega
  have stg : ∀ (i : Nat) v, vs[i]? = some v → (L2.start N vs)[i]? = some (some v) := fun i v e => by
    have hi := (List.getElem?_eq_some_iff.mp e).1
    unfold L2.start
    rw [List.getElem?_append_left (by simpa using hi), List.getElem?_map, e]; rfl
  refine ⟨m, .refl _, fun a o e _ => e, fun a o e n => (by
    have n : S a = none := n
    rw [n] at e
    exact nomatch e), fun a b => ?_, ?_, fun i s e => ?_, fun i j s t a e1 e2 h1 h2 s1 s2 => ?_⟩
  · obtain ⟨p, hp, e⟩ := List.mem_map.mp b
    rw [← e]; exact lentA_tracked h hp
  · rw [List.length_append, List.length_replicate, stl]; omega
  · rcases rep i s e with ⟨rfl, hi⟩ | e
    · exact ⟨_, List.getElem?_eq_getElem (by rw [stl]; exact hi), trivial⟩
    · obtain ⟨v, h1, h2⟩ := argOk_get (n := 0) h e
      refine ⟨_, stg i v h1, ?_⟩
      cases s with
      | val d => exact ⟨v, rfl, h2⟩
      | byr d =>
        obtain ⟨a, rfl, hp, hn, t⟩ := h2
        rw [Nat.zero_add] at hp
        exact ⟨a, rfl, hp, hn, t⟩
      | no => exact h2.elim
      | own d => exact h2.elim
  · have g : ∀ (i : Nat) s, (as ++ List.replicate (N.length - as.length) Sl.no)[i]? = some s → held s = true → (L2.start N vs)[i]? = some (some (.ref a)) → (i, a) ∈ lentA 0 as vs := fun i s e hh q => by
      rcases rep i s e with ⟨rfl, _⟩ | e
      · cases hh
      · obtain ⟨v, f1, f2⟩ := argOk_get (n := 0) h e
        rw [stg i v f1] at q; cases q
        cases s with
        | val d => cases hh
        | no => cases hh
        | own d => exact f2.elim
        | byr d => obtain ⟨a', e', hp, _⟩ := f2; cases e'; rw [Nat.zero_add] at hp; exact hp
    exact lentA_inj nd (g i s e1 h1 s1) (g j t e2 h2 s2)
/-- the lent ones at the end -/
theorem outs_ok {K : PySem.W.Frag} {Γ : G} {H0 S0 H S : Hp} : ∀ {as : List Sl} {vs : List V} {n : Nat} {ρ : En} {os : List D}, ArgOk K H0 S0 as vs → (∀ p ∈ lentA n as vs, p ∈ Γ.L) → (∀ (i : Nat) a, (i, a) ∈ Γ.L → ∀ b, (i, b) ∈ Γ.L → a = b) →
    (∀ (i : Nat) s, ρ[i]? = some s → ∃ o, SlOk K Γ H S (n + i) o s) → outsOf as ρ = some os → OutOk K H S as vs os
  | _, _, _, _, _, .nil, _, _, _, e => by cases e; exact .nil
  | _, _, n, [], os, .val r t, hL, hf, hs, e => by cases e
  | _, _, n, s :: ρ, os, .val r t, hL, hf, hs, e => by
    refine .val (outs_ok (n := n + 1) (ρ := ρ) t hL hf (fun i u q => ?_) (by cases s <;> exact e))
    have := hs (i + 1) u (by simpa using q)
    rw [show n + 1 + i = n + (i + 1) by omega]; exact this
  | _, _, n, [], os, .byr q r t, hL, hf, hs, e => by cases e
  | _, _, n, s :: ρ, os, .byr (a := a) q r t, hL, hf, hs, e => by
    cases s with
    | byr d' =>
      unfold outsOf at e
      obtain ⟨o, h⟩ := hs 0 _ rfl
      obtain ⟨b, rfl, hb, hn, tp⟩ := h
      have hab : a = b := hf n a (hL _ List.mem_cons_self) b hb
      subst hab
      cases h2 : outsOf _ ρ with
      | none => rw [h2] at e; cases e
      | some os' =>
        rw [h2] at e; cases e
        refine .byr hn tp (outs_ok (n := n + 1) (ρ := ρ) t (fun p hp => hL p (List.mem_cons_of_mem _ hp)) hf (fun i u q => ?_) h2)
        have := hs (i + 1) u (by simpa using q)
        rw [show n + 1 + i = n + (i + 1) by omega]; exact this
    | _ => cases e
theorem lentA_fun : ∀ {as : List Sl} {vs : List V} {n i : Nat} {a b : Addr}, (i, a) ∈ lentA n as vs → (i, b) ∈ lentA n as vs → a = b
  | [], _, _, _, _, _, h, _ => by cases h
  | s :: _, [], _, _, _, _, h, _ => by cases s <;> cases h
  | s :: as, v :: vs, n, i, a, b, h1, h2 => by
    cases s with
    | byr d =>
      cases v with
      | ref c =>
        rcases List.mem_cons.mp h1 with e1 | h1 <;> rcases List.mem_cons.mp h2 with e2 | h2
        · exact (Prod.mk.inj e1).2.trans (Prod.mk.inj e2).2.symm
        · have := lentA_ge h2; rw [(Prod.mk.inj e1).1] at this; exact absurd this (Nat.not_succ_le_self _)
        · have := lentA_ge h1; rw [(Prod.mk.inj e2).1] at this; exact absurd this (Nat.not_succ_le_self _)
        · exact lentA_fun (n := n + 1) h1 h2
      | _ => exact lentA_fun (n := n + 1) h1 h2
    | _ => exact lentA_fun (n := n + 1) h1 h2
section
variable {P : Program} {w : World} {K : PySem.W.Frag} {mg : Str → Option Value} {base : Heap}
theorem fend_of {K : PySem.W.Frag} {H S H' S' : Hp} {as : List Sl} {vs : List V} {os : List D} {ρ : En} {σ : St} (h : ArgOk K H S as vs) (m : Sub S H) (R : Rel K ⟨H, S, lentA 0 as vs⟩ ρ σ H' S') (e : outsOf as ρ = some os) : FEnd K H S H' S' as vs os :=
  ⟨R.s0, R.sub, fun a o q b => R.keep a o q b, fun a o q n => R.new a o q n, outs_ok (Γ := ⟨H, S, lentA 0 as vs⟩) h (fun p hp => hp) (fun i a h1 b h2 => lentA_fun h1 h2) (fun i s q => let ⟨o, _, z⟩ := R.sl i s q; ⟨o, by rw [Nat.zero_add]; exact z⟩) e⟩
/-- THE RULE for a def: its body's meaning -/
theorem fnG_of {x qual : Str} {st : Stmt} {f : Addr} {fd : FuncData} {N ps : List Str} {k : Nat} {g : Sm} (Fn : Fun K x qual st f fd) (Sc : FnScope N ps (defScope st))
    (hb : ∀ (cdv : Value) (A : Around) (outer : List Env) (s : Shared) (H : Hp) (E : XK), Room k (A.deeper (PyProof.Rows.envOfC qual (defScope st) s.heap.objs.size f cdv)) → A.guards = some [] →
      SSs (cxOf (L2.CX P w) P w K mg base N qual (defScope st) f cdv A outer s H E) (fun cls d _ H => E cls d H) (defBody st) g) : FnG P w K mg base (k + 1) f fd ps (fnS N.length g) := by
  obtain ⟨oc, od, kV, doc, pm, an, cdv, ct, osl, rfl, lk, hcd⟩ := Fn.ex
  have hpl : ps.length ≤ N.length := by have := congrArg List.length Sc.pre; rw [List.length_take] at this; omega
  refine ⟨fun A outer s H args us vs Q E hr hgd e0 hbd r hsp => ?_⟩
  obtain ⟨hl, S, as, m, ha, nd, fp⟩ := hsp
  have KX : K.In s.heap := e0.mod.kin.keeps fun b o e => (e0.bs b o e).1
  have lim : s.heap.NoLimit := e0.mod.nolimit.keeps fun b o e => (e0.bs b o e).1
  have hkind : ∀ y ∈ ps.zip us, (defScope st).names.lookup y.1 = some .local ∨ ((defScope st).names.lookup y.1 = some .cell ∧ ((cellsFrom (s.heap.objs.size + 1) (defScope st).names []).lookup y.1).isSome = true) := fun ⟨n, v⟩ hy => by
    rcases Sc.par n (List.of_mem_zip hy).1 with q | q
    · exact .inl q
    · exact .inr ⟨q, PySem.W.cellsFrom_some _ _ _ (.inl q)⟩
  refine codeAny_call_function hr.depth (KX _ _ lk) rfl Sc.co Sc.gen rfl (PySem.W.codeRec_of KX hcd) (hbd _ _ _ _ ?_)
  refine wpAny_newFunctionEnv_cells Sc.kind hkind fun env he s1 z => ?_
  subst he
  refine ⟨lim.keeps z.toInCall.keep, codeAny_func ?_⟩
  have I : Inv (cxOf (L2.CX P w) P w K mg base N qual (defScope st) f cdv A outer s H E) [] (L2.start N vs) H s1 := inv_start Sc hr.hd e0 hl r z
  have R0 := rel_start (N := N) m ha nd (by omega)
  -- what follows the body
  have sp : SPost K (fun cls d _ H => E cls d H) mg ⟨H, S, lentA 0 as vs⟩ S { nx := fun _ H' => Q .non H', rt := Q } (g (as ++ List.replicate (N.length - as.length) .no)) := by
    unfold fnS at fp
    cases q : g (as ++ List.replicate (N.length - as.length) .no) with
    | nx ρ =>
      simp only [q] at fp
      cases q2 : outsOf as ρ with
      | none => simp only [q2] at fp; exact fp.elim
      | some os =>
        simp only [q2] at fp
        exact fun σ H' S' m' R => fp .non H' S' (fend_of ha m R q2) .non
    | rt r ρ =>
      simp only [q] at fp
      cases q2 : outsOf as ρ with
      | none => simp only [q2] at fp; cases q3 : backR r ρ <;> simp only [q3] at fp <;> exact fp.elim
      | some os =>
        cases q3 : backR r ρ with
        | none => simp only [q2, q3] at fp; exact fp.elim
        | some rv =>
          simp only [q2, q3] at fp
          intro σ H' S' v m' R hv
          refine fp v H' S' (fend_of ha m R q2) ?_
          cases r with
          | val d => cases q3; exact hv
          | frs d =>
            cases q3
            obtain ⟨a, e, n, z, t, _⟩ := hv
            exact ⟨a, e, z, n, t⟩
          | slot i =>
            obtain ⟨hv, s, hs, _⟩ := hv
            unfold backR at q3
            simp only [hs] at q3
            obtain ⟨o, h1, h2⟩ := R.sl i s hs
            rw [hv] at h1; cases h1
            cases s with
            | no => cases q3
            | byr d => cases q3
            | val d => cases q3; obtain ⟨v', e, r⟩ := h2; cases e; exact r
            | own d => cases q3; obtain ⟨a, e, n, z, t⟩ := h2; cases e; exact ⟨a, rfl, z, n, t⟩
    | exc c ρ =>
      simp only [q] at fp
      cases q2 : outsOf as ρ with
      | none => simp only [q2] at fp; exact fp.elim
      | some os =>
        simp only [q2] at fp
        exact fun σ H' S' m' R cls hc => fp H' S' (fend_of ha m R q2) cls hc
    | bk ρ => simp only [q] at fp; exact fp.elim
    | ct ρ => simp only [q] at fp; exact fp.elim
    | bad => simp only [q] at fp; exact fp.elim
  refine wpAny_mono ((hb cdv A outer s H E (hr.deeper _) hgd).run [] s1 (L2.start N vs) H _ I ⟨_, _, S, R0, sp⟩) (fun fl s' hs => ?_) fun e s' hs => hs
  have fin : ∀ {σ' : St} {H' : Hp} {v : V} {u : Value}, Inv (cxOf (L2.CX P w) P w K mg base N qual (defScope st) f cdv A outer s H E) [] σ' H' s' → RelV v u → Q v H' → CE outer P w H s Q u s' :=
    fun {σ' H' v u} J rv q => ⟨v, H', J.os, J.bare, J.base, J.hok, rv, q⟩
  cases fl with
  | ret u =>
    obtain ⟨v, σ', H', J, rv, q⟩ := hs
    exact fin J rv q
  | next =>
    obtain ⟨σ', H', J, q⟩ := hs
    exact fin (v := V.non) (u := Value.none) J rfl q
  | brk =>
    obtain ⟨_, _, _, q⟩ := hs
    exact False.elim q
  | cont =>
    obtain ⟨_, _, _, q⟩ := hs
    exact False.elim q
/-- in a def's body what is raised leaves it -/
theorem takesBody {N : List Str} {qual : Str} {sc : Scope} {f : Addr} {cd : Value} {A : Around} {outer : List Env} {s : Shared} {H : Hp} {E : XK} : Takes (cxOf (L2.CX P w) P w K mg base N qual sc f cd A outer s H E) (fun cls d _ H => E cls d H) := takes_of rfl rfl rfl rfl
theorem passesBody {N : List Str} {qual : Str} {sc : Scope} {f : Addr} {cd : Value} {A : Around} {outer : List Env} {s : Shared} {H : Hp} {E : XK} : PassesOwn (model P w) (cxOf (L2.CX P w) P w K mg base N qual sc f cd A outer s H E).A (cxOf (L2.CX P w) P w K mg base N qual sc f cd A outer s H E).env
    (cxOf (L2.CX P w) P w K mg base N qual sc f cd A outer s H E).xe := passes_of (X := cxOf (L2.CX P w) P w K mg base N qual sc f cd A outer s H E) rfl
end
end Ev

set_option Elab.async false
set_option linter.all false
set_option maxRecDepth 100000
set_option maxHeartbeats 1000000
/-! EvF2: calls of defs; methods that change a local list or dict. -/
namespace Ev
open PySem PySem.Spec L2
/-! ### arguments -/
/-- the arguments' values -/
inductive ArgV (K : PySem.W.Frag) (σ : St) (S : Hp) : List (D ⊕ Nat) → List V → Prop
  | nil : ArgV K σ S [] []
  | v {d : D} {x : V} {as : List (D ⊕ Nat)} {vs : List V} : Rp K S x d → ArgV K σ S as vs → ArgV K σ S (.inl d :: as) (x :: vs)
  | r {i : Nat} {x : V} {as : List (D ⊕ Nat)} {vs : List V} : σ[i]? = some (some x) → ArgV K σ S as vs → ArgV K σ S (.inr i :: as) (x :: vs)
theorem ArgV.sub {K : PySem.W.Frag} {σ : St} {S S' : Hp} (m : Sub S S') : ∀ {as : List (D ⊕ Nat)} {vs : List V}, ArgV K σ S as vs → ArgV K σ S' as vs
  | _, _, .nil => .nil
  | _, _, .v h t => .v (h.sub m) (ArgV.sub m t)
  | _, _, .r h t => .r h (ArgV.sub m t)
def tAg (K : PySem.W.Frag) (W : WX) (cm : Str → Option Value) (as : List Ag) : TA := fun σ H Q => ∃ Γ ρ S, Rel K Γ ρ σ H S ∧ Post K W cm Γ σ S (args1 as ρ) fun xs _ H' S' => ∀ vs, ArgV K σ S' xs vs → Q vs H'
abbrev SAg (X : Cx) (W : WX) (es : List Expr) (as : List Ag) : Prop := PA X es (tAg X.K W X.mg as)
section
variable {X : Cx} {W : WX} {e : Expr} {es : List Expr} {f : Ex} {as : List Ag} {pos p : Pos}
theorem sg_nil : SAg X W [] [] := PA.imp pa_nil fun σ H Q ⟨Γ, ρ, S, R, p⟩ => p H S (.refl _) R [] .nil
theorem sg_v (ha : SX X W e f) (hr : SAg X W es as) (hs : starEach (e :: es) X.env = (false, eval e X.env) :: starEach es X.env := by rfl) : SAg X W (e :: es) (.v f :: as) := by
  refine PA.imp (pa_cons (sv_clo ha) hr hs) fun σ H Q ⟨Γ, ρ, S, R, p⟩ => ⟨Γ, ρ, S, R, ?_⟩
  unfold args1 at p
  refine Post.imp (Post.of_bind p) fun d ρ1 H1 S1 _ m1 R1 k v hv => ⟨Γ, ρ1, S1, R1, Post.imp (Post.of_bind k.2.2) fun ds ρ2 H2 S2 _ m2 R2 k2 vs hvs => ?_⟩
  exact k2.2.2 H2 S2 (.refl _) R2 _ (.v (hv.sub m2) hvs)
theorem sg_r (i : Nat) {x : Str} {px : Pos} (hr : SAg X W es as) (hN : X.N[i]? = some x := by rfl) (hv : Vis X.env.scope x := by first | exact Or.inl rfl | exact Or.inr (Or.inl rfl) | exact Or.inr (Or.inr rfl)) (hd : (x == ("__debug__" : Str)) = false := by decide)
    (hcd : (x == ("__classdict__" : Str)) = false := by decide) (hs : starEach (.Name x px :: es) X.env = (false, eval (.Name x px) X.env) :: starEach es X.env := by rfl) : SAg X W (.Name x px :: es) (.r i :: as) := by
  refine PA.imp (pa_cons (pe_var hN hv hd hcd) hr hs) fun σ H Q ⟨Γ, ρ, S, R, p⟩ => ?_
  unfold args1 at p
  have go : ∀ s, ρ[i]? = some s → s ≠ .no → Post X.K W X.mg Γ σ S ((args1 as ρ).bind fun ds ρ => .ok (.inr i :: ds) ρ) (fun xs ρ' H' S' => ∀ vs, ArgV X.K σ S' xs vs → Q vs H') → tCons (tVar i) (tAg X.K W X.mg as) σ H Q := fun s hs hn p => by
    obtain ⟨o, h1, h2⟩ := R.sl i s hs
    have : ∃ v, o = some v := by
      cases s with
      | no => exact absurd rfl hn
      | val d => obtain ⟨v, e, _⟩ := h2; exact ⟨v, e⟩
      | own d => obtain ⟨v, e, _⟩ := h2; exact ⟨_, e⟩
      | byr d => obtain ⟨v, e, _⟩ := h2; exact ⟨_, e⟩
    obtain ⟨v, rfl⟩ := this
    exact ⟨v, h1, Γ, ρ, S, R, Post.imp (Post.of_bind p) fun ds ρ2 H2 S2 _ m2 R2 k2 vs hvs => k2.2.2 H2 S2 (.refl _) R2 _ (.r h1 hvs)⟩
  cases q : ρ[i]? with
  | none => simp only [q] at p; exact p.elim
  | some s =>
    cases s with
    | no => simp only [q] at p; exact p.elim
    | _ => simp only [q] at p; exact go _ q (fun z => by cases z) p
end
/-! ### what a call does to the slots -/
def slotsOf : List (D ⊕ Nat) → List Nat
  | [] => []
  | .inl _ :: as => slotsOf as
  | .inr i :: as => i :: slotsOf as
theorem args1_slots : ∀ {as : List Ag} {ρ ρ' : En} {xs : List (D ⊕ Nat)}, args1 as ρ = .ok xs ρ' → slotsOf xs = lentOf as
  | [], _, _, _, e => by cases e; rfl
  | .v f :: as, ρ, ρ', xs, e => by
    unfold args1 at e
    cases q : clo f ρ with
    | ok d ρ1 =>
      rw [q] at e
      simp only [RE.bind_ok] at e
      cases q2 : args1 as ρ1 with
      | ok ds ρ2 => rw [q2] at e; cases e; show slotsOf ds = lentOf as; exact args1_slots (as := as) q2
      | exc c ρ2 => rw [q2] at e; cases e
      | bad => rw [q2] at e; cases e
    | exc c ρ1 => rw [q] at e; cases e
    | bad => rw [q] at e; cases e
  | .r i :: as, ρ, ρ', xs, e => by
    unfold args1 at e
    have go : ((args1 as ρ).bind fun ds ρ => RE.ok (Sum.inr i :: ds) ρ) = .ok xs ρ' → slotsOf xs = i :: lentOf as := fun e => by
      cases q2 : args1 as ρ with
      | ok ds ρ2 => rw [q2] at e; cases e; show i :: slotsOf ds = _; rw [args1_slots (as := as) q2]
      | exc c ρ2 => rw [q2] at e; cases e
      | bad => rw [q2] at e; cases e
    split at e
    · cases e
    · cases e
    · exact go e
section
variable {K : PySem.W.Frag} {Γ : G} {ρ ρ' : En} {σ : St} {H H' S S' : Hp}
/-- the lent arguments are such of the callee -/
theorem lend_ok (R : Rel K Γ ρ σ H S) : ∀ {xs : List (D ⊕ Nat)} {vs : List V} {ss : List Sl}, ArgV K σ S xs vs → lend ρ xs = some ss → ArgOk K H S ss vs
  | _, _, _, .nil, e => by cases e; exact .nil
  | _, _, ss, .v (as := as) r t, e => by
    unfold lend at e
    cases q : lend ρ as with
    | none => rw [q] at e; cases e
    | some rs => rw [q] at e; cases e; exact .val r (lend_ok R t q)
  | _, _, ss, .r (i := i) (as := as) r t, e => by
    unfold lend at e
    cases q : ρ[i]? with
    | none => simp only [q] at e; cases e
    | some s =>
      cases q2 : lend ρ as with
      | none => cases s <;> simp only [q, q2] at e <;> cases e
      | some rs =>
        obtain ⟨o, h1, h2⟩ := R.sl i s q
        rw [r] at h1; cases h1
        cases s with
        | no => simp only [q, q2] at e; cases e
        | val d => simp only [q, q2] at e; cases e
        | own d => simp only [q, q2] at e; cases e; obtain ⟨a, e', n, _, tp⟩ := h2; cases e'; exact .byr n tp (lend_ok R t q2)
        | byr d => simp only [q, q2] at e; cases e; obtain ⟨a, e', _, n, tp⟩ := h2; cases e'; exact .byr n tp (lend_ok R t q2)
/-- the lent addresses are those of the slots -/
theorem lend_addr : ∀ {xs : List (D ⊕ Nat)} {vs : List V} {ss : List Sl} {n : Nat}, ArgV K σ S xs vs → lend ρ xs = some ss → ∀ p ∈ lentA n ss vs, ∃ i s, i ∈ slotsOf xs ∧ ρ[i]? = some s ∧ held s = true ∧ σ[i]? = some (some (.ref p.2))
  | _, _, _, _, .nil, e => by cases e; intro p hp; cases hp
  | _, _, ss, n, .v (as := as) r t, e => by
    unfold lend at e
    cases q : lend ρ as with
    | none => rw [q] at e; cases e
    | some rs => rw [q] at e; cases e; exact fun p hp => lend_addr (n := n + 1) t q p hp
  | _, _, ss, n, .r (i := i) (x := x) (as := as) r t, e => by
    unfold lend at e
    have key : ∀ d rs, lend ρ as = some rs → (∃ s, ρ[i]? = some s ∧ held s = true) → ∀ p ∈ lentA n (Sl.byr d :: rs) (x :: _), ∃ j s, j ∈ slotsOf (Sum.inr i :: as) ∧ ρ[j]? = some s ∧ held s = true ∧ σ[j]? = some (some (.ref p.2)) := fun d rs q ⟨s, h1, h2⟩ p hp => by
      have rest : p ∈ lentA (n + 1) rs _ → ∃ j s, j ∈ slotsOf (Sum.inr i :: as) ∧ ρ[j]? = some s ∧ held s = true ∧ σ[j]? = some (some (.ref p.2)) := fun hp => by
        obtain ⟨j, s, f1, f2⟩ := lend_addr (n := n + 1) t q p hp
        exact ⟨j, s, List.mem_cons_of_mem _ f1, f2⟩
      cases x with
      | ref a =>
        rcases List.mem_cons.mp hp with z | hp
        · subst z; exact ⟨i, s, List.mem_cons_self, h1, h2, r⟩
        · exact rest hp
      | _ => exact rest hp
    cases q : ρ[i]? with
    | none => simp only [q] at e; cases e
    | some s =>
      cases q2 : lend ρ as with
      | none => cases s <;> simp only [q, q2] at e <;> cases e
      | some rs =>
        cases s with
        | no => simp only [q, q2] at e; cases e
        | val d => simp only [q, q2] at e; cases e
        | own d => simp only [q, q2] at e; cases e; exact key d rs q2 ⟨_, q, rfl⟩
        | byr d => simp only [q, q2] at e; cases e; exact key d rs q2 ⟨_, q, rfl⟩
theorem lend_nodup (R : Rel K Γ ρ σ H S) : ∀ {xs : List (D ⊕ Nat)} {vs : List V} {ss : List Sl} {n : Nat}, (slotsOf xs).Nodup → ArgV K σ S xs vs → lend ρ xs = some ss → ((lentA n ss vs).map (·.2)).Nodup
  | [], _, _, _, _, .nil, e => by cases e; exact List.nodup_nil
  | .inl d :: as, _ :: vs, ss, n, nd, .v r t, e => by
    unfold lend at e
    cases q : lend ρ as with
    | none => rw [q] at e; cases e
    | some rs => rw [q] at e; cases e; exact lend_nodup R (xs := as) (n := n + 1) nd t q
  | .inr i :: as, x :: vs, ss, n, nd, .r r t, e => by
    unfold lend at e
    have nd' : i ∉ slotsOf as ∧ (slotsOf as).Nodup := List.nodup_cons.mp nd
    have key : ∀ d rs, lend ρ as = some rs → (∃ s, ρ[i]? = some s ∧ held s = true) → ((lentA n (Sl.byr d :: rs) (x :: vs)).map (·.2)).Nodup := fun d rs q ⟨s, h1, h2⟩ => by
      have ih := lend_nodup R (n := n + 1) nd'.2 t q
      cases x with
      | ref a =>
        show ((n, a) :: lentA (n + 1) rs vs |>.map (·.2)).Nodup
        rw [List.map_cons, List.nodup_cons]
        refine ⟨fun hm => ?_, ih⟩
        obtain ⟨p, hp, e⟩ := List.mem_map.mp hm
        obtain ⟨j, u, f1, f2, f3, f4⟩ := lend_addr (n := n + 1) t q p hp
        rw [e] at f4
        exact nd'.1 (R.ap i j s u a h1 f2 h2 f3 r f4 ▸ f1)
      | _ => exact ih
    cases q : ρ[i]? with
    | none => simp only [q] at e; cases e
    | some s =>
      cases q2 : lend ρ as with
      | none => cases s <;> simp only [q, q2] at e <;> cases e
      | some rs =>
        cases s with
        | no => simp only [q, q2] at e; cases e
        | val d => simp only [q, q2] at e; cases e
        | own d => simp only [q, q2] at e; cases e; exact key d rs q2 ⟨_, q, rfl⟩
        | byr d => simp only [q, q2] at e; cases e; exact key d rs q2 ⟨_, q, rfl⟩
/-- behind the call: what the lent slots hold now -/
theorem give_slots : ∀ {xs : List (D ⊕ Nat)} {vs : List V} {ss : List Sl} {os : List D} {ρ0 ρ ρ' : En}, (slotsOf xs).Nodup → ArgV K σ S xs vs → lend ρ0 xs = some ss → OutOk K H' S' ss vs os → giveBack ρ xs os = some ρ' →
    ρ'.length = ρ.length ∧ ∀ (j : Nat) s', ρ'[j]? = some s' → ∃ s, ρ[j]? = some s ∧ (held s' = held s) ∧ (j ∉ slotsOf xs → s' = s) ∧ (j ∈ slotsOf xs → ∃ a d', σ[j]? = some (some (.ref a)) ∧ S' a = none ∧ Top K H' S' a d' ∧ ((∃ d, s = .own d) ∧ s' = .own d' ∨ (∃ d, s = .byr d) ∧ s' = .byr d'))
  | [], _, ss, os, _, ρ, ρ', _, h, e1, o, e => by
    cases h; cases e1; cases o
    cases e
    exact ⟨rfl, fun j s' q => ⟨s', q, rfl, fun _ => rfl, fun z => by cases z⟩⟩
  | .inl d :: xs, _, ss, os, ρ0, ρ, ρ', nd, .v r t, e1, o, e => by
    unfold lend at e1
    cases q : lend ρ0 xs with
    | none => rw [q] at e1; cases e1
    | some rs =>
      rw [q] at e1; cases e1
      cases o with
      | val o' => exact give_slots (xs := xs) nd t q o' e
  | .inr i :: xs, _, ss, os, ρ0, ρ, ρ', nd, .r (x := x) (vs := vs) r t, e1, o, e => by
    have nd' : i ∉ slotsOf xs ∧ (slotsOf xs).Nodup := List.nodup_cons.mp nd
    unfold lend at e1
    have key : ∀ d rs, lend ρ0 xs = some rs → ss = Sl.byr d :: rs → ρ'.length = ρ.length ∧ ∀ (j : Nat) s', ρ'[j]? = some s' → ∃ s, ρ[j]? = some s ∧ (held s' = held s) ∧ (j ∉ slotsOf (Sum.inr i :: xs) → s' = s) ∧ (j ∈ slotsOf (Sum.inr i :: xs) →
        ∃ a d', σ[j]? = some (some (.ref a)) ∧ S' a = none ∧ Top K H' S' a d' ∧ ((∃ d, s = .own d) ∧ s' = .own d' ∨ (∃ d, s = .byr d) ∧ s' = .byr d')) := fun d rs q ess => by
      subst ess
      cases o with
      | @byr _ o' a _ _ os' hn tp o2 =>
        have step : ∀ (s0 s1 : Sl), ρ[i]? = some s0 → held s1 = held s0 → ((∃ d, s0 = .own d) ∧ s1 = .own o' ∨ (∃ d, s0 = .byr d) ∧ s1 = .byr o') → giveBack (ρ.set i s1) xs os' = some ρ' → ρ'.length = ρ.length ∧ ∀ (j : Nat) s', ρ'[j]? = some s' → ∃ s, ρ[j]? = some s ∧ (held s' = held s) ∧ (j ∉ slotsOf (Sum.inr i :: xs) → s' = s) ∧ (j ∈ slotsOf (Sum.inr i :: xs) →
            ∃ a d', σ[j]? = some (some (.ref a)) ∧ S' a = none ∧ Top K H' S' a d' ∧ ((∃ d, s = .own d) ∧ s' = .own d' ∨ (∃ d, s = .byr d) ∧ s' = .byr d')) := fun s0 s1 h0 hh alt ge => by
          obtain ⟨g1, g2⟩ := give_slots nd'.2 t q o2 ge
          refine ⟨by rw [g1, List.length_set], fun j s' hj => ?_⟩
          obtain ⟨s, k1, k2, k3, k4⟩ := g2 j s' hj
          by_cases hij : i = j
          · subst hij
            have hl := (List.getElem?_eq_some_iff.mp h0).1
            rw [List.getElem?_set_self hl] at k1
            cases k1
            have es := k3 nd'.1
            subst es
            exact ⟨s0, h0, hh, fun z => absurd List.mem_cons_self z, fun _ => ⟨a, o', r, hn, tp, alt⟩⟩
          · rw [List.getElem?_set_ne hij] at k1
            refine ⟨s, k1, k2, fun z => k3 fun y => z (List.mem_cons_of_mem _ y), fun z => k4 ?_⟩
            rcases List.mem_cons.mp z with z | z
            · exact absurd z.symm hij
            · exact z
        unfold giveBack at e
        cases h0 : ρ[i]? with
        | none => simp only [h0] at e; cases e
        | some s0 =>
          cases s0 with
          | no => simp only [h0] at e; cases e
          | val d => simp only [h0] at e; cases e
          | own d => simp only [h0] at e; exact step _ (.own o') h0 rfl (.inl ⟨⟨d, rfl⟩, rfl⟩) e
          | byr d => simp only [h0] at e; exact step _ (.byr o') h0 rfl (.inr ⟨⟨d, rfl⟩, rfl⟩) e
    cases q : ρ0[i]? with
    | none => simp only [q] at e1; cases e1
    | some s =>
      cases q2 : lend ρ0 xs with
      | none => cases s <;> simp only [q, q2] at e1 <;> cases e1
      | some rs =>
        cases s with
        | no => simp only [q, q2] at e1; cases e1
        | val d => simp only [q, q2] at e1; cases e1
        | own d => simp only [q, q2] at e1; cases e1; exact key d rs q2 rfl
        | byr d => simp only [q, q2] at e1; cases e1; exact key d rs q2 rfl
theorem Rel.called {xs : List (D ⊕ Nat)} {vs : List V} {ss : List Sl} {os : List D} (R : Rel K Γ ρ σ H S) (nd : (slotsOf xs).Nodup) (av : ArgV K σ S xs vs) (le : lend ρ xs = some ss) (fe : FEnd K H S H' S' ss vs os) (ge : giveBack ρ xs os = some ρ') : Rel K Γ ρ' σ H' S' := by
  obtain ⟨gl, gs⟩ := give_slots nd av le fe.out ge
  -- a slot that was not lent keeps its object
  have ne : ∀ {j : Nat} {s : Sl} {a : Addr}, j ∉ slotsOf xs → ρ[j]? = some s → held s = true → σ[j]? = some (some (.ref a)) → a ∉ (lentA 0 ss vs).map (·.2) := fun {j s a} hj e hh q hm => by
    obtain ⟨p, hp, e2⟩ := List.mem_map.mp hm
    obtain ⟨i, u, f1, f2, f3, f4⟩ := lend_addr (n := 0) av le p hp
    rw [e2] at f4
    exact hj (R.ap i j u s a f2 e f3 hh f4 q ▸ f1)
  have oldS : ∀ {a : Addr} {o : HO}, H a = some o → S a = none → S' a = none := fun {a o} e n => by
    cases q : S' a with
    | none => rfl
    | some u => have := fe.new a u q n; rw [e] at this; cases this
  refine ⟨fe.sub, R.s0.trans fe.s, fun a o e b => ?_, fun a o e n => ?_, fun a b => ?_, by rw [gl]; exact R.len, fun j s' e => ?_, fun i j s t a e1 e2 h1 h2 s1 s2 => ?_⟩
  · refine fe.keep a o (R.keep a o e b) fun hm => ?_
    obtain ⟨p, hp, e2⟩ := List.mem_map.mp hm
    obtain ⟨i, u, f1, f2, f3, f4⟩ := lend_addr (n := 0) av le p hp
    obtain ⟨ov, g1, g2⟩ := R.sl i u f2
    rw [f4] at g1; cases g1
    cases u with
    | no => cases f3
    | val d => cases f3
    | own d => obtain ⟨a', e', _, z, _⟩ := g2; cases e'; rw [← e2] at e; rw [z] at e; cases e
    | byr d => obtain ⟨a', e', hB, _⟩ := g2; cases e'; rw [← e2] at b; exact b (List.mem_map.mpr ⟨_, hB, rfl⟩)
  · cases q : S a with
    | some u => exact R.new a u q n
    | none =>
      have z := fe.new a o e q
      cases w : Γ.H0 a with
      | none => rfl
      | some u =>
        by_cases b : a ∈ Γ.B
        · obtain ⟨o', e'⟩ := R.lent a b; rw [e'] at z; cases z
        · rw [R.keep a u w b] at z; cases z
  · obtain ⟨o, e⟩ := R.lent a b
    by_cases hm : a ∈ (lentA 0 ss vs).map (·.2)
    · obtain ⟨p, hp, e2⟩ := List.mem_map.mp hm
      obtain ⟨i, u, f1, f2, f3, f4⟩ := lend_addr (n := 0) av le p hp
      have hi : i < ρ'.length := by rw [gl]; exact (List.getElem?_eq_some_iff.mp f2).1
      obtain ⟨s, k1, k2, k3, k4⟩ := gs i _ (List.getElem?_eq_getElem hi)
      obtain ⟨a', d', g1, g2, g3, _⟩ := k4 f1
      rw [f4] at g1; cases g1
      rw [e2] at g3
      obtain ⟨o', ho, _⟩ := g3.there
      exact ⟨o', ho⟩
    · exact ⟨o, fe.keep a o e hm⟩
  · obtain ⟨s, k1, k2, k3, k4⟩ := gs j s' e
    obtain ⟨ov, g1, g2⟩ := R.sl j s k1
    refine ⟨ov, g1, ?_⟩
    by_cases hj : j ∈ slotsOf xs
    · obtain ⟨a, d', f1, f2, f3, f4⟩ := k4 hj
      rw [g1] at f1; cases f1
      rcases f4 with ⟨⟨d, rfl⟩, rfl⟩ | ⟨⟨d, rfl⟩, rfl⟩
      · obtain ⟨b, e', _, z, _⟩ := g2; cases e'; exact ⟨_, rfl, f2, z, f3⟩
      · obtain ⟨b, e', hB, _⟩ := g2; cases e'; exact ⟨_, rfl, hB, f2, f3⟩
    · have := k3 hj
      subst this
      cases s' with
      | no => trivial
      | val d => obtain ⟨v, e', r⟩ := g2; exact ⟨v, e', r.sub fe.s⟩
      | own d =>
        obtain ⟨a, e', n, z, t⟩ := g2
        subst e'
        have hk := ne hj k1 rfl g1
        obtain ⟨o, ho, _⟩ := t.there
        exact ⟨a, rfl, oldS ho n, z, t.at (fun u q => fe.keep a u q hk) fe.s⟩
      | byr d =>
        obtain ⟨a, e', hB, n, t⟩ := g2
        subst e'
        have hk := ne hj k1 rfl g1
        obtain ⟨o, ho, _⟩ := t.there
        exact ⟨a, rfl, hB, oldS ho n, t.at (fun u q => fe.keep a u q hk) fe.s⟩
  · obtain ⟨s', k1, k2, _⟩ := gs i s e1
    obtain ⟨t', l1, l2, _⟩ := gs j t e2
    exact R.ap i j s' t' a k1 l1 (by rw [← k2]; exact h1) (by rw [← l2]; exact h2) s1 s2
end
/-! ### the call -/
section
variable {X : Cx} {W : WX} {e : Expr} {es : List Expr} {f : Addr} {as : List Ag} {pos p : Pos} {x : Str} {F : FnS} {k : Nat} {fd : FuncData} {ps : List Str}
theorem run_fnG {pins : List (Addr × Obj)} {σ : St} {H : Hp} {s : Shared} {Q : VK} {us : List Value} {vs : List V} (G : FnG X.prog X.w X.K X.mg X.base k f fd ps F) (hr : Room k X.A) (hgd : X.A.guards = some []) (hb : Binds X.K fd ps []) (tk : Takes X W)
    (I : Inv X pins σ H s) (r : Vals vs us) (h : spF X.K X.mg ps.length F vs H Q fun cls d H' => W cls d σ H') : wpAny (model X.prog X.w) X.A (call (.ref f) us) (EP X pins σ Q) X.xe s := by
  have hl : us.length = ps.length := by rw [← r.length]; exact h.1
  have b := hb s us I.kIn (by rw [List.append_nil]; exact hl)
  rw [List.append_nil] at b
  refine wpAny_call (codeAny_mono (G.run X.A X.stack s H ⟨us, []⟩ us vs Q _ hr hgd I.env0 b r h) fun r s' hq => ?_)
  cases r with
  | error e => exact tk e s' (XE.of_call I (fun _ _ _ z => z) hq)
  | ok fl =>
    cases fl with
    | ret u => exact I.after hq
    | next => exact False.elim hq
    | brk => exact False.elim hq
    | cont => exact False.elim hq
theorem cal_core {σ : St} {H : Hp} {Q : VK} (hl : as.length = ps.length) (nd : (lentOf as).Nodup) (h : tX X.K W X.mg (calE F as) σ H Q) : tAg X.K W X.mg as σ H fun vs H1 => spF X.K X.mg ps.length F vs H1 Q fun cls d H' => W cls d σ H' := by
  obtain ⟨Γ, ρ, S, R, p⟩ := h
  refine ⟨Γ, ρ, S, R, ?_⟩
  unfold calE at p
  refine Post.imp (Post.of_bind p) fun xs ρ1 H1 S1 ea m1 R1 k vs av => ?_
  obtain ⟨_, _, k⟩ := k
  have es := args1_slots ea
  have ndx : (slotsOf xs).Nodup := by rw [es]; exact nd
  have hlen : ∀ {xs : List (D ⊕ Nat)} {vs : List V}, ArgV X.K σ S1 xs vs → vs.length = xs.length := by
    intro xs vs h
    induction h with
    | nil => rfl
    | v _ _ ih => rw [List.length_cons, List.length_cons, ih]
    | r _ _ ih => rw [List.length_cons, List.length_cons, ih]
  have hxl : ∀ {as : List Ag} {ρ ρ' : En} {xs : List (D ⊕ Nat)}, args1 as ρ = .ok xs ρ' → xs.length = as.length := by
    intro as
    induction as with
    | nil => intro ρ ρ' xs e; cases e; rfl
    | cons a as ih =>
      intro ρ ρ' xs e
      cases a with
      | v f =>
        unfold args1 at e
        cases q : clo f ρ with
        | ok d ρ1 =>
          rw [q] at e
          simp only [RE.bind_ok] at e
          cases q2 : args1 as ρ1 with
          | ok ds ρ2 => rw [q2] at e; cases e; rw [List.length_cons, List.length_cons, ih q2]
          | exc c ρ2 => rw [q2] at e; cases e
          | bad => rw [q2] at e; cases e
        | exc c ρ1 => rw [q] at e; cases e
        | bad => rw [q] at e; cases e
      | r i =>
        unfold args1 at e
        split at e
        · cases e
        · cases e
        · cases q2 : args1 as ρ with
          | ok ds ρ2 => rw [q2] at e; cases e; rw [List.length_cons, List.length_cons, ih q2]
          | exc c ρ2 => rw [q2] at e; cases e
          | bad => rw [q2] at e; cases e
  refine ⟨by rw [hlen av, hxl ea, hl], ?_⟩
  cases le : lend ρ1 xs with
  | none => rw [le] at k; exact k.elim
  | some ss =>
    rw [le] at k
    refine ⟨S1, ss, R1.sub, lend_ok R1 av le, lend_nodup R1 (n := 0) ndx av le, ?_⟩
    simp only at k
    cases ef : F ss with
    | bad => rw [ef] at k; exact k.elim
    | rt r os =>
      rw [ef] at k
      simp only at k
      intro v H' S' fe hv
      cases ge : giveBack ρ1 xs os with
      | none => rw [ge] at k; exact k.elim
      | some ρ2 =>
        rw [ge] at k
        have R2 := R1.called ndx av le fe ge
        refine k H' S' fe.s R2 v ?_
        cases r with
        | val d => exact hv
        | slot i => exact hv.elim
        | frs d =>
          obtain ⟨a, e, n, n', t⟩ := hv
          have A1 := R1.apart n
          refine ⟨a, e, n', A1.h0, t, fun j s' hj hh q => ?_⟩
          obtain ⟨_, gs⟩ := give_slots ndx av le fe.out ge
          obtain ⟨s, k1, k2, _⟩ := gs j s' hj
          exact A1.ap j s k1 (by rw [← k2]; exact hh) q
    | exc c os =>
      rw [ef] at k
      simp only at k
      intro H' S' fe cls hc
      cases ge : giveBack ρ1 xs os with
      | none => rw [ge] at k; exact k.elim
      | some ρ2 =>
        rw [ge] at k
        exact k H' S' fe.s (R1.called ndx av le fe ge) cls hc
theorem sx_call (G : FnG X.prog X.w X.K X.mg X.base k f fd ps F) (hr : Room k X.A) (hgd : X.A.guards = some []) (hg : Gl X x) (hm : X.mg x = some (.ref f)) (hk : PySem.W.keepIn X.K (.ref f) = true) (hb : Binds X.K fd ps []) (tk : Takes X W)
    (ha : SAg X W (e :: es) as) (hl : as.length = ps.length := by rfl) (nd : (lentOf as).Nodup := by decide) (hdb : (x == ("__debug__" : Str)) = false := by decide) (he : starEach (e :: es) X.env = (false, eval e X.env) :: starEach es X.env := by rfl)
    (hpl : (backTo pos (starEach es X.env)).any (·.1) = false := by rfl) : SX X W (.Call (.Name x p) (e :: es) [] pos) (calE F as) := by
  refine ⟨fun pins s σ H Q I h => ?_⟩
  refine wpAny_Call_Name_kw (ld_glob I hg hm ?_ hdb)
  refine PySem.W.callWith_K (h₀ := X.base) I.ok.mod.kin hk (thn (ha.run pos pins s σ H _ I (cal_core hl nd h)) fun us s1 ⟨vs, H1, I1, r, q⟩ => ⟨I1.kIn, ?_⟩) he hpl
  exact run_fnG G hr hgd hb tk I1 r q
end
end Ev

set_option Elab.async false
set_option linter.all false
set_option maxRecDepth 100000
set_option maxHeartbeats 1000000
/-! EvM: a slot's list or dict is changed in its place. -/
namespace Ev
open PySem PySem.Spec L2
section
variable {K : PySem.W.Frag} {Γ : G} {ρ ρ' : En} {σ : St} {H H' S S' : Hp} {d d' : D} {i : Nat}
theorem hdl_slot (h : hdl ρ i = some d) : ∃ s, ρ[i]? = some s ∧ held s = true ∧ slD s = some d ∧ (s = .own d ∨ s = .byr d) := by
  unfold hdl at h
  cases q : ρ[i]? with
  | none => simp only [q] at h; cases h
  | some s => cases s <;> simp only [q] at h <;> first | (cases h; done) | (cases h; exact ⟨_, rfl, rfl, rfl, .inl rfl⟩) | (cases h; exact ⟨_, rfl, rfl, rfl, .inr rfl⟩)
theorem hdl_top (R : Rel K Γ ρ σ H S) (h : hdl ρ i = some d) : ∃ a, σ[i]? = some (some (.ref a)) ∧ S a = none ∧ Top K H S a d := by
  obtain ⟨s, e, hh, _, hs⟩ := hdl_slot h
  obtain ⟨o, h1, h2⟩ := R.sl i s e
  rcases hs with rfl | rfl
  · obtain ⟨a, rfl, n, _, t⟩ := h2; exact ⟨a, h1, n, t⟩
  · obtain ⟨a, rfl, _, n, t⟩ := h2; exact ⟨a, h1, n, t⟩
/-- THE WRITE: the slot's object is rewritten -/
theorem Rel.write {a : Addr} {o : HO} (R : Rel K Γ ρ σ H S) (hd : hdl ρ i = some d) (hσ : σ[i]? = some (some (.ref a))) (t : Top K (upd H a o) S a d') : Rel K Γ (wrt ρ i d') σ (upd H a o) S := by
  obtain ⟨s, e, hh, _, hs⟩ := hdl_slot hd
  obtain ⟨ov, h1, h2⟩ := R.sl i s e
  rw [hσ] at h1; cases h1
  have sn : S a = none := by
    rcases hs with rfl | rfl
    · obtain ⟨b, e', n, _, _⟩ := h2; cases e'; exact n
    · obtain ⟨b, e', _, n, _⟩ := h2; cases e'; exact n
  have off : ∀ b u, S b = some u → b ≠ a := fun b u q z => by rw [z, sn] at q; cases q
  have other : ∀ (j : Nat) t, j ≠ i → ρ[j]? = some t → held t = true → σ[j]? ≠ some (some (.ref a)) := fun j t hj q ht z => hj (R.ap j i t s a q e ht hh z hσ)
  have base : Rel K Γ (ρ.set i .no) σ (upd H a o) S := by
    have R0 : Rel K Γ (ρ.set i .no) σ H S := R.reset (fun _ _ => trivial) fun q => by cases q
    have A0 : ∀ (j : Nat) t, (ρ.set i .no)[j]? = some t → held t = true → σ[j]? ≠ some (some (.ref a)) := fun j t q ht => by
      by_cases hj : i = j
      · subst hj
        rw [List.getElem?_set_self (List.getElem?_eq_some_iff.mp e).1] at q
        cases q; cases ht
      · rw [List.getElem?_set_ne hj] at q
        exact other j t (fun z => hj z.symm) q ht
    refine ⟨fun b u q => by rw [upd_ne (off b u q)]; exact R0.sub b u q, R0.s0, fun b u q nb => ?_, R0.new, fun b hb => ?_, R0.len, fun j t q => ?_, R0.ap⟩
    · have hb : b ≠ a := fun z => by
        subst z
        rcases hs with rfl | rfl
        · obtain ⟨b', e', _, z, _⟩ := h2; cases e'; rw [z] at q; cases q
        · obtain ⟨b', e', hB, _⟩ := h2; cases e'; exact nb (List.mem_map.mpr ⟨_, hB, rfl⟩)
      rw [upd_ne hb]; exact R0.keep b u q nb
    · obtain ⟨u, q⟩ := R0.lent b hb
      by_cases z : b = a
      · exact ⟨o, by rw [z, upd_same]⟩
      · exact ⟨u, by rw [upd_ne z]; exact q⟩
    · obtain ⟨ov, k1, k2⟩ := R0.sl j t q
      refine ⟨ov, k1, ?_⟩
      cases t with
      | no => trivial
      | val d => exact k2
      | own d =>
        obtain ⟨b, rfl, n, z, t'⟩ := k2
        have hb : b ≠ a := fun w => A0 j _ q rfl (by rw [k1, w])
        exact ⟨b, rfl, n, z, t'.at (fun u w => by rw [upd_ne hb]; exact w) (.refl _)⟩
      | byr d =>
        obtain ⟨b, rfl, hB, n, t'⟩ := k2
        have hb : b ≠ a := fun w => A0 j _ q rfl (by rw [k1, w])
        exact ⟨b, rfl, hB, n, t'.at (fun u w => by rw [upd_ne hb]; exact w) (.refl _)⟩
  have fin : ∀ s', (∀ ov, σ[i]? = some ov → SlOk K Γ (upd H a o) S i ov s') → Rel K Γ (ρ.set i s') σ (upd H a o) S := fun s' hs' => by
    refine ⟨base.sub, base.s0, base.keep, base.new, base.lent, by rw [List.length_set]; exact R.len, fun j t q => ?_, fun j k t u b e1 e2 g1 g2 s1 s2 => ?_⟩
    · by_cases hj : i = j
      · subst hj
        rw [List.getElem?_set_self (List.getElem?_eq_some_iff.mp e).1] at q
        cases q
        exact ⟨_, hσ, hs' _ hσ⟩
      · rw [List.getElem?_set_ne hj] at q
        exact base.sl j t (by rw [List.getElem?_set_ne hj]; exact q)
    · have old : ∀ (j : Nat) t, (ρ.set i s')[j]? = some t → held t = true → ∃ t', ρ[j]? = some t' ∧ held t' = true := fun j t q ht => by
        by_cases hj : i = j
        · subst hj; exact ⟨s, e, hh⟩
        · rw [List.getElem?_set_ne hj] at q; exact ⟨t, q, ht⟩
      obtain ⟨t', f1, f2⟩ := old j t e1 g1
      obtain ⟨u', f3, f4⟩ := old k u e2 g2
      exact R.ap j k t' u' b f1 f3 f2 f4 s1 s2
  unfold wrt
  rcases hs with rfl | rfl
  · simp only [e]
    obtain ⟨b, e', n, z, _⟩ := h2
    cases e'
    exact fin _ fun ov q => by rw [hσ] at q; cases q; exact ⟨a, rfl, sn, z, t⟩
  · simp only [e]
    obtain ⟨b, e', hB, n, _⟩ := h2
    cases e'
    exact fin _ fun ov q => by rw [hσ] at q; cases q; exact ⟨a, rfl, hB, sn, t⟩
theorem tyV_list {a : Addr} {xs : List D} (t : Top K H S a (.list xs)) : tyV K "list" (.ref a) H := by
  cases t with
  | lst e r => exact .inl ⟨rfl, _, .inl (.inl e)⟩
end
section
variable {X : Cx} {W : WX} {e b : Expr} {f fk : Ex} {pos px apos : Pos} {x : Str}
theorem sx_app (i : Nat) (ha : SX X W e f) (hN : X.N[i]? = some x := by rfl) (hv : Vis X.env.scope x := by first | exact Or.inl rfl | exact Or.inr (Or.inl rfl) | exact Or.inr (Or.inr rfl)) (hd : (x == ("__debug__" : Str)) = false := by decide) (hcd : (x == ("__classdict__" : Str)) = false := by decide)
    (hbase : attributeBase (.Name x px) "append" X.env (eval (.Name x px) X.env) = eval (.Name x px) X.env := by rfl)
    (hfew : ((backTo pos (starEach [e] X.env)).all (fun x => !x.1) && (backToKw pos (keywordEach [] X.env)).all (fun x => x.1.isSome)
      && decide (([e] : List Expr).length + ([] : List Keyword).length + (if ([] : List Keyword).isEmpty then 0 else 1) < 30)) = true := by rfl)
    (hline : (apos.endLine == pos.line) = true := by rfl) (hs : starEach [e] X.env = (false, eval e X.env) :: starEach [] X.env := by rfl) (hpl : (backTo pos (starEach [] X.env)).any (·.1) = false := by rfl) :
    SX X W (.Call (.Attribute (.Name x px) "append" apos) [e] [] pos) (appE i f) := by
  refine PE.imp (pe_bm F.plainAttrs_list F.slot_list_append F.type_list_append mt_append (pe_var hN hv hd hcd) (pa_cons (sv_clo ha) pa_nil hs) hbase hfew hline hs hpl) fun σ H Q ⟨Γ, ρ, S, R, p⟩ => ?_
  unfold appE at p
  cases q : hdl ρ i with
  | none => rw [q] at p; exact p.elim
  | some d =>
    obtain ⟨a, h1, h2, h3⟩ := hdl_top R q
    cases d with
    | list xs0 =>
      rw [q] at p
      refine ⟨_, h1, tyV_list h3, Γ, ρ, S, R, Post.imp (Post.of_bind p) fun y ρ1 H1 S1 _ m1 R1 k v hv => ?_⟩
      obtain ⟨_, _, k⟩ := k
      cases q1 : hdl ρ1 i with
      | none => simp only [q1] at k; exact k.elim
      | some d =>
        obtain ⟨a', g1, g2, g3⟩ := hdl_top R1 q1
        rw [h1] at g1; cases g1
        cases d with
        | list xs =>
          simp only [q1] at k
          split at k
          · rename_i hz
            cases g3 with
            | lst e r =>
              refine ⟨a, _, v, rfl, rfl, e, by rw [r.length]; exact hz, ?_⟩
              refine k _ S1 (.refl _) (R1.write q1 h1 (.lst upd_same (r.append (.cons hv .nil)))) .non .non
          · exact k.elim
        | _ => simp only [q1] at k; exact k.elim
    | _ => rw [q] at p; exact p.elim
theorem sx_pop (i : Nat) (hN : X.N[i]? = some x := by rfl) (hv : Vis X.env.scope x := by first | exact Or.inl rfl | exact Or.inr (Or.inl rfl) | exact Or.inr (Or.inr rfl)) (hd : (x == ("__debug__" : Str)) = false := by decide) (hcd : (x == ("__classdict__" : Str)) = false := by decide)
    (hbase : attributeBase (.Name x px) "pop" X.env (eval (.Name x px) X.env) = eval (.Name x px) X.env := by rfl) (hline : (apos.endLine == pos.line) = true := by rfl) :
    SX X W (.Call (.Attribute (.Name x px) "pop" apos) [] [] pos) (popE i) := by
  refine PE.imp (pe_bm0 F.plainAttrs_list F.slot_list_pop F.type_list_pop mt_pop (pe_var hN hv hd hcd) hbase hline) fun σ H Q ⟨Γ, ρ, S, R, p⟩ => ?_
  unfold popE at p
  cases q : hdl ρ i with
  | none => rw [q] at p; exact p.elim
  | some d =>
    obtain ⟨a, h1, h2, h3⟩ := hdl_top R q
    cases d with
    | list xs =>
      rw [q] at p
      simp only at p
      cases q1 : xs[xs.length - 1]? with
      | none => rw [q1] at p; exact p.elim
      | some y =>
        rw [q1] at p
        have ty := tyV_list h3
        cases h3 with
        | lst e r =>
          obtain ⟨v, e1, e2⟩ := r.get q1
          refine ⟨_, h1, ty, a, _, v, rfl, rfl, e, by rw [r.length]; exact e1, ?_⟩
          exact p _ S (.refl _) (R.write q h1 (.lst upd_same r.dropLast)) v e2
    | _ => rw [q] at p; exact p.elim
theorem rpK_any {K : PySem.W.Frag} {S : Hp} (k : Key) : ∀ {kvs : List (Key × V)} {ds : List (D × D)}, RpK K S kvs ds → (kvs.any fun kv => decide (kv.1 = k)) = ds.any fun p => keq p.1 (keyD k)
  | _, _, .nil => rfl
  | _, _, .cons (k := j) r t => by rw [List.any_cons, List.any_cons, rpK_any k t, keq_keyD]
theorem rpK_map {K : PySem.W.Frag} {S : Hp} (k : Key) {v : V} {d : D} (h : Rp K S v d) : ∀ {kvs : List (Key × V)} {ds : List (D × D)}, RpK K S kvs ds → RpK K S (kvs.map fun kv => if kv.1 = k then (kv.1, v) else kv) (ds.map fun p => if keq p.1 (keyD k) = true then (p.1, d) else p)
  | _, _, .nil => .nil
  | _, _, .cons (k := j) r t => by
    rw [List.map_cons, List.map_cons]
    have ih := rpK_map k h t
    by_cases e : j = k
    · rw [if_pos e, if_pos (by rw [keq_keyD]; exact decide_eq_true e)]
      exact .cons h ih
    · rw [if_neg e, if_neg (by rw [keq_keyD]; simpa using e)]
      exact .cons r ih
theorem rpK_app {K : PySem.W.Frag} {S : Hp} (k : Key) {v : V} {d : D} (h : Rp K S v d) : ∀ {kvs : List (Key × V)} {ds : List (D × D)}, RpK K S kvs ds → RpK K S (kvs ++ [(k, v)]) (ds ++ [(keyD k, d)])
  | _, _, .nil => .cons h .nil
  | _, _, .cons r t => .cons r (rpK_app k h t)
theorem rpK_put {K : PySem.W.Frag} {S : Hp} (k : Key) {v : V} {d : D} {kvs : List (Key × V)} {ds : List (D × D)} (h : Rp K S v d) (r : RpK K S kvs ds) : RpK K S (putK kvs k v) (dput ds (keyD k) d) := by
  unfold putK dput
  rw [rpK_any k r]
  by_cases e : (ds.any fun p => keq p.1 (keyD k)) = true
  · rw [if_pos e, if_pos e]; exact rpK_map k h r
  · rw [if_neg e, if_neg e]; exact rpK_app k h r
/-- o[k] = v by values, as the meaning says -/
theorem putD_ok {K : PySem.W.Frag} {H S : Hp} {a : Addr} {y v : V} {d kd vd d' : D} {Q : Hp → Prop} (t : Top K H S a d) (hk : Rp K S y kd) (hv : Rp K S v vd) (e : putD d kd vd = some d') (q : ∀ o, Top K (upd H a o) S a d' → Q (upd H a o)) :
    rSetL (.ref a) y v H Q ∨ rSetD (.ref a) y v H Q := by
  unfold putD at e
  cases d with
  | list xs =>
    simp only at e
    cases kd with
    | int j =>
      simp only at e
      cases q1 : L2.ixN xs.length j with
      | none => rw [q1] at e; cases e
      | some m =>
        rw [q1] at e; cases e
        cases hk
        cases t with
        | lst e1 r => exact .inl ⟨a, _, j, m, rfl, rfl, e1, by rw [r.length]; exact q1, q _ (.lst upd_same (r.set m hv))⟩
    | _ => cases e
  | dict kvs =>
    simp only at e
    split at e
    · rename_i hh
      obtain ⟨h1, h2, h3⟩ := hh
      cases e
      obtain ⟨k, rfl, rfl⟩ := key_of_flat (H := S) (.sh hk) h1
      have hf : kvs.all (fun p => flatK p.1) = true := by
        unfold askK at h2
        rw [h1] at h2
        have : tupK (keyD k) = false := by cases k <;> rfl
        rw [this] at h2
        simpa using h2
      cases t with
      | dk e1 r => exact .inr ⟨a, _, rfl, DPut.k e1 (by rw [r.length]; exact h3), q _ (.dk upd_same (rpK_put k hv r))⟩
      | dt e1 hn r => exact absurd (rpT_flat r hf) hn
    · cases e
  | _ => cases e
theorem PSet.or {t u : TSet} (h : PSet X t) (h' : PSet X u) : PSet X fun o i v H Q => t o i v H Q ∨ u o i v H Q := by
  intro pins s σ H o i v ov iv w Q I ro ri rv q
  rcases q with q | q
  · exact h pins s σ H o i v ov iv w Q I ro ri rv q
  · exact h' pins s σ H o i v ov iv w Q I ro ri rv q
theorem ss_put (i : Nat) {spos : Pos} (hu : X.A.units + 1 < cLine) (he : SX X W e f) (hb : SX X W b fk) (hN : X.N[i]? = some x := by rfl) (hv : Vis X.env.scope x := by first | exact Or.inl rfl | exact Or.inr (Or.inl rfl) | exact Or.inr (Or.inr rfl)) (hd : (x == ("__debug__" : Str)) = false := by decide) (hcd : (x == ("__classdict__" : Str)) = false := by decide)
    (ha : ∀ v, assign (.Subscript (.Name x px) b spos) X.env v = (do
      let ov ← holding [v] (eval (.Name x px) X.env)
      let iv ← holding [v, ov] (eval b X.env)
      standAt spos
      holding [v, ov, iv] (setItem ov iv v)
      release [v, ov, iv] []) := by intro _; rfl) (hs : swapsWithSole [.Subscript (.Name x px) b spos] e pos.line X.env = pure false := by rfl) (hw : swappedStores [.Subscript (.Name x px) b spos] e X.env = pure none := by rfl)
    (h1 : (assignEach [.Subscript (.Name x px) b spos] X.env).map (·.2) = [assign (.Subscript (.Name x px) b spos) X.env] := by rfl) :
    SS X W (.Assign [.Subscript (.Name x px) b spos] e pos) (putS i fk f) := by
  refine PS.imp (ps_asg (sv_clo he) (pg_sub (pe_var hN hv hd hcd) (sv_clo hb) (PSet.or set_list (set_dict hu)) ha) hs hw h1) fun D σ H ⟨Γ, ρ, S, R, p⟩ => ⟨Γ, ρ, S, R, ?_⟩
  unfold putS at p
  refine post_of (k := fun v ρ => if isV ρ i = true then (clo fk ρ).go fun kd ρ => match hdl ρ i with
      | some d => match putD d kd v with
        | some d => .nx (wrt ρ i d)
        | none => .bad
      | none => .bad
    else .bad) p fun vd ρ1 H1 S1 m1 R1 p1 v hv => ?_
  split at p1
  · rename_i hV
    have : ∃ w, σ[i]? = some (some w) := by
      unfold isV at hV
      cases q : ρ1[i]? with
      | none => simp only [q] at hV; cases hV
      | some s =>
        obtain ⟨o, h1, h2⟩ := R1.sl i s q
        cases s with
        | no => simp only [q] at hV; cases hV
        | val d => obtain ⟨w, rfl, _⟩ := h2; exact ⟨_, h1⟩
        | own d => obtain ⟨w, rfl, _⟩ := h2; exact ⟨_, h1⟩
        | byr d => obtain ⟨w, rfl, _⟩ := h2; exact ⟨_, h1⟩
    obtain ⟨w, hw'⟩ := this
    refine ⟨w, hw', Γ, ρ1, S1, R1, ?_⟩
    refine post_of (k := fun kd ρ => match hdl ρ i with
      | some d => match putD d kd vd with
        | some d => .nx (wrt ρ i d)
        | none => .bad
      | none => .bad) p1 fun kd ρ2 H2 S2 m2 R2 p2 y hy => ?_
    cases q : hdl ρ2 i with
    | none => simp only [q] at p2; exact p2.elim
    | some d =>
      obtain ⟨a, g1, g2, g3⟩ := hdl_top R2 q
      rw [hw'] at g1; cases g1
      simp only [q] at p2
      cases q1 : putD d kd vd with
      | none => simp only [q1] at p2; exact p2.elim
      | some d' =>
        simp only [q1] at p2
        exact putD_ok g3 hy (hv.sub m2) q1 fun o t => p2 σ _ S2 (.refl _) (R2.write q hw' t)
  · exact p1.elim
end
end Ev

set_option Elab.async false
set_option linter.all false
set_option maxRecDepth 100000
set_option maxHeartbeats 1000000
/-! EvN: in, is, slices, starred items, list * int, a dict display. -/
namespace Ev
open PySem PySem.Spec L2
section
variable {X : Cx} {W : WX} {e a b c : Expr} {es : List Expr} {f fa fb fc : Ex} {pos p : Pos} {x : Str}

/-! ### in, not in -/
def dIn0 (x y : D) : Option Bool := match y with
  | .str z => match x with
    | .str i => match i.cps.toList with
      | [c] => some (decide (c ∈ z.cps.toList))
      | _ => none
    | _ => none
  | .list ds => if SeqAt.shaped x = true ∧ SeqAt.shaped (.list ds) = true then some (ds.any fun z => PyData.eqv z x) else none
  | .dict kvs => if flatK x = true ∧ askK kvs x = true then some (dget kvs x).isSome else none
  | _ => none
def dIn (neg : Bool) (x y : D) : Option Rv := (dIn0 x y).map fun b => .val (.bool (neg.xor b))
def rInDict (neg : Bool) : R2 := fun x y H Q => ∃ a o, y = .ref a ∧ DGet H a x o ∧ Q (.bl (neg.xor o.isSome)) H
theorem op_inDict (hu : X.A.units + 1 < cLine) : OpR X (compareOp .In) (rInDict false) := by
  rintro pins s σ H x y v u Q I rx ry ⟨a, o, rfl, g, q⟩
  cases ry
  exact d_in hu I g rx fun s3 I3 => ⟨.bl o.isSome, H, I3, rfl, by simpa using q⟩
theorem op_ninDict (hu : X.A.units + 1 < cLine) : OpR X (compareOp .NotIn) (rInDict true) := by
  rintro pins s σ H x y v u Q I rx ry ⟨a, o, rfl, g, q⟩
  cases ry
  exact d_notIn hu I g rx fun s3 I3 => ⟨.bl (!o.isSome), H, I3, rfl, by simpa using q⟩
def rIn1 (neg : Bool) : R2 := fun x y H Q => ∃ (c : Nat) (z : Str), x = .str ⟨#[c]⟩ ∧ y = .str z ∧ Q (.bl (neg.xor (decide (c ∈ z.cps.toList)))) H
def rIn2 (K : PySem.W.Frag) (neg : Bool) : R2 := fun x y H Q => ∃ d ds, Dp K H x d ∧ Dp K H y (.list ds) ∧ SeqAt.shaped d = true ∧ SeqAt.shaped (.list ds) = true ∧ Q (.bl (neg.xor (ds.any fun z => PyData.eqv z d))) H
theorem in_sem {neg : Bool} (x y : V) (H S : Hp) (d1 d2 : D) (rv : Rv) (Q : VK) (m : Sub S H) (p1 : Pk X.K H S x d1) (p2 : Pk X.K H S y d2) (e : dIn neg d1 d2 = some rv) (o : Out X.K H S Q rv) : (rIn1 neg x y H Q ∨ rIn2 X.K neg x y H Q) ∨ rInDict neg x y H Q := by
  unfold dIn at e
  cases q : dIn0 d1 d2 with
  | none => rw [q] at e; cases e
  | some b =>
    rw [q] at e; cases e
    have fin : ∀ b', b' = b → Q (.bl (neg.xor b')) H := fun b' z => by subst z; exact o.val m (.bl _)
    unfold dIn0 at q
    cases d2 with
    | str z =>
      simp only at q
      cases d1 with
      | str i =>
        simp only at q
        split at q
        · rename_i c hc
          refine .inl (.inl ⟨c, z, ?_, p2.str, fin _ (Option.some.inj q)⟩)
          rw [p1.str]
          obtain ⟨⟨l⟩⟩ := i
          simp only at hc
          rw [hc]
        · cases q
      | _ => cases q
    | list ds =>
      simp only at q
      split at q
      · rename_i h
        exact .inl (.inr ⟨d1, ds, rp_shaped (p1.rp m) h.1, rp_shaped (p2.rp m) h.2, h.1, h.2, fin _ (Option.some.inj q)⟩)
      · cases q
    | dict kvs =>
      simp only at q
      split at q
      · rename_i hh
        obtain ⟨hf, hk⟩ := hh
        obtain ⟨a, ov, rfl, g, hv⟩ := dget_ok m p2 p1 hk (fun b ys z hb => by
          subst z
          obtain ⟨k, e1, _⟩ := key_of_flat p1 hf
          cases k <;> cases e1)
        refine .inr ⟨a, ov, rfl, g, fin _ ?_⟩
        rw [← Option.some.inj q]
        revert hv
        cases dget kvs d1 with
        | none => intro hv; rw [hv]; rfl
        | some d => rintro ⟨v, rfl, _⟩; rfl
      · cases q
    | _ => cases q
theorem in_bl {neg : Bool} (x y : D) (rv : Rv) (e : dIn neg x y = some rv) : ∃ b, rv = .val (.bool b) := by
  unfold dIn at e
  cases q : dIn0 x y with
  | none => rw [q] at e; cases e
  | some b => rw [q] at e; cases e; exact ⟨_, rfl⟩
def op_inA (hu : X.A.units + 65 < cLine) : CmpOk X (compareOp .In) (dIn false) where
  r := _
  rule := OpR.or (OpR.or (r := rIn1 false) (r' := rIn2 X.K false)
    (fun pins s σ H x y v u Q I rx ry ⟨c, z, e1, e2, q⟩ => op_in_sign pins s σ H x y v u Q I rx ry ⟨c, z, e1, e2, by simpa using q⟩)
    (fun pins s σ H x y v u Q I rx ry ⟨d, ds, h1, h2, h3, h4, q⟩ => op_inD hu pins s σ H x y v u Q I rx ry ⟨d, ds, h1, h2, h3, h4, by simpa using q⟩)) (op_inDict (by omega))
  sem := in_sem
  bl := in_bl
def op_ninA (hu : X.A.units + 65 < cLine) : CmpOk X (compareOp .NotIn) (dIn true) where
  r := _
  rule := OpR.or (OpR.or (r := rIn1 true) (r' := rIn2 X.K true)
    (fun pins s σ H x y v u Q I rx ry ⟨c, z, e1, e2, q⟩ => op_notIn_sign pins s σ H x y v u Q I rx ry ⟨c, z, e1, e2, by simpa using q⟩)
    (fun pins s σ H x y v u Q I rx ry ⟨d, ds, h1, h2, h3, h4, q⟩ => op_notInD hu pins s σ H x y v u Q I rx ry ⟨d, ds, h1, h2, h3, h4, by simpa using q⟩)) (op_ninDict (by omega))
  sem := in_sem
  bl := in_bl

/-! ### is -/
def isNone (x : D) : Bool := match x with
  | .none => true
  | _ => false
def dIsS (neg : Bool) (x y : D) : Option Rv := match y with
  | .none => some (.val (.bool (neg.xor (isNone x))))
  | .bool b => match x with
    | .bool a => some (.val (.bool (neg.xor (decide (a = b)))))
    | _ => none
  | _ => none
theorem is_bl {neg : Bool} (x y : D) (rv : Rv) (e : dIsS neg x y = some rv) : ∃ b, rv = .val (.bool b) := by
  unfold dIsS at e
  cases y with
  | none => cases e; exact ⟨_, rfl⟩
  | bool b => cases x <;> first | (cases e; done) | (cases e; exact ⟨_, rfl⟩)
  | _ => cases e
def rIs1 (neg : Bool) : R2 := fun x y H Q => y = .non ∧ Q (.bl (neg.xor (decide (x = .non)))) H
def rIs2 (neg : Bool) : R2 := fun x y H Q => ∃ a b : Bool, x = .bl a ∧ y = .bl b ∧ Q (.bl (neg.xor (decide (a = b)))) H
theorem is_sem {neg : Bool} (x y : V) (H S : Hp) (d1 d2 : D) (rv : Rv) (Q : VK) (m : Sub S H) (p1 : Pk X.K H S x d1) (p2 : Pk X.K H S y d2) (e : dIsS neg d1 d2 = some rv) (o : Out X.K H S Q rv) : rIs1 neg x y H Q ∨ rIs2 neg x y H Q := by
  unfold dIsS at e
  cases d2 with
  | none =>
    refine .inl ⟨p2.none, ?_⟩
    have : decide (x = .non) = isNone d1 := by
      have r := p1.rp m
      cases r <;> first | rfl | exact decide_eq_false (fun z => by cases z)
    rw [this]
    simp only at e
    cases e
    exact o.val m (.bl _)
  | bool b =>
    cases d1 <;> first | (cases e; done) | skip
    cases e
    exact .inr ⟨_, _, p1.bool, p2.bool, o.val m (.bl _)⟩
  | _ => cases e
def op_isS : CmpOk X (compareOp .Is) (dIsS false) where
  r := _
  rule := OpR.or (r := rIs1 false) (r' := rIs2 false) (fun pins s σ H x y v u Q I rx ry ⟨e1, q⟩ => op_isN pins s σ H x y v u Q I rx ry ⟨e1, by simpa using q⟩)
    (fun pins s σ H x y v u Q I rx ry ⟨a, b, e1, e2, q⟩ => op_isBl pins s σ H x y v u Q I rx ry ⟨a, b, e1, e2, by simpa using q⟩)
  sem := is_sem
  bl := is_bl
def op_notS : CmpOk X (compareOp .IsNot) (dIsS true) where
  r := _
  rule := OpR.or (r := rIs1 true) (r' := rIs2 true) (fun pins s σ H x y v u Q I rx ry ⟨e1, q⟩ => op_notN pins s σ H x y v u Q I rx ry ⟨e1, by simpa using q⟩)
    (fun pins s σ H x y v u Q I rx ry ⟨a, b, e1, e2, q⟩ => op_notBl pins s σ H x y v u Q I rx ry ⟨a, b, e1, e2, by simpa using q⟩)
  sem := is_sem
  bl := is_bl

/-! ### slices -/
def cutL {α : Type} (xs : List α) (lo hi : Option Int) : List α := (xs.drop (HT.sIx xs.length 0 lo)).take (HT.sIx xs.length xs.length hi - HT.sIx xs.length 0 lo)
def dSl (d : D) (lo hi : Option Int) : Option Rv := match d with
  | .list xs => some (.frs (.list (cutL xs lo hi)))
  | .tuple xs => some (.val (.tuple (cutL xs lo hi)))
  | .str z => if z.length ≤ sizeLine then some (.val (.str ⟨(cutL z.cps.toList lo hi).toArray⟩)) else none
  | _ => none
/-- a slice's end -/
def prtE (e : Option Ex) : En → RE (Option Int) := match e with
  | none => fun ρ => .ok none ρ
  | some f => fun ρ => (clo f ρ).bind fun d ρ => match d with
    | .int i => .ok (some i) ρ
    | _ => .bad
def slE (a : Ex) (lo hi : Option Ex) : Ex := fun ρ => (opn a ρ).bind fun r ρ => (prtE lo ρ).bind fun l ρ => (prtE hi ρ).bind fun u ρ => match peek ρ r with
  | some d => RE.of (dSl d l u) ρ
  | none => .bad
def tPO (K : PySem.W.Frag) (W : WX) (cm : Str → Option Value) (f : En → RE (Option Int)) : TO := fun σ H Q => ∃ Γ ρ S, Rel K Γ ρ σ H S ∧ Post K W cm Γ σ S (f ρ) fun o _ H' _ => Q o H'
abbrev SP' (X : Cx) (W : WX) (e : Option Expr) (f : Option Ex) : Prop := PO X e (tPO X.K W X.mg (prtE f))
theorem PO.imp {X : Cx} {e : Option Expr} {t u : TO} (h : PO X e t) (q : ∀ σ H Q, u σ H Q → t σ H Q) : PO X e u := ⟨fun pins s σ H Q I w => h.run pins s σ H Q I (q σ H Q w)⟩
theorem sp_none : SP' X W none none := PO.imp po_none fun σ H Q ⟨Γ, ρ, S, R, p⟩ => p H S (.refl _) R
theorem sp_some (h : SX X W e f) : SP' X W (some e) (some f) := PO.imp (po_some (sv_clo h)) fun σ H Q ⟨Γ, ρ, S, R, p⟩ => by
  refine ⟨Γ, ρ, S, R, ?_⟩
  unfold prtE at p
  refine Post.imp (Post.of_bind p) fun d ρ1 H1 S1 _ m1 R1 k v hv => ?_
  obtain ⟨_, _, k⟩ := k
  cases d <;> first | (exact k.elim) | skip
  cases hv
  exact ⟨_, rfl, k H1 S1 (.refl _) R1⟩
theorem cut_rp {K : PySem.W.Frag} {S : Hp} {vs : List V} {ds : List D} (r : RpA K S vs ds) (lo hi : Option Int) : RpA K S (cutV vs lo hi) (cutL ds lo hi) := by
  unfold cutV cutL
  rw [r.length]
  exact (r.drop _).take _
theorem cut_whole {α : Type} {xs : List α} {lo hi : Option Int} (h : HT.sIx xs.length 0 lo = 0 ∧ HT.sIx xs.length xs.length hi = xs.length) : cutL xs lo hi = xs := by
  unfold cutL
  rw [h.1, h.2, List.drop_zero, Nat.sub_zero, List.take_length]
theorem sx_sl {lo hi : Option Expr} {fl fh : Option Ex} {p2 : Pos} (ha : SX X W a fa) (hl : SP' X W lo fl) (hh : SP' X W hi fh) : SX X W (.Subscript a (.Slice lo hi none p2) pos) (slE fa fl fh) := by
  refine PE.imp (pe_slice (SlR.or (SlR.or sl_list sl_tupA) sl_str) (so_opn ha) hl hh) fun σ H Q ⟨Γ, ρ, S, R, p⟩ => ⟨Γ, ρ, S, R, Post.imp (Post.of_bind p) fun ra ρ1 H1 S1 _ m1 R1 k x hx => ?_⟩
  obtain ⟨_, _, k⟩ := k
  refine ⟨Γ, ρ1, S1, R1, Post.imp (Post.of_bind k) fun l ρ2 H2 S2 _ m2 R2 k2 => ⟨Γ, ρ2, S2, R2, Post.imp (Post.of_bind k2.2.2) fun u ρ3 H3 S3 _ m3 R3 k3 => ?_⟩⟩
  obtain ⟨_, _, k3⟩ := k3
  cases e1 : peek ρ3 ra with
  | none => simp only [e1] at k3; exact k3.elim
  | some d =>
    simp only [e1] at k3
    obtain ⟨rv, e, o⟩ := out_of R3 k3
    have pk := (hx.sub (m2.trans m3)).pk R3 e1
    have m := R3.sub
    cases d <;> simp only [dSl, reduceCtorEq] at e
    · split at e
      · cases e
        rename_i z hz
        exact .inr ⟨z, pk.str, hz, o.val m (.str _)⟩
      · cases e
    · cases e
      obtain ⟨a, xs, rfl, hs, r⟩ := pk.lst m
      exact .inl (.inl ⟨a, xs, rfl, hs, o.lst m (cut_rp r l u)⟩)
    · cases e
      obtain ⟨a, xs, rfl, hs, r⟩ := pk.tup m
      refine .inl (.inr ⟨a, xs, rfl, hs, fun hw => ?_, fun hw => o.tup m (cut_rp r l u)⟩)
      cases pk with
      | sh rp =>
        rw [r.length] at hw
        rw [cut_whole hw] at o
        exact o.val m rp
      | ow t => cases t

/-! ### starred items -/
/-- an item, a starred sequence -/
inductive Itm where
  | one (e : Ex) | all (e : Ex)
def itmsE : List Itm → En → RE (List D)
  | [], ρ => .ok [] ρ
  | .one e :: es, ρ => (clo e ρ).bind fun d ρ => (itmsE es ρ).bind fun ds ρ => .ok (d :: ds) ρ
  | .all e :: es, ρ => (clo e ρ).bind fun d ρ => match d with
    | .tuple xs => (itmsE es ρ).bind fun ds ρ => .ok (xs ++ ds) ρ
    | .list xs => (itmsE es ρ).bind fun ds ρ => .ok (xs ++ ds) ρ
    | _ => .bad
def tupS (es : List Itm) : Ex := fun ρ => (itmsE es ρ).bind fun ds ρ => if ds.length ≤ sizeLine then .ok (.val (.tuple ds)) ρ else .bad
def lstS (es : List Itm) : Ex := fun ρ => (itmsE es ρ).bind fun ds ρ => if ds.length ≤ sizeLine then .ok (.frs (.list ds)) ρ else .bad
theorem si_nil : SA X W [] (itmsE []) := PA.imp pa_nil fun σ H Q ⟨Γ, ρ, S, R, p⟩ => p H S (.refl _) R [] .nil
theorem si_one {is : List Itm} (ha : SX X W e f) (hr : SA X W es (itmsE is)) (hs : starEach (e :: es) X.env = (false, eval e X.env) :: starEach es X.env := by rfl) : SA X W (e :: es) (itmsE (.one f :: is)) := by
  refine PA.imp (pa_cons (sv_clo ha) hr hs) fun σ H Q ⟨Γ, ρ, S, R, p⟩ => ⟨Γ, ρ, S, R, ?_⟩
  unfold itmsE at p
  refine Post.imp (Post.of_bind p) fun d ρ1 H1 S1 _ m1 R1 k v hv => ⟨Γ, ρ1, S1, R1, Post.imp (Post.of_bind k.2.2) fun ds ρ2 H2 S2 _ m2 R2 k2 vs hvs => ?_⟩
  exact k2.2.2 H2 S2 (.refl _) R2 _ (.cons (hv.sub m2) hvs)
theorem si_all {is : List Itm} {px : Pos} (ha : SX X W e f) (hr : SA X W es (itmsE is)) (hs : starEach (.Starred e px :: es) X.env = (true, eval e X.env) :: starEach es X.env := by rfl) : SA X W (.Starred e px :: es) (itmsE (.all f :: is)) := by
  refine PA.imp (StX.pa_star (sv_clo ha) hr hs) fun σ H Q ⟨Γ, ρ, S, R, p⟩ => ⟨Γ, ρ, S, R, ?_⟩
  unfold itmsE at p
  refine Post.imp (Post.of_bind p) fun d ρ1 H1 S1 _ m1 R1 k v hv => ?_
  obtain ⟨_, _, k⟩ := k
  cases d <;> first | (exact k.elim) | skip
  · cases hv with
    | lst hs' hr' =>
      refine ⟨_, _, rfl, .inr (R1.sub.mo.sqL hs'), Γ, ρ1, S1, R1, Post.imp (Post.of_bind k) fun ds ρ2 H2 S2 _ m2 R2 k2 vs hvs => ?_⟩
      exact k2.2.2 H2 S2 (.refl _) R2 _ ((hr'.sub m2).append hvs)
  · cases hv with
    | tup hs' hr' =>
      refine ⟨_, _, rfl, .inl (R1.sub.mo.sqT hs'), Γ, ρ1, S1, R1, Post.imp (Post.of_bind k) fun ds ρ2 H2 S2 _ m2 R2 k2 vs hvs => ?_⟩
      exact k2.2.2 H2 S2 (.refl _) R2 _ ((hr'.sub m2).append hvs)
theorem sx_tupS {is : List Itm} {k : Nat} (h : SA X W es (itmsE is)) : SX X W (.Tuple es k pos) (tupS is) := by
  refine PE.imp (pe_tup h) fun σ H Q ⟨Γ, ρ, S, R, p⟩ => ⟨Γ, ρ, S, R, ?_⟩
  unfold tupS at p
  refine Post.imp (Post.of_bind p) fun ds ρ1 H1 S1 _ m1 R1 k vs hvs => ?_
  obtain ⟨_, _, k⟩ := k
  split at k
  · rename_i hz
    refine ⟨by rw [hvs.length]; exact hz, fun q hq => ?_⟩
    have g : Grow H1 S1 (upd H1 q (.tup vs)) (upd S1 q (.tup vs)) := .both R1.sub hq
    exact k _ _ g.s (R1.grow g) _ (Rp.tup (.inl (.inl upd_same)) (hvs.sub g.s))
  · exact k.elim
end
end Ev

set_option Elab.async false
set_option linter.all false
set_option maxRecDepth 100000
set_option maxHeartbeats 1000000
/-! EvP: dict comprehensions; walks over dicts. -/
namespace Ev
open PySem PySem.Spec L2
/-! ### dict comprehensions -/
theorem dput_len (kvs : List (D × D)) (k v : D) : (dput kvs k v).length ≤ kvs.length + 1 := by
  unfold dput
  split
  · rw [List.length_map]; omega
  · rw [List.length_append, List.length_singleton]; omega
section
variable {X : Cx} {W : WX} {it : Itr} {t : Tg} {c : Tt} {f k fk : Ex} {us vs : List Nat}
def dcR (vs : List Nat) (t : Tg) (c : Tt) (fk f : Ex) (ds : List D) (ρ : En) : RE Rv := if mayHide ρ vs = true ∧ ds.length ≤ sizeLine then
    match dcLoop vs t c fk f ds (wipeE ρ vs) [] with
    | .ok ys ρ' => .ok (.frs (.dict ys)) (back ρ ρ' vs)
    | _ => .bad
  else .bad
def dcB (J : It) (gt : TG) (tt : TT) (tk tv : TE) (vs : List Nat) (σ : St) (H1 : Hp) (Q : VK) : Prop := ∀ D, H1 D = none → ∃ W : Nat → Nat → Hp → Prop, (∃ m, W 0 m (upd H1 D (.dK []))) ∧ ∀ i m H, W i m H →
  (J.stop i H ∧ Q (.ref D) H) ∨ (J.go i H ∧ ∃ Nx : Hp → Prop, (∀ H', Nx H' → ∃ m', m' < m ∧ W (i + 1) m' H') ∧ ∀ x H', J.yld i H x H' → gt x (wipe σ vs) H' fun σ2 H2 => wipe σ2 vs = wipe σ vs ∧ tt σ2 H2 fun b H3 =>
    if b = true then tk σ2 H3 fun y H4 => tv σ2 H4 fun z H5 => ∃ kvs k, y = kV k ∧ H5 D = some (.dK kvs) ∧ kvs.length < sizeLine ∧ Nx (upd H5 D (.dK (putK kvs k z))) else Nx H3)
theorem dc_coreJ (hu : ∀ i ∈ us, i ∈ vs) {Γ : G} {ρ1 : En} {σ : St} {H1 S1 : Hp} {Q : VK} {ds : List D} {J : It} (R1 : Rel X.K Γ ρ1 σ H1 S1) (hJ : ItOk X.K S1 J ds) (kk : Post X.K W X.mg Γ σ S1 (dcR vs t c fk f ds ρ1) fun r ρ H' S' => ∀ v, RvOk X.K Γ ρ σ H' S' v r → Q v H') :
    dcB J (tGt X.K t us) (tB' X.K W0 X.mg c) (tV X.K W0 X.mg (clo fk)) (tV X.K W0 X.mg (clo f)) vs σ H1 Q := by
  unfold dcR at kk
  intro L hL
  by_cases hc : mayHide ρ1 vs = true ∧ ds.length ≤ sizeLine
  · rw [if_pos hc] at kk
    obtain ⟨mh, hz⟩ := hc
    have A1 := R1.apart hL
    have s0L : Γ.S0 L = none := R1.s0.none A1.s
    generalize hT : dcLoop vs t c fk f ds (wipeE ρ1 vs) [] = T at kk
    refine ⟨fun i m H => m = ds.length - i ∧ i ≤ ds.length ∧ ∃ ρi Si acc accV, Sub S1 Si ∧ Rel X.K Γ ρi (wipe σ vs) H Si ∧ Apart Γ L Si ρi (wipe σ vs) ∧ H L = some (.dK accV) ∧ RpK X.K Si accV acc ∧ acc.length ≤ i ∧ dcLoop vs t c fk f (ds.drop i) ρi acc = T,
      ⟨ds.length, by simp, Nat.zero_le _, wipeE ρ1 vs, S1, [], [], .refl _, (R1.wipe (vs := vs)).poke ⟨A1.h0, A1.s, A1.b, ?_⟩, ⟨A1.h0, A1.s, A1.b, ?_⟩, upd_same, .nil, Nat.zero_le _, by rw [List.drop_zero]; exact hT⟩, ?_⟩
    · exact ((R1.wipe (vs := vs)).apart hL).ap
    · exact ((R1.wipe (vs := vs)).apart hL).ap
    · rintro i m Hi ⟨rfl, hi, ρi, Si, acc, accV, mi, Ri, Ai, eL, ra, hl, ei⟩
      by_cases hlt : i < ds.length
      · obtain ⟨d, hd⟩ : ∃ d, ds[i]? = some d := ⟨_, List.getElem?_eq_getElem hlt⟩
        obtain ⟨go, yl⟩ := (hJ i Hi Si mi Ri.sub).2 d hd
        rw [drop_cons hd] at ei
        refine .inr ⟨go, fun H => i + 1 ≤ ds.length ∧ ∃ ρi Si acc accV, Sub S1 Si ∧ Rel X.K Γ ρi (wipe σ vs) H Si ∧ Apart Γ L Si ρi (wipe σ vs) ∧ H L = some (.dK accV) ∧ RpK X.K Si accV acc ∧ acc.length ≤ i + 1 ∧ dcLoop vs t c fk f (ds.drop (i + 1)) ρi acc = T, fun H' q => ⟨ds.length - (i + 1), by omega, rfl, q⟩, fun x H' hx => ?_⟩
        obtain ⟨S', gr, rp⟩ := yl x H' hx
        have eL' := gr.h _ _ eL
        have R' := Ri.grow gr
        have s' : S' L = none := by
          cases q : S' L with
          | none => rfl
          | some u => have := gr.n L u q Ai.s; rw [eL] at this; cases this
        have A' : Apart Γ L S' ρi (wipe σ vs) := ⟨Ai.h0, s', Ai.b, Ai.ap⟩
        have Rh := R'.hide A' eL'
        unfold dcLoop at ei
        cases q : t d ρi with
        | none => simp only [q] at ei; rw [← ei] at kk; exact kk.elim
        | some ρ2 =>
          simp only [q] at ei
          refine ⟨Γ.hide L (.dK accV), ρi, S', d, ρ2, Rh, rp, q, fun σ2 sb R2 => ⟨wipe_same sb hu, Γ.hide L (.dK accV), ρ2, S', R2, ?_⟩⟩
          cases q2 : c ρ2 with
          | exc cc ρ3 => simp only [q2] at ei; rw [← ei] at kk; exact kk.elim
          | bad => simp only [q2] at ei; rw [← ei] at kk; exact kk.elim
          | ok b ρ3 =>
            intro H3 S3 m3 R3
            cases b with
            | false =>
              simp only [q2] at ei
              refine iteF ?_
              obtain ⟨R3', e3, A3⟩ := (R3.wipe (vs := vs)).unhide Ai.h0 s0L Ai.b
              rw [wipe_same sb hu] at R3' A3
              exact ⟨hlt, _, S3, acc, accV, (mi.trans gr.s).trans m3, R3', A3, e3, ra.sub (gr.s.trans m3), by omega, ei⟩
            | true =>
              simp only [q2] at ei
              refine iteT ⟨Γ.hide L (.dK accV), ρ3, S3, R3, ?_⟩
              cases q3 : clo fk ρ3 with
              | exc cc ρ4 => simp only [q3] at ei; rw [← ei] at kk; exact kk.elim
              | bad => simp only [q3] at ei; rw [← ei] at kk; exact kk.elim
              | ok kd ρ4 =>
                simp only [q3] at ei
                intro H4 S4 m4 R4 kv hkv
                refine ⟨Γ.hide L (.dK accV), ρ4, S4, R4, ?_⟩
                cases q4 : clo f ρ4 with
                | exc cc ρ5 => simp only [q4] at ei; rw [← ei] at kk; exact kk.elim
                | bad => simp only [q4] at ei; rw [← ei] at kk; exact kk.elim
                | ok y ρ5 =>
                  simp only [q4] at ei
                  intro H5 S5 m5 R5 v hv
                  by_cases hf : flatK kd = true
                  · rw [if_pos hf] at ei
                    obtain ⟨key, rfl, rfl⟩ := key_of_flat (H := S4) (.sh hkv) hf
                    obtain ⟨R5', e5, A5⟩ := (R5.wipe (vs := vs)).unhide Ai.h0 s0L Ai.b
                    rw [wipe_same sb hu] at R5' A5
                    have ma := ((gr.s.trans m3).trans m4).trans m5
                    refine ⟨accV, key, rfl, e5, by rw [ra.length]; omega, hlt, _, S5, dput acc (keyD key) y, putK accV key v, mi.trans ma, R5'.poke A5, A5, upd_same, rpK_put key hv (ra.sub ma), ?_, ei⟩
                    have := dput_len acc (keyD key) y
                    omega
                  · rw [if_neg hf] at ei; rw [← ei] at kk; exact kk.elim
      · have e : i = ds.length := by omega
        subst e
        rw [List.drop_length] at ei
        have ei : RE.ok acc ρi = T := ei
        rw [← ei] at kk
        refine .inl ⟨(hJ _ Hi Si mi Ri.sub).1 rfl, ?_⟩
        have Rb := R1.back mi mh Ri
        refine kk Hi Si mi Rb _ ⟨L, rfl, Ai.s, Ai.h0, .dk eL ra, fun j s e hh q => ?_⟩
        rcases back_get e with ⟨hj, e'⟩ | ⟨hj, e'⟩
        · rcases mayHide_get mh hj with z | ⟨d, z⟩
          · have : ρ1.getD j .no = .no := by rw [List.getD_eq_getElem?_getD, z]; rfl
            rw [this] at e'; subst e'; cases hh
          · have : ρ1.getD j .no = .val d := by rw [List.getD_eq_getElem?_getD, z]; rfl
            rw [this] at e'; subst e'; cases hh
        · exact Ai.ap j s e' hh (by rw [wipe_get hj]; exact q)
  · rw [if_neg hc] at kk
    exact kk.elim
theorem dc_core' (hu : ∀ i ∈ us, i ∈ vs) {σ : St} {H : Hp} {Q : VK} (h : tX X.K W X.mg (dcE vs it t c fk f) σ H Q) : tDc (tI X.K W X.mg it) (tGt X.K t us) (tB' X.K W0 X.mg c) (tV X.K W0 X.mg (clo fk)) (tV X.K W0 X.mg (clo f)) vs σ H Q := by
  obtain ⟨Γ, ρ, S, R, p⟩ := h
  exact ⟨Γ, ρ, S, R, Post.imp (Post.of_bind p) fun ds ρ1 H1 S1 _ m1 R1 kk J hJ => dc_coreJ hu R1 hJ kk.2.2⟩
variable {kx vx tg iter : Expr} {ifs : List Expr} {scope : Scope} {own : List (Str × Nat)} {pos : Pos}
theorem sx_dc (hc : X.calm = true) (hN : X.N.Nodup) (hi : SI X W tg iter it) (ok : BlkOk X.N X.env.scope scope own)
    (hg : ∀ (s : Shared) (H : Hp) (C : Addr) (cl : List (Str × Addr)) (fp : List Addr), SG (Cx.bk X scope s H C cl fp) tg t us) (ht : ∀ (s : Shared) (H : Hp) (C : Addr) (cl : List (Str × Addr)) (fp : List Addr), STs (Cx.bk X scope s H C cl fp) ifs c)
    (hk : ∀ (s : Shared) (H : Hp) (C : Addr) (cl : List (Str × Addr)) (fp : List Addr), SX (Cx.bk X scope s H C cl fp) W0 kx fk)
    (he : ∀ (s : Shared) (H : Hp) (C : Addr) (cl : List (Str × Addr)) (fp : List Addr), SX (Cx.bk X scope s H C cl fp) W0 vx f) (hu : ∀ i ∈ us, i ∈ own.map (·.2) := by decide) (hs : ∀ x, foldedSetIterable iter X.env x = pure x := by intro _; rfl) :
    SX X W (.DictComp kx vx [⟨tg, iter, ifs, 0⟩] scope pos) (dcE (own.map (·.2)) it t c fk f) :=
  PE.imp (pe_dc hc hN hi ok hg ht (fun s H C cl fp => sv_clo (hk s H C cl fp)) (fun s H C cl fp => sv_clo (he s H C cl fp)) hs) fun _ _ _ h => dc_core' hu h
/-- y = {k: v for ..}: the comprehension stores by itself -/
theorem ps_setDc {i : Nat} {y : Str} {py : Pos} {spos : Pos} {wi : TI} {g : TG} {tt : TT} {tk tv : TE} (hc : X.calm = true) (hN : X.N.Nodup) (hy : X.N[i]? = some y) (hyl : X.env.scope.names.lookup y = some .local)
    (hsw : swapsWith (.DictComp kx vx [⟨tg, iter, ifs, 0⟩] scope pos) (some (.Name y py)) spos.line X.env = pure true) (hi : PI X tg iter wi) (ok : BlkOk X.N X.env.scope scope own)
    (hg : ∀ (s : Shared) (H : Hp) (C : Addr) (cl : List (Str × Addr)) (fp : List Addr), PG (X.blk s H scope (compEnvC scope cl C X.env) fp) tg g) (ht : ∀ (s : Shared) (H : Hp) (C : Addr) (cl : List (Str × Addr)) (fp : List Addr), PTs (X.blk s H scope (compEnvC scope cl C X.env) fp) ifs tt)
    (hk : ∀ (s : Shared) (H : Hp) (C : Addr) (cl : List (Str × Addr)) (fp : List Addr), PE (X.blk s H scope (compEnvC scope cl C X.env) fp) kx tk)
    (he : ∀ (s : Shared) (H : Hp) (C : Addr) (cl : List (Str × Addr)) (fp : List Addr), PE (X.blk s H scope (compEnvC scope cl C X.env) fp) vx tv) (hs : ∀ x, foldedSetIterable iter X.env x = pure x := by intro _; rfl) :
    PS X (.Assign [.Name y py] (.DictComp kx vx [⟨tg, iter, ifs, 0⟩] scope pos) spos) (tAsg (tDc wi g tt tk tv (own.map (·.2))) (gName i)) := by
  refine ⟨fun pins s σ H D I h => ?_⟩
  rw [exec_Assign_Name_used _ _ _ _ hsw]
  refine wpAny_bind (wpAny_standAt (wpAny_bind ?_))
  show wpAny _ X.A (do let _ ← comprehension (.DictComp kx vx [⟨tg, iter, ifs, 0⟩] scope pos) scope X.env (firstIterPos [⟨tg, iter, ifs, 0⟩] pos) newDict false (eval iter X.env) (some (assign (.Name y py) X.env))) _ _ s
  have h : tDc wi g tt tk tv (own.map (·.2)) σ H (fun x H1 => gName i x σ H1 D.nx) := h
  refine wpAny_bind (thn (dc_core (Qf := fun _ s' => SP X pins D .next s') hc hN I hi ok hg ht hk he hs h fun L C s' m H' I' q hn f => ?_) fun _ s' hq => wpAny_pure (wpAny_pure hq))
  show wpAny _ _ (assign (.Name y py) X.env (.ref L)) _ _ _
  refine wpAny_assign_Name (store_ok2 (v := V.ref L) I' hN hy (.inl hyl) rfl (fun s2 I2 ⟨a, sb, ha⟩ => ?_) (.inr hyl))
  obtain ⟨f0, f1, f2, f3, f4, f5⟩ := f
  have haC : C ≠ a := by
    rcases ha with z | z
    · rw [z]; exact f1
    · exact fun e => f4 y a z e.symm
  refine ⟨m, hn.sameBut sb haC, fun h3 sb3 => ?_⟩
  exact ⟨_, H', I2.turned (t' := s2.toks) (fun b o hb e => (sb3.2 b hb).trans e) f0 f1 f3 f4 f5, q⟩
theorem sw_trueD {gs : List Comprehension} {py : Pos} {y : Str} {l : Nat} {env : Env} (hk : env.scope.kind = .function) (hy : env.scope.names.lookup y = some .local) (hl : (py.line == pos.line) = true)
    (ha : (scope.names.any fun (n, k) => n == y && (k == .local || k == .cell)) = false) : swapsWith (.DictComp kx vx gs scope pos) (some (.Name y py)) l env = pure true := by
  have ky : env.kindOf y = some .local := hy
  have hb : env.blockKind = .function := by unfold Env.blockKind; rw [hk]; rfl
  unfold swapsWith
  simp only [hb, ky, ha, Expr.pos, hl]
  rfl
theorem ss_setDc {i : Nat} {y : Str} {py spos : Pos} (hc : X.calm = true) (hN : X.N.Nodup) (hy : X.N[i]? = some y) (hyl : X.env.scope.names.lookup y = some .local)
    (hsw : swapsWith (.DictComp kx vx [⟨tg, iter, ifs, 0⟩] scope pos) (some (.Name y py)) spos.line X.env = pure true) (hi : SI X W tg iter it) (ok : BlkOk X.N X.env.scope scope own)
    (hg : ∀ (s : Shared) (H : Hp) (C : Addr) (cl : List (Str × Addr)) (fp : List Addr), SG (Cx.bk X scope s H C cl fp) tg t us) (ht : ∀ (s : Shared) (H : Hp) (C : Addr) (cl : List (Str × Addr)) (fp : List Addr), STs (Cx.bk X scope s H C cl fp) ifs c)
    (hk : ∀ (s : Shared) (H : Hp) (C : Addr) (cl : List (Str × Addr)) (fp : List Addr), SX (Cx.bk X scope s H C cl fp) W0 kx fk)
    (he : ∀ (s : Shared) (H : Hp) (C : Addr) (cl : List (Str × Addr)) (fp : List Addr), SX (Cx.bk X scope s H C cl fp) W0 vx f) (hu : ∀ i ∈ us, i ∈ own.map (·.2) := by decide) (hs : ∀ x, foldedSetIterable iter X.env x = pure x := by intro _; rfl) :
    SS X W (.Assign [.Name y py] (.DictComp kx vx [⟨tg, iter, ifs, 0⟩] scope pos) spos) (setS i (dcE (own.map (·.2)) it t c fk f)) :=
  PS.imp (ps_setDc hc hN hy hyl hsw hi ok hg ht (fun s H C cl fp => sv_clo (hk s H C cl fp)) (fun s H C cl fp => sv_clo (he s H C cl fp)) hs) fun D σ H h => dc_core' hu (setS_core h)
end

/-! ### a dict is locked -/
section
variable {K : PySem.W.Frag} {Γ : G} {ρ ρ' : En} {σ : St} {H H' S S' : Hp} {a : Addr} {od : Obj} {u : HO}
def lkH (a : Addr) (od : Obj) (u : HO) (H : Hp) : Hp := fun b => if b = a then (match H a with | some _ => some (.frz od u) | none => none) else H b
def G.lk (Γ : G) (a : Addr) (od : Obj) (u : HO) : G := { Γ with H0 := lkH a od u Γ.H0, S0 := lkH a od u Γ.S0 }
theorem lkH_ne {b : Addr} (h : b ≠ a) : lkH a od u H b = H b := if_neg h
theorem lkH_same : lkH a od u H a = (match H a with | some _ => some (.frz od u) | none => none) := if_pos rfl
theorem lkH_none {b : Addr} : lkH a od u H b = none ↔ H b = none := by
  by_cases h : b = a
  · subst h; rw [lkH_same]
    cases H b with
    | none => exact ⟨fun _ => rfl, fun _ => rfl⟩
    | some o => exact ⟨fun z => (by cases z), fun z => (by cases z)⟩
  · rw [lkH_ne h]
theorem pl_mut (h : Mut (some u)) : Pl u := by
  cases u <;> first | trivial | exact h.elim
theorem mo_lock (h : S a = some u) (m : Mut (some u)) : Mo S (upd S a (.frz od u)) := fun b w pw r => by
  by_cases hb : b = a
  · subst hb
    rcases r with r | ⟨o, r⟩
    · rw [h] at r; cases r; exact .inr ⟨od, upd_same⟩
    · rw [h] at r; cases r; exact m.elim
  · rcases r with r | ⟨o, r⟩
    · exact .inl (by rw [upd_ne hb]; exact r)
    · exact .inr ⟨o, by rw [upd_ne hb]; exact r⟩
theorem mo_unlock (h : S a = some (.frz od u)) : Mo S (upd S a u) := fun b w pw r => by
  by_cases hb : b = a
  · subst hb
    rcases r with r | ⟨o, r⟩
    · rw [h] at r; cases r; exact pw.elim
    · rw [h] at r; cases r; exact .inl upd_same
  · rcases r with r | ⟨o, r⟩
    · exact .inl (by rw [upd_ne hb]; exact r)
    · exact .inr ⟨o, by rw [upd_ne hb]; exact r⟩
theorem Rel.lock (R : Rel K Γ ρ σ H S) (h : S a = some u) (m : Mut (some u)) : Rel K (Γ.lk a od u) ρ σ (upd H a (.frz od u)) (upd S a (.frz od u)) := by
  have hH := R.sub _ _ h
  have nS : ∀ {b}, S b = none → b ≠ a := fun {b} e z => by rw [z, h] at e; cases e
  refine ⟨fun b o e => ?_, fun b o e => ?_, fun b o e nb => ?_, fun b o e n => ?_, fun b hb => ?_, R.len, fun i s e => ?_, R.ap⟩
  · by_cases hb : b = a
    · subst hb; rw [upd_same] at e ⊢; exact e
    · rw [upd_ne hb] at e ⊢; exact R.sub _ _ e
  · by_cases hb : b = a
    · subst hb
      have e : lkH b od u Γ.S0 b = some o := e
      rw [lkH_same] at e
      cases q : Γ.S0 b with
      | none => rw [q] at e; cases e
      | some w => rw [q] at e; rw [upd_same]; exact e
    · have e : lkH a od u Γ.S0 b = some o := e
      rw [lkH_ne hb] at e; rw [upd_ne hb]; exact R.s0 _ _ e
  · by_cases hb : b = a
    · subst hb
      have e : lkH b od u Γ.H0 b = some o := e
      rw [lkH_same] at e
      cases q : Γ.H0 b with
      | none => rw [q] at e; cases e
      | some w => rw [q] at e; rw [upd_same]; exact e
    · have e : lkH a od u Γ.H0 b = some o := e
      rw [lkH_ne hb] at e; rw [upd_ne hb]; exact R.keep _ _ e nb
  · have n' : Γ.S0 b = none := lkH_none.mp n
    refine lkH_none.mpr ?_
    by_cases hb : b = a
    · rw [hb]; exact R.new _ _ h (by rw [← hb]; exact n')
    · rw [upd_ne hb] at e; exact R.new _ _ e n'
  · obtain ⟨o, e⟩ := R.lent b hb
    by_cases hb' : b = a
    · exact ⟨_, by rw [hb', upd_same]⟩
    · exact ⟨o, by rw [upd_ne hb']; exact e⟩
  · obtain ⟨o, h1, h2⟩ := R.sl i s e
    refine ⟨o, h1, ?_⟩
    cases s with
    | no => trivial
    | val d => obtain ⟨v, e', r⟩ := h2; exact ⟨v, e', Rp.mo (mo_lock h m) _ _ r⟩
    | own d =>
      obtain ⟨b, e', n, z, t⟩ := h2
      have hb := nS n
      exact ⟨b, e', by rw [upd_ne hb]; exact n, lkH_none.mpr z, (t.at (H' := upd H a (.frz od u)) (fun o q => by rw [upd_ne hb]; exact q) (.refl _)).mo (mo_lock h m)⟩
    | byr d =>
      obtain ⟨b, e', hB, n, t⟩ := h2
      have hb := nS n
      exact ⟨b, e', hB, by rw [upd_ne hb]; exact n, (t.at (H' := upd H a (.frz od u)) (fun o q => by rw [upd_ne hb]; exact q) (.refl _)).mo (mo_lock h m)⟩
theorem Rel.unlock {ρ0 : En} {σ0 : St} (R0 : Rel K Γ ρ0 σ0 H S) (h : S a = some u) (R : Rel K (Γ.lk a od u) ρ σ H' S') (m : Sub (upd S a (.frz od u)) S') : Rel K Γ ρ σ (upd H' a u) (upd S' a u) ∧ H' a = some (.frz od u) ∧ S' a = some (.frz od u) ∧ Sub S (upd S' a u) := by
  have hS' : S' a = some (.frz od u) := m _ _ upd_same
  have hH' : H' a = some (.frz od u) := R.sub _ _ hS'
  have nS : ∀ {b}, S' b = none → b ≠ a := fun {b} e z => by rw [z, hS'] at e; cases e
  have mo : Mo S' (upd S' a u) := mo_unlock hS'
  refine ⟨⟨fun b o e => ?_, fun b o e => ?_, fun b o e nb => ?_, fun b o e n => ?_, fun b hb => ?_, R.len, fun i s e => ?_, R.ap⟩, hH', hS', fun b o e => ?_⟩
  · by_cases hb : b = a
    · subst hb; rw [upd_same] at e ⊢; exact e
    · rw [upd_ne hb] at e ⊢; exact R.sub _ _ e
  · by_cases hb : b = a
    · subst hb
      have := R0.s0 _ _ e
      rw [h] at this; cases this; exact upd_same
    · rw [upd_ne hb]; exact R.s0 _ _ (by show lkH a od u Γ.S0 b = some o; rw [lkH_ne hb]; exact e)
  · by_cases hb : b = a
    · subst hb
      have e1 := R0.keep _ _ e nb
      have e2 := R0.sub _ _ h
      rw [e2] at e1; cases e1; exact upd_same
    · rw [upd_ne hb]; exact R.keep _ _ (by show lkH a od u Γ.H0 b = some o; rw [lkH_ne hb]; exact e) nb
  · by_cases hb : b = a
    · subst hb; exact R0.new _ _ h n
    · rw [upd_ne hb] at e
      exact lkH_none.mp (R.new b o e (lkH_none.mpr n))
  · obtain ⟨o, e⟩ := R.lent b hb
    by_cases hb' : b = a
    · exact ⟨_, by rw [hb', upd_same]⟩
    · exact ⟨o, by rw [upd_ne hb']; exact e⟩
  · obtain ⟨o, h1, h2⟩ := R.sl i s e
    refine ⟨o, h1, ?_⟩
    cases s with
    | no => trivial
    | val d => obtain ⟨v, e', r⟩ := h2; exact ⟨v, e', Rp.mo mo _ _ r⟩
    | own d =>
      obtain ⟨b, e', n, z, t⟩ := h2
      have hb := nS n
      exact ⟨b, e', by rw [upd_ne hb]; exact n, lkH_none.mp z, (t.at (H' := upd H' a u) (fun o q => by rw [upd_ne hb]; exact q) (.refl _)).mo mo⟩
    | byr d =>
      obtain ⟨b, e', hB, n, t⟩ := h2
      have hb := nS n
      exact ⟨b, e', hB, by rw [upd_ne hb]; exact n, (t.at (H' := upd H' a u) (fun o q => by rw [upd_ne hb]; exact q) (.refl _)).mo mo⟩
  · by_cases hb : b = a
    · subst hb; rw [h] at e; cases e; exact upd_same
    · rw [upd_ne hb]; exact m _ _ (by rw [upd_ne hb]; exact e)
/-- a result, behind the lock -/
theorem RvOk.unlock {ρ0 : En} {σ0 : St} {r : Rv} {v : V} (R0 : Rel K Γ ρ0 σ0 H S) (h : S a = some u) (R : Rel K (Γ.lk a od u) ρ σ H' S') (m : Sub (upd S a (.frz od u)) S') (q : RvOk K (Γ.lk a od u) ρ σ H' S' v r) : RvOk K Γ ρ σ (upd H' a u) (upd S' a u) v r := by
  have hS' : S' a = some (.frz od u) := m _ _ upd_same
  cases r with
  | val d => exact Rp.mo (mo_unlock hS') _ _ q
  | slot i => exact q
  | frs d =>
    obtain ⟨b, e, n, z, t, ap⟩ := q
    have hb : b ≠ a := fun w => by rw [w, hS'] at n; cases n
    exact ⟨b, e, by rw [upd_ne hb]; exact n, lkH_none.mp z, (t.at (H' := upd H' a u) (fun o q => by rw [upd_ne hb]; exact q) (.refl _)).mo (mo_unlock hS'), ap⟩

/-! ### the walk over a dict -/
theorem dict_start {K : PySem.W.Frag} {W : WX} {cm : Str → Option Value} {i : Nat} {g : D × D → D} (R : Rel K Γ ρ σ H S) {α : Type} {kk : List D → En → RE α} {k : α → En → Hp → Hp → Prop} (p : Post K W cm Γ σ S ((itDict g (var i) ρ).bind kk) k) :
    ∃ ρ1 S1 a kv kvs, Sub S S1 ∧ Rel K Γ ρ1 σ H S1 ∧ σ[i]? = some (some (.ref a)) ∧ Rd S1 a (.dK kv) ∧ RpK K S1 kv kvs ∧ itDict g (var i) ρ = .ok (kvs.map g) ρ1 := by
  unfold itDict at p ⊢
  have hv : ∀ r ρ1, var i ρ = .ok r ρ1 → ρ1 = ρ ∧ ∀ d ρ2, close r ρ = .ok d ρ2 → ∃ v, RvOk K Γ ρ σ H S v r ∧ σ[i]? = some (some v) := fun r ρ1 e => by
    unfold var at e
    cases q : ρ[i]? with
    | none => simp only [q] at e; cases e
    | some s =>
      obtain ⟨o, h1, h2⟩ := R.sl i s q
      cases s with
      | no => simp only [q] at e; cases e
      | val d =>
        simp only [q] at e; cases e
        obtain ⟨v, rfl, r⟩ := h2
        exact ⟨rfl, fun _ _ _ => ⟨v, r, h1⟩⟩
      | own d =>
        simp only [q] at e; cases e
        obtain ⟨b, rfl, _⟩ := h2
        exact ⟨rfl, fun _ _ _ => ⟨_, ⟨h1, _, q, fun z => by cases z⟩, h1⟩⟩
      | byr d =>
        simp only [q] at e; cases e
        obtain ⟨b, rfl, _⟩ := h2
        exact ⟨rfl, fun _ _ _ => ⟨_, ⟨h1, _, q, fun z => by cases z⟩, h1⟩⟩
  unfold clo at p ⊢
  cases e1 : var i ρ with
  | exc c ρ1 =>
    unfold var at e1
    split at e1 <;> cases e1
  | bad => rw [e1] at p; exact p.elim
  | ok r ρ1 =>
    obtain ⟨rfl, hr⟩ := hv r ρ1 e1
    rw [e1] at p
    simp only [RE.bind_ok] at p ⊢
    cases e2 : close r ρ1 with
    | exc c ρ2 => exact (close_exc e2).elim
    | bad => rw [e2] at p; exact p.elim
    | ok d ρ2 =>
      obtain ⟨v, rv, hσ⟩ := hr d ρ2 e2
      obtain ⟨S2, m2, R2, rp⟩ := close_ok R rv e2
      rw [e2] at p
      simp only [RE.bind_ok] at p ⊢
      cases d <;> first | (exact p.elim) | skip
      rename_i kvs
      simp only at p ⊢
      split at p
      · rename_i hf
        rw [if_pos hf]
        cases rp with
        | dk hs ha => exact ⟨ρ2, S2, _, _, kvs, m2, R2, hσ, hs, ha, rfl⟩
        | dt hs hn ha =>
          exact absurd (rpT_flat ha (by
            rw [← hf]
            congr 1)) hn
      · exact p.elim
theorem itk_ok {K : PySem.W.Frag} {S0 : Hp} {a : Addr} {o : Obj} {kv : List (Key × V)} {kvs : List (D × D)} (h : S0 a = some (.frz o (.dK kv))) (r : RpK K S0 kv kvs) : ItOk K S0 (Itk a o kv) (kvs.map (·.1)) := fun i H S m m2 => by
  have hH := m2 _ _ (m _ _ h)
  refine ⟨fun e => ⟨hH, by rw [e, List.length_map, r.length]; exact Nat.le_refl _⟩, fun d hd => ?_⟩
  have rk := keys_rpA r
  obtain ⟨v, hv, rv⟩ := rk.get hd
  have hl : i < kv.length := by
    have := (List.getElem?_eq_some_iff.mp hv).1
    simpa using this
  refine ⟨⟨hH, hl⟩, fun x H' y => ?_⟩
  obtain ⟨rfl, k, w, e, rfl⟩ := y
  rw [List.getElem?_map, e] at hv
  cases hv
  exact ⟨S, .refl m2, rv.sub m⟩
theorem itd_ok {K : PySem.W.Frag} {S0 : Hp} {a : Addr} {o : Obj} {kv : List (Key × V)} {kvs : List (D × D)} (h : S0 a = some (.frz o (.dK kv))) (r : RpK K S0 kv kvs) : ItOk K S0 (Itd a o kv) (kvs.map (·.2)) := fun i H S m m2 => by
  have hH := m2 _ _ (m _ _ h)
  refine ⟨fun e => ⟨hH, by rw [e, List.length_map, r.length]; exact Nat.le_refl _⟩, fun d hd => ?_⟩
  have rk := vals_rpA r
  obtain ⟨v, hv, rv⟩ := rk.get hd
  have hl : i < kv.length := by
    have := (List.getElem?_eq_some_iff.mp hv).1
    simpa using this
  refine ⟨⟨hH, hl⟩, fun x H' y => ?_⟩
  obtain ⟨rfl, k, e⟩ := y
  rw [List.getElem?_map, e] at hv
  cases hv
  exact ⟨S, .refl m2, rv.sub m⟩
theorem rpK_at {K : PySem.W.Frag} {S0 : Hp} : ∀ {kv : List (Key × V)} {kvs : List (D × D)} {i : Nat} {p : D × D}, RpK K S0 kv kvs → kvs[i]? = some p → ∃ k v, kv[i]? = some (k, v) ∧ p.1 = keyD k ∧ Rp K S0 v p.2
  | _, _, _, _, .nil, e => by simp at e
  | _, _, 0, _, .cons r _, e => by simp at e; subst e; exact ⟨_, _, rfl, rfl, r⟩
  | _, _, i + 1, p, .cons _ t, e => by
    obtain ⟨k, v, h⟩ := rpK_at (i := i) (p := p) t (by simpa using e)
    exact ⟨k, v, by simpa using h⟩
theorem iti_ok {K : PySem.W.Frag} {S0 : Hp} {a : Addr} {o : Obj} {kv : List (Key × V)} {kvs : List (D × D)} (h : S0 a = some (.frz o (.dK kv))) (r : RpK K S0 kv kvs) : ItOk K S0 (Iti a o kv) (kvs.map fun p => .tuple [p.1, p.2]) := fun i H S m m2 => by
  have hH := m2 _ _ (m _ _ h)
  refine ⟨fun e => ⟨hH, by rw [e, List.length_map, r.length]; exact Nat.le_refl _⟩, fun d hd => ?_⟩
  rw [List.getElem?_map] at hd
  cases q : kvs[i]? with
  | none => rw [q] at hd; cases hd
  | some p =>
    rw [q] at hd; cases hd
    obtain ⟨k, v, e1, e2, e3⟩ := rpK_at r q
    refine ⟨⟨hH, (List.getElem?_eq_some_iff.mp e1).1⟩, fun x H' y => ?_⟩
    obtain ⟨T, k', v', e, rfl, hT, rfl⟩ := y
    rw [e1] at e; cases e
    have g : Grow H S (upd H T (.tup [kV k, v])) (upd S T (.tup [kV k, v])) := .both m2 hT
    refine ⟨_, g, .tup (.inl (.inl upd_same)) (.cons ?_ (.cons ((e3.sub m).sub g.s) .nil))⟩
    rw [e2]; exact kV_rp k
end
section
variable {X : Cx} {W : WX} {tg iter : Expr} {body : List Stmt} {pos : Pos} {t : Tg} {g : Sm} {i : Nat} {gd : D × D → D}
theorem PS.or {st : Stmt} {t u : TS} (h : PS X st t) (h' : PS X st u) : PS X st fun D σ H => t D σ H ∨ u D σ H := ⟨fun pins s σ H D I w => by
  rcases w with w | w
  · exact h.run pins s σ H D I w
  · exact h'.run pins s σ H D I w⟩
theorem PE.or {e : Expr} {t u : TE} (h : PE X e t) (h' : PE X e u) : PE X e fun σ H Q => t σ H Q ∨ u σ H Q := ⟨fun pins s σ H Q I w => by
  rcases w with w | w
  · exact h.run pins s σ H Q I w
  · exact h'.run pins s σ H Q I w⟩
/-- which walk over a dict -/
structure DW (K : PySem.W.Frag) (i : Nat) (wi : TI) (gd : D × D → D) (J : Addr → Obj → List (Key × V) → It) : Prop where
  ok : ∀ {S0 : Hp} {a : Addr} {o : Obj} {kv : List (Key × V)} {kvs : List (D × D)}, S0 a = some (.frz o (.dK kv)) → RpK K S0 kv kvs → ItOk K S0 (J a o kv) (kvs.map gd)
  wi : ∀ {σ : St} {H : Hp} {a : Addr} {o : Obj} {kv : List (Key × V)} {R : It → Hp → Prop}, σ[i]? = some (some (.ref a)) → H a = some (.frz o (.dK kv)) → R (J a o kv) H → wi σ H R
theorem dw_keys {K : PySem.W.Frag} {i : Nat} : DW K i (iKeys (tVar i)) (·.1) Itk := ⟨itk_ok, fun h1 h2 h3 => ⟨_, h1, _, _, rfl, .inl ⟨_, h2, h3⟩⟩⟩
theorem dw_vals {K : PySem.W.Frag} {i : Nat} : DW K i (iVals (tVar i)) (·.2) Itd := ⟨itd_ok, fun h1 h2 h3 => ⟨_, h1, _, _, _, rfl, h2, h3⟩⟩
theorem dw_items {K : PySem.W.Frag} {i : Nat} : DW K i (iItems (tVar i)) (fun p => .tuple [p.1, p.2]) Iti := ⟨iti_ok, fun h1 h2 h3 => ⟨_, h1, _, _, _, rfl, h2, h3⟩⟩
theorem dw_keysM {K : PySem.W.Frag} {i : Nat} : DW K i (iKeysM (tVar i)) (·.1) Itk := ⟨itk_ok, fun h1 h2 h3 => ⟨_, h1, _, _, _, rfl, h2, h3⟩⟩
theorem forD_core {us : List Nat} {wi : TI} {J : Addr → Obj → List (Key × V) → It} (dw : DW X.K i wi gd J) {σ : St} {H : Hp} {Dd : Ends} (h : tS X.K W X.mg (forD t (itDict gd (var i)) g) Dd σ H) :
    tLock (tFor wi (tGt X.K t us) (tS X.K W0 X.mg g)) Dd σ H ∨ tFor wi (tGt X.K t us) (tS X.K W0 X.mg g) Dd σ H := by
  obtain ⟨Γ, ρ, S, R, p⟩ := h
  unfold forD at p
  have pp : Post X.K W X.mg Γ σ S ((itDict gd (var i) ρ).bind fun xs ρ => RE.ok (lkS (forLoop t g xs ρ)) ρ) (fun r ρ' H' S' => SPost X.K W X.mg Γ S' Dd r) := by
    cases q : itDict gd (var i) ρ with
    | ok xs ρ1 => rw [q] at p; exact fun H1 S1 m1 R1 => SPost.sub (r := lkS (forLoop t g xs ρ1)) p m1
    | exc c ρ1 => rw [q] at p; exact fun H1 S1 m1 R1 => p σ H1 S1 m1 R1
    | bad => rw [q] at p; exact p
  obtain ⟨ρ1, S1, a, kv, kvs, m1, R1, hσ, hd, rk, ei⟩ := dict_start R pp
  rw [ei] at p
  have p : SPost X.K W X.mg Γ S1 Dd (lkS (forLoop t g (kvs.map gd) ρ1)) := SPost.sub (r := lkS (forLoop t g (kvs.map gd) ρ1)) p m1
  rcases hd with hd | ⟨o, hd⟩
  · refine .inl ⟨a, .dK kv, R1.sub _ _ hd, trivial, fun od => ?_⟩
    have R2 := R1.lock (od := od) hd trivial
    refine dw.wi hσ upd_same (for_coreJ us R2 ?_ (dw.ok upd_same (RpK.mo (mo_lock hd trivial) _ _ rk)))
    cases q : forLoop t g (kvs.map gd) ρ1 with
    | nx ρ2 =>
      rw [q] at p
      intro σ' H' S' m' R'
      obtain ⟨R3, hH, _, ms⟩ := R1.unlock hd R' m'
      exact ⟨hH, p σ' _ _ ms R3⟩
    | rt r ρ2 =>
      rw [q] at p
      intro σ' H' S' v m' R' hv
      obtain ⟨R3, hH, _, ms⟩ := R1.unlock hd R' m'
      exact ⟨hH, p σ' _ _ v ms R3 (RvOk.unlock R1 hd R' m' hv)⟩
    | bk ρ2 =>
      rw [q] at p
      intro σ' H' S' m' R'
      obtain ⟨R3, hH, _, ms⟩ := R1.unlock hd R' m'
      exact ⟨hH, p σ' _ _ ms R3⟩
    | ct ρ2 =>
      rw [q] at p
      intro σ' H' S' m' R'
      obtain ⟨R3, hH, _, ms⟩ := R1.unlock hd R' m'
      exact ⟨hH, p σ' _ _ ms R3⟩
    | exc c ρ2 => rw [q] at p; exact p.elim
    | bad => rw [q] at p; exact p.elim
  · refine .inr (dw.wi hσ (R1.sub _ _ hd) (for_coreJ us R1 ?_ (dw.ok hd rk)))
    cases q : forLoop t g (kvs.map gd) ρ1 with
    | exc c ρ2 => rw [q] at p; exact p.elim
    | bad => rw [q] at p; exact p.elim
    | _ => rw [q] at p; exact p
theorem ss_forD {us : List Nat} {wi : TI} {J : Addr → Obj → List (Key × V) → It} (dw : DW X.K i wi gd J) (hp : PassesOwn (model X.prog X.w) X.A X.env X.xe) (hc : X.calm = true) (hi : PI X tg iter wi) (hg : SG X tg t us) (hb : SSs X W0 body g) (hs : ∀ x, foldedSetIterable iter X.env x = pure x := by intro _; rfl) :
    SS X W (.For tg iter body [] pos) (forD t (itDict gd (var i)) g) :=
  PS.imp (PS.or (ps_lock (ps_for hp hc hi hg hb hs)) (ps_for hp hc hi hg hb hs)) fun _ _ _ h => forD_core dw h
variable {c : Tt} {f fk : Ex} {us vs : List Nat} {elt kx vx : Expr} {ifs : List Expr} {scope : Scope} {own : List (Str × Nat)}
/-- from a locked dict to a value -/
theorem dictE_core {wi : TI} {J : Addr → Obj → List (Key × V) → It} {F : List D → Ex} {B : It → St → Hp → VK → Prop} (dw : DW X.K i wi gd J) (hx : ∀ ds ρ cc ρ', F ds ρ ≠ .exc cc ρ')
    (sem : ∀ {Γ : G} {ρ1 : En} {σ : St} {H1 S1 : Hp} {Q : VK} {ds : List D} {J : It}, Rel X.K Γ ρ1 σ H1 S1 → ItOk X.K S1 J ds → Post X.K W X.mg Γ σ S1 (F ds ρ1) (fun r ρ H' S' => ∀ v, RvOk X.K Γ ρ σ H' S' v r → Q v H') → B J σ H1 Q)
    {σ : St} {H : Hp} {Q : VK} (h : tX X.K W X.mg (fun ρ => (itDict gd (var i) ρ).bind F) σ H Q) : tLockE (fun σ H Q => wi σ H fun J H1 => B J σ H1 Q) σ H Q ∨ (fun σ H Q => wi σ H fun J H1 => B J σ H1 Q) σ H Q := by
  obtain ⟨Γ, ρ, S, R, p⟩ := h
  obtain ⟨ρ1, S1, a, kv, kvs, m1, R1, hσ, hd, rk, ei⟩ := dict_start R p
  have p : Post X.K W X.mg Γ σ S1 (F (kvs.map gd) ρ1) fun r ρ H' S' => ∀ v, RvOk X.K Γ ρ σ H' S' v r → Q v H' := by
    have p : Post X.K W X.mg Γ σ S1 ((itDict gd (var i) ρ).bind F) fun r ρ H' S' => ∀ v, RvOk X.K Γ ρ σ H' S' v r → Q v H' := Post.sub p m1
    rw [ei] at p
    exact p
  rcases hd with hd | ⟨o, hd⟩
  · refine .inl ⟨a, .dK kv, R1.sub _ _ hd, trivial, fun od => ?_⟩
    have R2 := R1.lock (od := od) hd trivial
    refine dw.wi hσ upd_same (sem R2 (dw.ok upd_same (RpK.mo (mo_lock hd trivial) _ _ rk)) ?_)
    cases q : F (kvs.map gd) ρ1 with
    | ok r ρ2 =>
      rw [q] at p
      intro H' S' m' R' v hv
      obtain ⟨R3, hH, _, ms⟩ := R1.unlock hd R' m'
      exact ⟨hH, p _ _ ms R3 v (RvOk.unlock R1 hd R' m' hv)⟩
    | exc cc ρ2 => exact absurd q (hx _ _ _ _)
    | bad => rw [q] at p; exact p.elim
  · exact .inr (dw.wi hσ (R1.sub _ _ hd) (sem R1 (dw.ok hd rk) p))
theorem lcR_exc {ds : List D} {ρ : En} {cc : Str} {ρ' : En} : lcR vs t c f ds ρ ≠ .exc cc ρ' := by
  unfold lcR
  split
  · split <;> exact fun z => by cases z
  · exact fun z => by cases z
theorem dcR_exc {ds : List D} {ρ : En} {cc : Str} {ρ' : En} : dcR vs t c fk f ds ρ ≠ .exc cc ρ' := by
  unfold dcR
  split
  · split <;> exact fun z => by cases z
  · exact fun z => by cases z
theorem sx_lcD {wi : TI} {J : Addr → Obj → List (Key × V) → It} (dw : DW X.K i wi gd J) (hc : X.calm = true) (hN : X.N.Nodup) (hi : PI X tg iter wi) (ok : BlkOk X.N X.env.scope scope own)
    (hg : ∀ (s : Shared) (H : Hp) (C : Addr) (cl : List (Str × Addr)) (fp : List Addr), SG (Cx.bk X scope s H C cl fp) tg t us) (ht : ∀ (s : Shared) (H : Hp) (C : Addr) (cl : List (Str × Addr)) (fp : List Addr), STs (Cx.bk X scope s H C cl fp) ifs c)
    (he : ∀ (s : Shared) (H : Hp) (C : Addr) (cl : List (Str × Addr)) (fp : List Addr), SX (Cx.bk X scope s H C cl fp) W0 elt f) (hu : ∀ i ∈ us, i ∈ own.map (·.2) := by decide) (hs : ∀ x, foldedSetIterable iter X.env x = pure x := by intro _; rfl) :
    SX X W (.ListComp elt [⟨tg, iter, ifs, 0⟩] scope pos) (lcE (own.map (·.2)) (itDict gd (var i)) t c f) := by
  have h := pe_lc (X := X) (ifs := ifs) (g := tGt X.K t us) (tt := tB' X.K W0 X.mg c) (te := tV X.K W0 X.mg (clo f)) (pos := pos) hc hN hi ok hg ht (fun s H C cl fp => sv_clo (he s H C cl fp)) hs
  exact PE.imp (PE.or (pe_lock h) h) fun σ H Q q => dictE_core (B := fun J σ H1 Q => lcB J (tGt X.K t us) (tB' X.K W0 X.mg c) (tV X.K W0 X.mg (clo f)) (own.map fun x : Str × Nat => x.2) σ H1 Q) (F := lcR (own.map fun x : Str × Nat => x.2) t c f) dw (fun _ _ _ _ => lcR_exc) (fun R hJ p => lc_coreJ hu R hJ p) q
theorem sx_dcD {wi : TI} {J : Addr → Obj → List (Key × V) → It} (dw : DW X.K i wi gd J) (hc : X.calm = true) (hN : X.N.Nodup) (hi : PI X tg iter wi) (ok : BlkOk X.N X.env.scope scope own)
    (hg : ∀ (s : Shared) (H : Hp) (C : Addr) (cl : List (Str × Addr)) (fp : List Addr), SG (Cx.bk X scope s H C cl fp) tg t us) (ht : ∀ (s : Shared) (H : Hp) (C : Addr) (cl : List (Str × Addr)) (fp : List Addr), STs (Cx.bk X scope s H C cl fp) ifs c)
    (hk : ∀ (s : Shared) (H : Hp) (C : Addr) (cl : List (Str × Addr)) (fp : List Addr), SX (Cx.bk X scope s H C cl fp) W0 kx fk)
    (he : ∀ (s : Shared) (H : Hp) (C : Addr) (cl : List (Str × Addr)) (fp : List Addr), SX (Cx.bk X scope s H C cl fp) W0 vx f) (hu : ∀ i ∈ us, i ∈ own.map (·.2) := by decide) (hs : ∀ x, foldedSetIterable iter X.env x = pure x := by intro _; rfl) :
    SX X W (.DictComp kx vx [⟨tg, iter, ifs, 0⟩] scope pos) (dcE (own.map (·.2)) (itDict gd (var i)) t c fk f) := by
  have h := pe_dc (X := X) (ifs := ifs) (g := tGt X.K t us) (tt := tB' X.K W0 X.mg c) (tk := tV X.K W0 X.mg (clo fk)) (tv := tV X.K W0 X.mg (clo f)) (pos := pos) hc hN hi ok hg ht (fun s H C cl fp => sv_clo (hk s H C cl fp)) (fun s H C cl fp => sv_clo (he s H C cl fp)) hs
  exact PE.imp (PE.or (pe_lock h) h) fun σ H Q q => dictE_core (B := fun J σ H1 Q => dcB J (tGt X.K t us) (tB' X.K W0 X.mg c) (tV X.K W0 X.mg (clo fk)) (tV X.K W0 X.mg (clo f)) (own.map fun x : Str × Nat => x.2) σ H1 Q) (F := dcR (own.map fun x : Str × Nat => x.2) t c fk f) dw (fun _ _ _ _ => dcR_exc) (fun R hJ p => dc_coreJ hu R hJ p) q
end
end Ev

set_option Elab.async false
set_option linter.all false
set_option maxRecDepth 100000
set_option maxHeartbeats 1000000
/-! EvRev: list(reversed(x)), x a list. -/
namespace Ev
open PySem PySem.Spec L2 PyProof.Rows
section
variable {prog : Program} {w : World} {A : Around} {E : Value → Shared → Prop} {s : Shared}
theorem rev_extend {it l : Addr} {items : Array Value} {R : Result → Shared → Prop} (hh : A.handled = none) (hit : s.heap.IsRevIter it l ((items.size : Int) - 1)) (hl : s.heap.IsList l items) (hne : l ≠ it) (hn : items.size ≤ sizeLine)
    (S : Addr) (hSi : S ≠ it) (hSl : S ≠ l) (res : Value) (c₀ : Nat) (hS : s.heap.get? S = some { cls := .type "list", data := .seq #[] c₀ })
    (hR : ∀ h' tk acc' c', (∀ b o, b ≠ S → b ≠ it → s.heap.get? b = some o → h'.get? b = some o) → h'.get? S = some { cls := .type "list", dict := none, data := .seq acc' c', slots := #[] } → ItemsOf (fun i v => items[items.size - 1 - i]? = some v) acc' items.size → R (.ok (.ret res)) { s with heap := h', toks := tk }) :
    wpAny (model prog w) A.in1 (Builtin.List.listExtendWith (.ref S) (.ref it) res)
      (fun fin s' => match fin with | .done f => R (.ok f) s' | .again c' => c'.quiet = true ∧ codeAny (model prog w) A c' R s') (fun e s' => R (.error e) s') s := by
  have W := (Walks.listRev (prog := prog) (w := w) (A := A.in1) hh it l hne items).toS
  have hSf : S ∉ [it, l] := by simp only [List.mem_cons, List.not_mem_nil, or_false, not_or]; exact ⟨hSi, hSl⟩
  have hT : s.TypeIs (.ref it) "list_reverseiterator" := hit.typeIs
  have h1 : Builtin.List.listSameRef (.ref S) (.ref it) = false := by simp [Builtin.List.listSameRef, hSi]
  unfold Builtin.List.listExtendWith
  refine wpAny_bind (wpAny_typeOf hT ?_)
  rw [if_neg (by rw [h1]; decide)]
  refine wpAny_bind (wpAny_pyIter_revIter hit ?_)
  refine wpAny_bind (wpAny_holding ?_)
  unfold Builtin.List.listLengthHint
  refine wpAny_bind (wpAny_specialOf hT RT.nolen_lri ?_)
  show wpAny _ A.in1 (specialOf (Value.ref it) (Str.ofString "__length_hint__") >>= _) _ _ _
  refine wpAny_bind (wpAny_specialOf hT RT.hint_lri ?_)
  generalize hid : ("list_reverseiterator.__length_hint__" : String) = id0
  wp_delta
  rw [show splitId id0 = some ("list_reverseiterator", "__length_hint__") from by subst hid; decide +kernel]
  subst hid
  refine wpAny_bind (wpAny_isInstance (b := true) hT (by rw [isSubtype_type]; kernel_rfl) ?_)
  refine wpAny_pure ?_
  rw [if_neg (by decide)]
  have e0 : ((items.size : Nat) : Int) - 1 - ((0 : Nat) : Int) = (items.size : Int) - 1 := by omega
  refine wpAny_pure ⟨plainId_quiet F.plain_extend_loop _, codeAny_extend_loopS W hn _ hSf _ items.size 0 _ _ _ rfl (Nat.zero_le _) ⟨Nat.zero_le _, by rw [e0]; exact hit, hl⟩ hS (ItemsOf.nil _) fun s' acc' c' hm hS' hacc => ?_⟩
  rw [Moved.eq_with hm]
  refine hR s'.heap s'.toks acc' c' (fun b o hb hb2 e => hm.heap b o (fun hmem => ?_) e) hS' hacc
  rcases List.mem_cons.mp hmem with e' | hmem
  · exact hb e'
  · exact hb2 (List.mem_singleton.mp hmem)
theorem call_list_rev {it l : Addr} {items : Array Value} {Q : Value → Shared → Prop} (hh : A.handled = none) (hit : s.heap.IsRevIter it l ((items.size : Int) - 1)) (hl : s.heap.IsList l items) (hne : l ≠ it) (hn : items.size ≤ sizeLine)
    (hQ : ∀ h' tk acc' c', (∀ b o, b ≠ it → s.heap.get? b = some o → h'.get? b = some o) → h'.get? s.heap.objs.size = some { cls := .type "list", dict := none, data := .seq acc' c', slots := #[] } → ItemsOf (fun i v => items[items.size - 1 - i]? = some v) acc' items.size → Q (.ref s.heap.objs.size) { s with heap := h', toks := tk }) :
    wpAny (model prog w) A (call (.type "list") [.ref it]) Q E s := by
  refine callType_codes (Q₁ := fun obj s₁ => obj = .ref s.heap.objs.size ∧ s₁ = { s with heap := s.heap.push { cls := .type "list", data := .seq #[] } }) PySem.F.called_list (PySem.F.typeCall_list_1 _) PySem.F.entry_list_init
    (code_list_new _ ⟨rfl, rfl⟩) fun obj s₁ h₁ => ?_
  obtain ⟨rfl, rfl⟩ := h₁
  have hS : (s.heap.push { cls := .type "list", data := .seq #[] }).get? s.heap.objs.size = some { cls := .type "list", data := .seq #[] } := Heap.get?_push_size _ rfl
  obtain ⟨oi, hoi, _⟩ := id hit
  obtain ⟨ol, hol, _⟩ := id hl
  have hSi : s.heap.objs.size ≠ it := Nat.ne_of_gt (Heap.lt_size hoi)
  have hSl : s.heap.objs.size ≠ l := Nat.ne_of_gt (Heap.lt_size hol)
  refine ⟨⟨_, hS, rfl⟩, PySem.F.args_list_init_2 _ _, ?_⟩
  show wpAny _ _ (do let old ← Builtin.List.listItems (.ref s.heap.objs.size); Builtin.List.listUpdate (.ref s.heap.objs.size) (fun _ => #[]); letGo old.toList.reverse; Builtin.List.listExtendWith (.ref s.heap.objs.size) (.ref it) .none) _ _ _
  refine wpAny_bind ?_
  unfold Builtin.List.listItems
  refine wpAny_bind (wpAny_seqItems hS rfl (wpAny_pure ?_))
  show wpAny _ _ (updateSeq s.heap.objs.size (fun _ => #[]) >>= fun _ => letGo (#[] : Array Value).toList.reverse >>= fun _ => Builtin.List.listExtendWith (.ref s.heap.objs.size) (.ref it) .none) _ _ _
  refine wpAny_bind (wpAny_updateSeq hS rfl ?_)
  have hS₂ := Heap.get?_update_self (Obj.mapSeq (fun _ => (#[] : Array Value))) hS rfl
  have oth : ∀ b o, s.heap.get? b = some o → ((s.heap.push { cls := .type "list", data := .seq #[] }).update s.heap.objs.size (Obj.mapSeq (fun _ => (#[] : Array Value)))).get? b = some o :=
    fun b o e => (Heap.get?_update_other _ _ (Ne.symm (Nat.ne_of_lt (Heap.lt_size e)))).trans (Heap.get?_push_of_some _ e)
  refine wpAny_bind (wpAny_letGo ?_)
  refine rev_extend (A := A.in1) hh (hit.at fun o e => oth _ o e) ⟨ol, oth _ _ hol, by obtain ⟨o', e', r⟩ := hl; rw [hol] at e'; cases e'; exact r⟩ hne hn _ hSi hSl .none _ hS₂ fun h' tk acc' c' hk hS' hacc => ?_
  exact ⟨rfl, hQ h' tk acc' c' (fun b o hb e => hk b o (Nat.ne_of_lt (Heap.lt_size e)) hb (oth b o e)) hS' hacc⟩
end
end Ev

set_option Elab.async false
set_option linter.all false
set_option maxRecDepth 100000
set_option maxHeartbeats 1000000
/-! EvQ: list(reversed(x)), repr, sorted, dict(pairs), a dict display, list * int. -/
namespace Ev
open PySem PySem.Spec L2
section
variable {X : Cx} {W : WX} {e a b c : Expr} {f fa fb fc : Ex} {pos p : Pos} {x : Str}
/-! ### list(reversed(x)) -/
def dRevL : D → Option Rv
  | .list ds => some (.frs (.list ds.reverse))
  | _ => none
theorem RpA.reverse {K : PySem.W.Frag} {S : Hp} : ∀ {vs : List V} {ds : List D}, RpA K S vs ds → RpA K S vs.reverse ds.reverse
  | _, _, .nil => .nil
  | _, _, .cons r t => by rw [List.reverse_cons, List.reverse_cons]; exact (RpA.reverse t).append (.cons r .nil)
open PyProof.Rows in
theorem sx_lrev {p2 pos2 : Pos} (hc : X.calm = true) (hg : Gl X "list") (hm : X.mg "list" = none) (hg2 : Gl X "reversed") (hm2 : X.mg "reversed" = none) (he : SX X W e f)
    (hs : starEach [e] X.env = (false, eval e X.env) :: starEach [] X.env := by rfl)
    (hs2 : starEach [.Call (.Name "reversed" p2) [e] [] pos2] X.env = (false, eval (.Call (.Name "reversed" p2) [e] [] pos2) X.env) :: starEach [] X.env := by rfl) :
    SX X W (.Call (.Name "list" p) [.Call (.Name "reversed" p2) [e] [] pos2] [] pos) (op1 dRevL f) := by
  refine PE.imp (t := fun σ H Q => tO X.K W X.mg (opn f) σ H fun x H1 => ∃ a xs, x = .ref a ∧ SqL X.K H1 a xs ∧ ∀ p, H1 p = none → Q (.ref p) (upd H1 p (.lst xs.reverse))) ?_ fun σ H Q h => ?_
  · refine ⟨fun pins s σ H Q I h => ?_⟩
    refine PyProof.Rows.Call_ (ld_blt I hg hm PyProof.Rows.boot_list (PyProof.Rows.callWith_type1 (args_cons (PyProof.Rows.Call_ (ld_blt I hg2 hm2 PyProof.Rows.boot_reversed (PyProof.Rows.callWith_type1 (args_cons (thn ((so_opn he).run pins s σ H _ I h) fun u s1 ⟨v, H1, I1, r1, q1⟩ => args_nil ?_) hs) hs rfl))) hs2) hs2 rfl))
    obtain ⟨a, xs, ev, hq, q⟩ := q1
    subst ev
    obtain rfl : u = Value.ref a := r1
    obtain ⟨its, rv, p', hz⟩ := I1.list hq
    refine call_reversed_list p'.isList (args_nil ?_)
    have k0 : ∀ b o, s1.heap.get? b = some o → (s1.heap.push (revObj a ((its.toArray.size : Int) - 1))).get? b = some o := fun b o e => Heap.get?_push_of_some _ e
    have I2 : Inv X pins σ H1 { s1 with heap := s1.heap.push (revObj a ((its.toArray.size : Int) - 1)) } := I1.kept (t' := s1.toks) k0
    obtain ⟨f0, f1, f2, f3, f4, f5⟩ := I1.fpOk (H' := H1) (b := s1.heap.objs.size) (Nat.le_refl _) (I1.hok.fresh (Nat.le_refl _))
    have hl := p'.isList
    obtain ⟨ol, hol, _⟩ := id hl
    have hne : a ≠ s1.heap.objs.size := Nat.ne_of_lt (Heap.lt_size hol)
    have hn : its.toArray.size ≤ sizeLine := by rw [List.size_toArray, ← rv.length]; exact hz
    refine call_list_rev (s := { s1 with heap := s1.heap.push (revObj a ((its.toArray.size : Int) - 1)) }) (I1.ok.hd hc) ⟨_, Heap.get?_push_size _ rfl, rfl, rfl⟩ (hl.push _) hne hn fun h' tk acc c' hk hS hi => ?_
    generalize hD : (s1.heap.push (revObj a ((its.toArray.size : Int) - 1))).objs.size = D at hS
    have I3 : Inv X pins σ H1 { s1 with heap := h', toks := tk } := I2.turned (t' := tk) (fun b o hb e => hk b o hb e) f0 f1 f3 f4 f5
    have hf : H1 D = none := I2.hok.fresh (Nat.le_of_eq hD)
    exact ⟨.ref D, upd H1 D (.lst xs.reverse), I2.turnedNew (t' := tk) (ch := [s1.heap.objs.size]) (T := D) (fun b o hb e => hk b o (by simpa using hb) e) (fun b hb => by
      have hb' : b = s1.heap.objs.size := by simpa using hb
      subst hb'
      exact ⟨f0, f1, f2, f3, f4, f5⟩) (Nat.le_of_eq hD) (show ObjOk X.prog X.w _ _ _ (.lst xs.reverse) from ⟨by rw [List.length_reverse]; exact hz, acc.toList, c', RT.vals_rev rv hi, by rw [Array.toArray_toList]; exact hS⟩), rfl, q _ hf⟩
  · refine op1_core (r := fun x H Q => ∃ a xs, x = .ref a ∧ SqL X.K H a xs ∧ ∀ p, H p = none → Q (.ref p) (upd H p (.lst xs.reverse))) (op := dRevL) (fun x H S d rv Q m pk e o => ?_) h
    cases d <;> simp only [dRevL, reduceCtorEq] at e
    cases e
    obtain ⟨a, xs, rfl, hs, r⟩ := pk.lst m
    exact ⟨a, xs, rfl, hs, o.lst m r.reverse⟩

/-! ### repr -/
def dRepr : D → Option Rv
  | .str x => if (PySem.reprText x).length ≤ sizeLine then some (.val (.str (PySem.reprText x))) else none
  | .list ds => if ((PyData.list ds).showable && !(PyData.list ds).hasDict && decide ((PyData.list ds).depth ≤ 60) && decide ((PyData.list ds).shown.length ≤ sizeLine)) = true then some (.val (.str (PyData.list ds).shown)) else none
  | .tuple ds => if ((PyData.tuple ds).showable && !(PyData.tuple ds).hasDict && decide ((PyData.tuple ds).depth ≤ 60) && decide ((PyData.tuple ds).shown.length ≤ sizeLine)) = true then some (.val (.str (PyData.tuple ds).shown)) else none
  | _ => none
def reprOk (d : D) : Bool := d.showable && !d.hasDict && decide (d.depth ≤ 60) && decide (d.shown.length ≤ sizeLine)
def c_repr (hg : X.A.guards = some []) (hu : X.A.units + 64 < cLine) : C1 X (.builtin "repr") dRepr where
  r := fun xs H Q => (∃ y, xs = [.str y] ∧ (PySem.reprText y).length ≤ sizeLine ∧ Q (.str (PySem.reprText y)) H) ∨ ∃ a d, xs = [.ref a] ∧ Dp X.K H (.ref a) d ∧ reprOk d = true ∧ Q (.str d.shown) H
  rule := by
    intro pins s σ H xs us Q I rx h
    rcases h with ⟨y, rfl, hz, q⟩ | ⟨a, d, rfl, hd, ok, q⟩
    · obtain ⟨u, rfl, t, rfl⟩ := vals1 rx
      exact PySem.P.repr_of_str ⟨.str _, H, I.tok _, ⟨_, rfl⟩, q⟩ hz
    · obtain ⟨u, rfl, r⟩ := vals1 rx
      obtain ⟨as, r1⟩ := Dp.reads I d _ u hd r
      cases r
      unfold reprOk at ok
      simp only [Bool.and_eq_true, Bool.not_eq_true', decide_eq_true_eq] at ok
      obtain ⟨⟨⟨h1, h2⟩, h3⟩, h4⟩ := ok
      exact repr_of_reads' r1 h1 (PyData.noDict_hsm h2) hg (by omega) (fun b o e => e) (fun h' u tk hk => ⟨.str _, H, I.kept hk, ⟨_, rfl⟩, q⟩) h4
  sem := by
    intro x H S d rv Q m pk e o
    have fin : ∀ ds, (d = .list ds ∨ d = .tuple ds) → (if reprOk d = true then some (Rv.val (.str d.shown)) else none) = some rv → (∃ y, [x] = [V.str y] ∧ (PySem.reprText y).length ≤ sizeLine ∧ Q (.str (PySem.reprText y)) H) ∨ ∃ a d, [x] = [V.ref a] ∧ Dp X.K H (.ref a) d ∧ reprOk d = true ∧ Q (.str d.shown) H := fun ds hd e => by
      split at e
      · rename_i hk
        cases e
        have hdict : d.hasDict = false := by
          unfold reprOk at hk
          simp only [Bool.and_eq_true, Bool.not_eq_true'] at hk
          exact hk.1.1.2
        have r := pk.rp m
        have : ∃ a, x = .ref a := by
          rcases hd with rfl | rfl
          · cases r; exact ⟨_, rfl⟩
          · cases r; exact ⟨_, rfl⟩
        obtain ⟨a, rfl⟩ := this
        exact .inr ⟨a, d, rfl, rp_dp d _ r hdict, hk, o.val m (.str _)⟩
      · cases e
    cases d with
    | str y =>
      simp only [dRepr] at e
      split at e
      · cases e
        rw [pk.str]
        exact .inl ⟨y, rfl, by assumption, o.val m (.str _)⟩
      · cases e
    | list ds => exact fin ds (.inl rfl) e
    | tuple ds => exact fin ds (.inr rfl) e
    | _ => cases e

/-! ### sorted -/
def dle (a b : D) : Bool := PySem.W.dataLe false (fun d : D => d) a b
def tupC : D → Bool
  | .tuple (_ :: _) => true
  | _ => false
def notNT : D → Bool
  | .none => false
  | .tuple _ => false
  | _ => true
def sortOk (ds : List D) : Bool := ds.all (fun d => ds.all fun d' => PySem.W.alike d d') && (ds.all tupC || ds.all notNT) && ds.all (fun d => decide (d.depth ≤ 60))
theorem rp_rel {X : Cx} {pins : List (Addr × Obj)} {σ : St} {H S : Hp} {s : Shared} (m : Sub S H) (I : Inv X pins σ H s) : ∀ {vs : List V} {ds : List D} {us : List Value}, RpA X.K S vs ds → (∀ d ∈ ds, PySem.W.alike d d = true) → Vals vs us →
    PySem.W.EachIs (fun (v : Value) (b : V × D) => RelV b.1 v ∧ Rp X.K S b.1 b.2) us (vs.zip ds) ∧ PySem.W.EachIs (fun (v : Value) (b : V × D) => ∃ as, Reads s.heap v b.2 as) us (vs.zip ds)
  | _, _, _, .nil, _, .nil => ⟨.nil, .nil⟩
  | _, _, _, .cons (v := v) (d := d) r t, ha, .cons q u => by
    obtain ⟨h1, h2⟩ := rp_rel m I t (fun d hd => ha d (List.mem_cons_of_mem _ hd)) u
    exact ⟨.cons ⟨q, r⟩ h1, .cons (Dp.reads I d v _ (rp_alike (r.sub m) (ha d List.mem_cons_self)) q) h2⟩
theorem each_out {K : PySem.W.Frag} {H : Hp} : ∀ {us : List Value} {bs : List (V × D)}, PySem.W.EachIs (fun (v : Value) (b : V × D) => RelV b.1 v ∧ Rp K H b.1 b.2) us bs → Vals (bs.map (·.1)) us ∧ RpA K H (bs.map (·.1)) (bs.map (·.2))
  | _, _, .nil => ⟨.nil, .nil⟩
  | _, _, .cons h t => let ⟨a, b⟩ := each_out t; ⟨.cons h.1 a, .cons h.2 b⟩
theorem zip_snd {α β : Type} : ∀ {xs : List α} {ys : List β}, xs.length = ys.length → (xs.zip ys).map (·.2) = ys
  | [], [], _ => rfl
  | _ :: xs, _ :: ys, h => by rw [List.zip_cons_cons, List.map_cons, zip_snd (by simpa using h)]
theorem sort_zip {vs : List V} {ds : List D} (h : vs.length = ds.length) : ((vs.zip ds).mergeSort (PySem.W.dataLe false Prod.snd)).map (·.2) = ds.mergeSort dle := by
  have := List.map_mergeSort (r := PySem.W.dataLe false Prod.snd) (s := dle) (f := Prod.snd) (l := vs.zip ds) (fun a _ b _ => rfl)
  rw [this]
  congr 1
  exact zip_snd h
/-- the values of a list, sorted -/
theorem cr_sortD (hu : X.A.units + 64 < cLine) : CallR X (.builtin "sorted") fun xs H Q => ∃ a vs ds S, xs = [.ref a] ∧ Sub S H ∧ SqL X.K H a vs ∧ RpA X.K S vs ds ∧ sortOk ds = true ∧ ∀ ys p, RpA X.K S ys (ds.mergeSort dle) → H p = none → Q (.ref p) (upd H p (.lst ys)) := by
  rintro pins s σ H xs us Q I r ⟨a, vs, ds, S, rfl, m, hs, ra, ok, q⟩
  obtain ⟨its, rv, hl, hz⟩ := I.list hs
  rw [Vals.ref1 r]
  unfold sortOk at ok
  simp only [Bool.and_eq_true, List.all_eq_true, Bool.or_eq_true, decide_eq_true_eq] at ok
  obtain ⟨⟨h1, h2⟩, h3⟩ := ok
  obtain ⟨e1, e2⟩ := rp_rel m I ra (fun d hd => h1 d hd d hd) rv
  have hzip : (vs.zip ds).map (·.2) = ds := zip_snd ra.length
  have hlen : (vs.zip ds).length = vs.length := by rw [List.length_zip, ra.length, Nat.min_self]
  refine PySem.W.sorted_data (enc := Prod.snd) hl.isList e1 e2 ?_ ?_ (by rw [hlen]; exact hz) (fun b hb => ?_) fun out ho eo => ?_
  · intro d hd d' hd'
    have hd : d ∈ ds := by rw [← hzip]; exact hd
    have hd' : d' ∈ ds := by rw [← hzip]; exact hd'
    exact h1 d hd d' hd'
  · show PySem.W.Sortable ((vs.zip ds).map (·.2))
    rw [hzip]
    rcases h2 with h2 | h2
    · refine .inl fun d hd => ?_
      have := h2 d hd
      unfold tupC at this
      split at this
      · exact ⟨_, _, rfl⟩
      · cases this
    · refine .inr fun d hd => ?_
      have := h2 d hd
      exact ⟨fun z => (by rw [z] at this; cases this), fun xs z => (by rw [z] at this; cases this)⟩
  · have : b.2 ∈ ds := by rw [← hzip]; exact List.mem_map.mpr ⟨b, hb, rfl⟩
    have := h3 _ this
    omega
  · obtain ⟨f1, f2⟩ := each_out eo
    obtain ⟨ep, he'⟩ := PyProof.Rows.sortedAll_at s.heap its (List.toArray out)
    have f2' : RpA X.K S (((vs.zip ds).mergeSort (PySem.W.dataLe false Prod.snd)).map (·.1)) (ds.mergeSort dle) := by rw [← sort_zip ra.length]; exact f2
    have hlen' : (((vs.zip ds).mergeSort (PySem.W.dataLe false Prod.snd)).map (·.1)).length ≤ sizeLine := by rw [List.length_map, List.length_mergeSort, hlen]; exact hz
    exact ⟨.ref _, upd H (s.heap.objs.size + 1) (.lst _), I.laid (t' := s.toks) (fun _ _ => PyProof.Rows.sortedAll_old) (Nat.le_succ _) ⟨hlen', out, ep, f1, he'⟩, rfl, q _ _ f2' (I.hok.fresh (Nat.le_succ _))⟩
/-- texts, as the order says -/
def sleS (a b : Str) : Bool := !PySem.Spec.ltCps b.cps.toList a.cps.toList
theorem sle_iff (a b : Str) : sleS a b = true ↔ ¬ b.cps.toList < a.cps.toList := by
  unfold sleS
  rw [PyProof.Rows.ltCps_eq]
  simp
theorem str_ext {a b : Str} (h : a.cps.toList = b.cps.toList) : a = b := PySem.W.str_of_cps h
theorem sle_trans (a b c : Str) (h1 : sleS a b = true) (h2 : sleS b c = true) : sleS a c = true := by
  rw [sle_iff] at *
  intro h
  have h1 := List.not_lt.mp h1
  have h2 := List.not_lt.mp h2
  exact absurd h (List.not_lt.mpr (List.le_trans h1 h2))
theorem sle_total (a b : Str) : (sleS a b || sleS b a) = true := by
  rw [Bool.or_eq_true, sle_iff, sle_iff]
  by_cases h : b.cps.toList < a.cps.toList
  · exact .inr fun h2 => List.lt_irrefl _ (List.lt_trans h h2)
  · exact .inl h
theorem sle_anti (a b : Str) (h1 : sleS a b = true) (h2 : sleS b a = true) : a = b := by
  rw [sle_iff] at *
  exact str_ext (List.le_antisymm (List.not_lt.mp h1) (List.not_lt.mp h2))
theorem rising_pw : ∀ (p : Str) (l : List Str), PyProof.Rows.risingS p l = true → (p :: l).Pairwise fun a b => sleS a b = true
  | p, [], _ => by simp
  | p, x :: r, h => by
    have h : (!PySem.Spec.ltCps x.cps.toList p.cps.toList && PyProof.Rows.risingS x r) = true := h
    rw [Bool.and_eq_true] at h
    have ih := rising_pw x r h.2
    refine List.pairwise_cons.mpr ⟨fun y hy => ?_, ih⟩
    rcases List.mem_cons.mp hy with rfl | hy
    · exact h.1
    · exact sle_trans p x y h.1 ((List.pairwise_cons.mp ih).1 y hy)
theorem sorted_uniq {ys ks : List Str} (p : ys.Perm ks) (h : PyProof.Rows.sortedS ys = true) : ys = ks.mergeSort sleS := by
  have h1 : ys.Pairwise fun a b => sleS a b = true := by
    cases ys with
    | nil => exact .nil
    | cons x r => exact rising_pw x r h
  have h2 : (ks.mergeSort sleS).Pairwise fun a b => sleS a b = true := List.pairwise_mergeSort sle_trans sle_total ks
  exact List.Perm.eq_of_pairwise (fun a b _ _ => sle_anti a b) h1 h2 (p.trans (List.mergeSort_perm ks sleS).symm)
def strsO : List (D × D) → Option (List Str)
  | [] => some []
  | (.str k, _) :: r => match strsO r with
    | some ks => some (k :: ks)
    | none => none
  | _ :: _ => none
def dSorted : D → Option Rv
  | .list ds => if sortOk ds = true then some (.frs (.list (ds.mergeSort dle))) else none
  | .dict kvs => match strsO kvs with
    | some ks => if ks.length < 64 then some (.frs (.list ((ks.mergeSort sleS).map .str))) else none
    | none => none
  | _ => none
theorem strsO_flat : ∀ {kvs : List (D × D)} {ks : List Str}, strsO kvs = some ks → kvs.all (fun p => flatK p.1) = true
  | [], _, _ => rfl
  | (k, v) :: r, ks, e => by
    cases k <;> simp only [strsO, reduceCtorEq] at e
    rw [List.all_cons]
    cases q : strsO r with
    | none => rw [q] at e; cases e
    | some ks' => rw [strsO_flat q]; rfl
theorem strsO_keys {K : PySem.W.Frag} {S : Hp} : ∀ {kv : List (Key × V)} {kvs : List (D × D)} {ks : List Str}, RpK K S kv kvs → strsO kvs = some ks → kv.map (·.1) = ks.map Sum.inr
  | _, _, ks, .nil, e => by cases e; rfl
  | _, _, ks, .cons (k := k) r t, e => by
    cases k with
    | inl i => simp only [keyD, strsO, reduceCtorEq] at e
    | inr x =>
      simp only [keyD, strsO] at e
      cases q : strsO _ with
      | none => rw [q] at e; cases e
      | some ks' => rw [q] at e; cases e; rw [List.map_cons, List.map_cons, strsO_keys t q]
theorem strs_rp {K : PySem.W.Frag} {S : Hp} : ∀ (ys : List Str), RpA K S (ys.map V.str) (ys.map PyData.str)
  | [] => .nil
  | y :: ys => .cons (.str y) (strs_rp ys)
def c_sorted (hc : X.calm = true) (hu : X.A.units + 64 < cLine) : C1 X (.builtin "sorted") dSorted where
  r := _
  rule := CallR.or (cr_sortD hu) (call_sortedD hc)
  sem := by
    intro x H S d rv Q m pk e o
    cases d <;> simp only [dSorted, reduceCtorEq] at e
    · split at e
      · rename_i ok
        cases e
        obtain ⟨a, xs, rfl, hs, r⟩ := pk.lst m
        exact .inl ⟨a, xs, _, S, rfl, m, hs, r, ok, fun ys p ry hp => o.lst m ry p hp⟩
      · cases e
    · rename_i kvs
      cases q : strsO kvs with
      | none => simp only [q] at e; cases e
      | some ks =>
        simp only [q] at e
        split at e
        · cases e
          obtain ⟨a, kv, rfl, hs, r⟩ := pk.dk m (strsO_flat q)
          refine .inr ⟨a, kv, ks, rfl, hs, strsO_keys r q, by assumption, fun ys p py hy hp => ?_⟩
          rw [sorted_uniq py hy]
          exact o.lst m (strs_rp _) p hp
        · cases e
end
end Ev

set_option Elab.async false
set_option linter.all false
set_option maxRecDepth 100000
set_option maxHeartbeats 1000000
/-! EvW: dict(pairs), a dict display, list * int, a call of one of some defs, try. -/
namespace Ev
open PySem PySem.Spec L2
section
variable {X : Cx} {W : WX} {e a b c ix : Expr} {es : List Expr} {f fa fb fc fi : Ex} {pos p : Pos} {x : Str}
/-! ### dict(..) -/
def pairsO : List D → Option (List (D × D))
  | [] => some []
  | .tuple [k, v] :: r => match pairsO r with
    | some ps => if flatK k = true then some ((k, v) :: ps) else none
    | none => none
  | _ :: _ => none
def dmerge (ps : List (D × D)) (kvs : List (D × D)) : List (D × D) := ps.foldl (fun acc p => dput acc p.1 p.2) kvs
def dDict : D → Option Rv
  | .list ds => match pairsO ds with
    | some ps => some (.frs (.dict (dmerge ps [])))
    | none => none
  | .dict kvs => if kvs.all (fun p => flatK p.1) = true then some (.frs (.dict kvs)) else none
  | _ => none
theorem rpK_merge {K : PySem.W.Frag} {S : Hp} : ∀ {more kv : List (Key × V)} {ps kvs : List (D × D)}, RpK K S more ps → RpK K S kv kvs → RpK K S (mergeK kv more) (dmerge ps kvs)
  | _, _, _, _, .nil, h => h
  | _ :: more, _, _ :: ps, _, .cons (k := k) r t, h => rpK_merge (more := more) (ps := ps) t (rpK_put k r h)
theorem pairs_ok {K : PySem.W.Frag} {H S : Hp} (m : Sub S H) : ∀ {vs : List V} {ds : List D} {ps : List (D × D)}, RpA K S vs ds → pairsO ds = some ps → ∃ (as : List Addr) (kv : List (Key × V)), vs = as.map V.ref ∧ Paired (fun p kv => SqT K H p [kV kv.1, kv.2]) as kv ∧ RpK K S kv ps
  | _, [], ps, h, e => by cases h; cases e; exact ⟨[], [], rfl, .nil, .nil⟩
  | _, d :: ds, ps, h, e => by
    cases h with
    | @cons v vs _ _ r t =>
      cases d with
      | tuple xs =>
        match xs, e, r with
        | [k, w], e, r =>
          simp only [pairsO] at e
          cases q : pairsO ds with
          | none => rw [q] at e; cases e
          | some ps' =>
            rw [q] at e
            simp only at e
            split at e
            · rename_i hf
              cases e
              obtain ⟨as, kv, e1, e2, e3⟩ := pairs_ok m t q
              cases r with
              | @tup a xs _ hs ha =>
                cases ha with
                | cons h1 h2 =>
                  cases h2 with
                  | cons h2 h3 =>
                    cases h3
                    obtain ⟨key, rfl, rfl⟩ := key_of_flat (H := S) (.sh h1) hf
                    exact ⟨a :: as, (key, _) :: kv, by rw [List.map_cons, e1], .cons (m.mo.sqT hs) e2, .cons h2 e3⟩
            · cases e
        | [], e, _ => cases e
        | [_], e, _ => cases e
        | _ :: _ :: _ :: _, e, _ => cases e
      | _ => cases e
theorem Out.dct {K : PySem.W.Frag} {H S : Hp} {Q : VK} {kvs : List (D × D)} {kv : List (Key × V)} (h : Out K H S Q (.frs (.dict kvs))) (m : Sub S H) (r : RpK K S kv kvs) : ∀ p, H p = none → Q (.ref p) (upd H p (.dK kv)) := fun p hp =>
  h _ _ S (.one m hp) ⟨p, rfl, hp, m.none hp, .dk upd_same r⟩
def c_dict (hc : X.calm = true) : C1 X (.type "dict") dDict where
  r := _
  rule := CallR.or (call_dictP hc) call_dictD
  sem := by
    intro x H S d rv Q m pk e o
    cases d <;> simp only [dDict, reduceCtorEq] at e
    · cases q : pairsO _ with
      | none => rw [q] at e; cases e
      | some ps =>
        rw [q] at e; cases e
        obtain ⟨a, xs, rfl, hs, r⟩ := pk.lst m
        obtain ⟨as, kv, rfl, e2, e3⟩ := pairs_ok m r q
        exact .inl ⟨a, as, kv, rfl, hs, e2, o.dct m (rpK_merge e3 .nil)⟩
    · split at e
      · rename_i hf
        cases e
        obtain ⟨a, kv, rfl, hs, r⟩ := pk.dk m hf
        exact .inr ⟨a, kv, rfl, hs, o.dct m r⟩
      · cases e

/-! ### an object that stands by while something is reckoned -/
theorem Post.hidden {α : Type} {K : PySem.W.Frag} {cm : Str → Option Value} {Γ : G} {σ : St} {S : Hp} {r : RE α} {k : α → En → Hp → Hp → Prop} {q : Addr} {o : HO} (p : Post K W cm Γ σ S r k) (h0 : Γ.H0 q = none) (s0 : Γ.S0 q = none) (hb : q ∉ Γ.B) :
    Post K W cm (Γ.hide q o) σ S r fun a ρ H' S' => Rel K Γ ρ σ H' S' ∧ H' q = some o ∧ Apart Γ q S' ρ σ ∧ k a ρ H' S' := by
  cases r with
  | ok a ρ =>
    intro H1 S1 m1 R1
    obtain ⟨R, e, A⟩ := R1.unhide h0 s0 hb
    exact ⟨R, e, A, p H1 S1 m1 R⟩
  | exc c ρ => exact fun H1 S1 m1 R1 => p H1 S1 m1 (R1.unhide h0 s0 hb).1
  | bad => exact p

/-! ### {k: v, ..} -/
def prsE : List (Ex × Ex) → En → RE (List (D × D))
  | [], ρ => .ok [] ρ
  | (k, v) :: r, ρ => (clo k ρ).bind fun kd ρ => (clo v ρ).bind fun vd ρ => (prsE r ρ).bind fun ps ρ => if flatK kd = true then .ok ((kd, vd) :: ps) ρ else .bad
def dspE (ps : List (Ex × Ex)) : Ex := fun ρ => (prsE ps ρ).bind fun ps ρ => if ps.length ≤ 15 then .ok (.frs (.dict (dmerge ps []))) ρ else .bad
def trsOf (K : PySem.W.Frag) (W : WX) (cm : Str → Option Value) : List (Ex × Ex) → List (TE × TE)
  | [] => []
  | (k, v) :: r => (tV K W cm (clo k), tV K W cm (clo v)) :: trsOf K W cm r
theorem prs_core {K : PySem.W.Frag} {cm : Str → Option Value} : ∀ {fs : List (Ex × Ex)} {Γ : G} {ρ : En} {σ : St} {H S : Hp} {Q : List (V × V) → Hp → Prop}, Rel K Γ ρ σ H S →
    Post K W cm Γ σ S (prsE fs ρ) (fun ps _ H' S' => ∀ kv : List (Key × V), RpK K S' kv ps → Q (kv.map fun q => (kV q.1, q.2)) H') → tPairs (trsOf K W cm fs) σ H Q
  | [], Γ, ρ, σ, H, S, Q, R, p => p H S (.refl _) R [] .nil
  | (fk, fv) :: fs, Γ, ρ, σ, H, S, Q, R, p => by
    unfold prsE at p
    refine ⟨Γ, ρ, S, R, Post.imp (Post.of_bind p) fun kd ρ1 H1 S1 _ m1 R1 k kv hkv => ⟨Γ, ρ1, S1, R1, Post.imp (Post.of_bind k.2.2) fun vd ρ2 H2 S2 _ m2 R2 k2 vv hvv => ?_⟩⟩
    refine prs_core R2 (Post.imp (Post.of_bind k2.2.2) fun ps ρ3 H3 S3 _ m3 R3 k3 kvs hkvs => ?_)
    obtain ⟨_, _, k3⟩ := k3
    split at k3
    · rename_i hf
      obtain ⟨key, rfl, rfl⟩ := key_of_flat (H := S1) (.sh hkv) hf
      exact k3 H3 S3 (.refl _) R3 ((key, vv) :: kvs) (.cons (hvv.sub m3) hkvs)
    · exact k3.elim
theorem sx_dsp {keys : List (Option Expr)} {values : List Expr} {fs : List (Ex × Ex)} (h : PPs X pos keys values (trsOf X.K W X.mg fs)) (hall : keys.all (·.isSome) = true := by rfl) (hl : keys.length = values.length := by rfl) (h0 : keys ≠ [] := by (intro z; cases z)) (h15 : keys.length ≤ 15 := by decide) : SX X W (.Dict keys values pos) (dspE fs) := by
  refine PE.imp (pe_disp h hall hl h0 h15) fun σ H Q ⟨Γ, ρ, S, R, p⟩ => fun q hq => ?_
  unfold dspE at p
  have A := R.apart hq
  have R1 := (R.poke (o := .dK []) A).hide A upd_same
  refine prs_core R1 (Post.imp (Post.hidden (Post.of_bind p) A.h0 (R.s0.none A.s) A.b) fun ps ρ1 H1 S1 _ m1 _ k kv hkv => ?_)
  obtain ⟨R1, e1, A1, _, _, k⟩ := k
  split at k
  · rename_i hz
    refine ⟨e1, kv, rfl, by rw [hkv.length]; exact hz, ?_⟩
    refine k _ S1 (.refl _) (R1.poke A1) _ ⟨q, rfl, A1.s, A1.h0, .dk upd_same (rpK_merge hkv .nil), A1.ap⟩
  · exact k.elim

/-! ### [..] * n -/
def repE (es : List Ex) (k : Int) : Ex := fun ρ => (clos es ρ).bind fun ds ρ => if -(2 ^ 63) ≤ k ∧ k < 2 ^ 63 ∧ ds.length ≤ sizeLine ∧ ds.length * k.toNat ≤ sizeLine then .ok (.frs (.list (List.replicate k.toNat ds).flatten)) ρ else .bad
theorem RpA.rep {K : PySem.W.Frag} {S : Hp} {vs : List V} {ds : List D} (h : RpA K S vs ds) : ∀ k : Nat, RpA K S (List.replicate k vs).flatten (List.replicate k ds).flatten
  | 0 => .nil
  | k + 1 => by
    rw [List.replicate_succ, List.replicate_succ, List.flatten_cons, List.flatten_cons]
    exact h.append (RpA.rep h k)
theorem sx_rep {fs : List Ex} {k : Int} {j : Nat} {pl pk : Pos} (h : SA X W es (clos fs)) : SX X W (.BinOp (.List es pl) .Mult (.Constant (.int k) j pk) pos) (repE fs k) := by
  refine PE.imp (pe_op op_rep (pe_lst h) pe_int) fun σ H Q ⟨Γ, ρ, S, R, p⟩ => ⟨Γ, ρ, S, R, Post.imp (Post.of_bind p) fun ds ρ1 H1 S1 _ m1 R1 kk vs hvs => ?_⟩
  obtain ⟨_, _, kk⟩ := kk
  split at kk
  · rename_i hz
    obtain ⟨h1, h2, h3, h4⟩ := hz
    refine ⟨by rw [hvs.length]; exact h3, fun q hq => ?_⟩
    refine ⟨q, k, vs, rfl, rfl, upd_same, h1, h2, by rw [hvs.length]; exact h4, fun r hr => ?_⟩
    have g1 : Grow H1 S1 (upd H1 q (.lst vs)) S1 := .one R1.sub hq
    have R2 := R1.grow g1
    have A := R2.apart hr
    exact kk _ S1 (.refl _) (R2.poke A) _ ⟨r, rfl, A.s, A.h0, .lst upd_same (hvs.rep _), A.ap⟩
  · exact kk.elim

/-! ### [f, g][i](..) -/
structure Has (X : Cx) (n : Nat) (f : Addr) (F : FnS) : Prop where
  ex : ∃ k fd ps, FnG X.prog X.w X.K X.mg X.base k f fd ps F ∧ Room k X.A ∧ PySem.W.keepIn X.K (.ref f) = true ∧ Binds X.K fd ps [] ∧ ps.length = n
inductive HasAll (X : Cx) (n : Nat) : List Addr → List FnS → Prop
  | nil : HasAll X n [] []
  | cons {f : Addr} {F : FnS} {fs : List Addr} {Fs : List FnS} : Has X n f F → HasAll X n fs Fs → HasAll X n (f :: fs) (F :: Fs)
theorem HasAll.get {n : Nat} : ∀ {fs : List Addr} {Fs : List FnS} {i : Nat} {F : FnS}, HasAll X n fs Fs → Fs[i]? = some F → ∃ f, fs[i]? = some f ∧ Has X n f F
  | _, _, _, _, .nil, e => by simp at e
  | _, _, 0, _, .cons h _, e => by simp at e; subst e; exact ⟨_, rfl, h⟩
  | _, _, i + 1, F, .cons _ t, e => by
    obtain ⟨f, h1, h2⟩ := HasAll.get (i := i) (F := F) t (by simpa using e)
    exact ⟨f, by simpa using h1, h2⟩
theorem HasAll.len {n : Nat} : ∀ {fs : List Addr} {Fs : List FnS}, HasAll X n fs Fs → fs.length = Fs.length
  | _, _, .nil => rfl
  | _, _, .cons _ t => by rw [List.length_cons, List.length_cons, HasAll.len t]
def catE (Fs : List FnS) (i : Ex) (as : List Ag) : Ex := fun ρ => (clo i ρ).bind fun d ρ => match d with
  | .int k => match atI Fs k with
    | some F => calE F as ρ
    | none => .bad
  | _ => .bad
theorem sx_cat {fs : List Addr} {Fs : List FnS} {as : List Ag} {names : List Expr} {pl ps : Pos} (hf : HasAll X as.length fs Fs) (hgd : X.A.guards = some []) (tk : Takes X W) (hn : PA X names fun _ H Q => Q (fs.map V.ref) H) (hi : SX X W ix fi) (hp : PlainIx ix) (hz : fs.length ≤ sizeLine)
    (ha : SAg X W (e :: es) as) (nd : (lentOf as).Nodup := by decide) (he : starEach (e :: es) X.env = (false, eval e X.env) :: starEach es X.env := by rfl)
    (hpl : (backTo pos (starEach es X.env)).any (·.1) = false := by rfl)
    (hc : eval (.Call (.Subscript (.List names pl) ix ps) (e :: es) [] pos) X.env = (do callWith pos (← eval (.Subscript (.List names pl) ix ps) X.env) [] (backTo pos (starEach (e :: es) X.env)) (backToKw pos (keywordEach [] X.env))) := by rfl) :
    SX X W (.Call (.Subscript (.List names pl) ix ps) (e :: es) [] pos) (catE Fs fi as) := by
  refine ⟨fun pins s σ H Q I ⟨Γ, ρ, S, R, p⟩ => ?_⟩
  have pf := pe_ix (pos := ps) (ix_list (X := X)) (pe_lst (pos := pl) hn) (sv_clo hi) hp
  refine PyProof.Rows.Call_ (thn (pf.run pins s σ H (fun v H1 => ∃ f F, v = .ref f ∧ Has X as.length f F ∧ tX X.K W X.mg (calE F as) σ H1 Q) I ?_) fun u s1 ⟨v, H1, I1, r1, f, F, ev, hF, q1⟩ => ?_) hc
  · refine ⟨by rw [List.length_map]; exact hz, fun q hq => ?_⟩
    have A := R.apart hq
    have R1 := (R.poke (o := .lst (fs.map V.ref)) A).hide A upd_same
    unfold catE at p
    refine ⟨_, ρ, S, R1, Post.imp (Post.hidden (Post.of_bind p) A.h0 (R.s0.none A.s) A.b) fun d ρ1 H1 S1 _ m1 _ k y hy => ?_⟩
    obtain ⟨R1, e1, A1, _, _, k⟩ := k
    cases d with
    | int i =>
      simp only at k
      cases hy
      cases q1 : atI Fs i with
      | none => rw [q1] at k; exact k.elim
      | some F =>
        rw [q1] at k
        simp only at k
        unfold atI at q1
        cases q2 : L2.ixN Fs.length i with
        | none => rw [q2] at q1; cases q1
        | some j =>
          rw [q2] at q1
          obtain ⟨f, g1, g2⟩ := hf.get q1
          refine ⟨q, _, i, .ref f, rfl, rfl, .inl (.inl e1), ?_, f, F, rfl, g2, Γ, ρ1, S1, R1, k⟩
          unfold atI
          rw [List.length_map, hf.len, q2]
          show (fs.map V.ref)[j]? = _
          rw [List.getElem?_map, g1]; rfl
    | _ => exact k.elim
  · subst ev
    obtain rfl : u = Value.ref f := r1
    obtain ⟨k, fd, ps, hG, hr, hk, hb, hl⟩ := hF.ex
    refine PySem.W.callWith_K (h₀ := X.base) I1.ok.mod.kin hk (thn (ha.run pos pins s1 σ H1 _ I1 (cal_core (ps := ps) hl.symm nd q1)) fun us s2 ⟨vs, H2, I2, r, q⟩ => ⟨I2.kIn, ?_⟩) he hpl
    exact run_fnG hG hr hgd hb tk I2 r q

/-! ### try -/
inductive HsOk (X : Cx) (W : WX) (sub : Str → Str → Option Bool) : List ExceptHandler → List (Str × Sm) → Prop
  | nil : HsOk X W sub [] []
  | cons {x : Str} {C : Addr} {g : Sm} {b₀ : Stmt} {suite : List Stmt} {np pos' : Pos} {hds : List ExceptHandler} {l : List (Str × Sm)} (hn : Names X x (.ref C)) (hs : ∀ c cls b, X.mg c = some cls → sub c x = some b → PySem.W.exmOne X.K cls (.ref C) = some b)
      (hsu : ∀ (a : Addr) (oe : Obj) (pn : List (Addr × Obj)), SSs (X.suite a ((a, oe) :: pn)) W (b₀ :: suite) g) (r : HsOk X W sub hds l) : HsOk X W sub (.ExceptHandler (some (.Name x np)) none (b₀ :: suite) pos' :: hds) ((x, g) :: l)
theorem hsOk_hds {sub : Str → Str → Option Bool} : ∀ {hds : List ExceptHandler} {l : List (Str × Sm)}, HsOk X W sub hds l → ∃ l', HdsOk X hds l' ∧ ∀ (Γ : G) (S : Hp) (Dd : Ends) (c : Str) (ρ : En), SPost X.K W X.mg Γ S Dd (hndS sub c ρ l) → ∀ (σ : St) (H' S' : Hp), Sub S S' → Rel X.K Γ ρ σ H' S' → ∀ cls, X.mg c = some cls → wMany X.K W Dd l' cls none σ H'
  | _, _, .nil => ⟨[], .nil, fun Γ S Dd c ρ p σ H' S' m R cls hm => p σ H' S' m R cls hm⟩
  | _, _, .cons (x := x) (C := C) (g := g) hn hs hsu r => by
    obtain ⟨l', h1, h2⟩ := hsOk_hds r
    refine ⟨(.ref C, fun _ _ _ => tS X.K W X.mg g) :: l', .cons hn (fun a oe cls d pn _ _ => hsu a oe pn) h1, fun Γ S Dd c ρ p σ H' S' m R cls hm => ?_⟩
    unfold hndS at p
    cases q : sub c x with
    | none => rw [q] at p; exact p.elim
    | some b =>
      refine ⟨b, hs c cls b hm q, fun hb a _ => ?_, fun hb => ?_⟩
      · subst hb
        rw [q] at p
        exact ⟨Γ, ρ, S', R, SPost.sub p m⟩
      · subst hb
        rw [q] at p
        exact h2 Γ S Dd c ρ p σ H' S' m R cls hm
theorem ss_try {sub : Str → Str → Option Bool} {body : List Stmt} {h₀ : ExceptHandler} {hds : List ExceptHandler} {l : List (Str × Sm)} {g : Sm} (hs : X.stack = X.env :: X.outer) (hf : X.env.frame = some X.env.locals) (tk : Takes X W)
    (hb : ∀ (W : WX) (pn : List (Addr × Obj)) (xe : Value → Shared → Prop), Takes (X.tr pn xe) W → PassesOwn (model X.prog X.w) X.A X.env xe → SSs (X.tr pn xe) W body g) (hh : HsOk X W sub (h₀ :: hds) l) : SS X W (.Try body (h₀ :: hds) [] [] pos) (tryS sub g l) := by
  obtain ⟨l', h1, h2⟩ := hsOk_hds hh
  refine PS.imp (ps_try_many (tb := fun W => tS X.K W X.mg g) hs hf tk hb h1) fun Dd σ H ⟨Γ, ρ, S, R, p⟩ => ⟨Γ, ρ, S, R, ?_⟩
  unfold tryS at p
  cases q : g ρ with
  | exc c ρ1 =>
    rw [q] at p
    exact fun σ' H' S' m R' cls hm => h2 Γ S Dd c ρ1 p σ' H' S' m R' cls hm
  | bad => rw [q] at p; exact p
  | nx ρ1 => rw [q] at p; exact p
  | rt r ρ1 => rw [q] at p; exact p
  | bk ρ1 => rw [q] at p; exact p
  | ct ρ1 => rw [q] at p; exact p
end
end Ev

set_option Elab.async false
set_option linter.all false
set_option maxRecDepth 100000
set_option maxHeartbeats 1000000
/-! EvL: from the law's meaning to its row. -/
namespace Ev
open PySem PySem.Spec L2 PyProof.Rows
/-- what the row asks of a run of the law -/
abbrev Good (s₁ : Shared) : Result → Shared → Prop := fun r s' => r = .ok (.ret (.bool true)) ∧ OldK s₁.heap s'.heap ∧ s'.os = s₁.os ∧ AllBare s'.gens
section
variable {P : Program} {w : World} {K : PySem.W.Frag} {mg mb : Str → Option Value} {k : Nat} {fa a : Addr} {fd : FuncData} {x : Str} {s₁ : Shared} {vs : List Value} {ns : List Int} {F : FnS}
/-- from an abstract heap in which at most the script is known -/
theorem good_of {H : Hp} (KX : K.In s₁.heap) (hns : s₁.heap.Ns mainGlobals mg) (hb : s₁.heap.Ns builtinsNs mb) (hbb : ∀ x : Str, x ≠ "__name__" → mb x = bootBuiltins x) (hlim : s₁.heap.NoLimit) (hg : s₁.gens = #[])
    (ha : s₁.heap.get? a = some { cls := .type "list", data := .seq vs.toArray }) (hr : Room k callerA)
    (G : ∀ base : Heap, K.In base → base.Ns mainGlobals mg → FnG P w K mg base k fa fd [x] F) (hbind : ∀ (s : Shared) (u : Value), BindsTo s fd ⟨[u], []⟩ [(x, u)])
    (hF : F [.val (.list (ns.map PyData.int))] = .rt (.val (.bool true)) []) (hO : L2.Only H) (hS : SqL K H a (ns.map V.int)) (hok : HOk P w H s₁.heap) (hA : ∀ b, H b ≠ none → b = a) (hK : H a ≠ none → K.lookup a = none) :
    codeAny (model P w) callerA (.call (.ref fa) ⟨[.ref a], []⟩) (Good s₁) s₁ := by
  have plain : ∀ {b : Addr} {o : Obj}, s₁.heap.get? b = some o → H b = none → (hidT s₁.heap H).get? b = some o := fun e n => hidT_get e n
  have unseen : ∀ {b : Addr} {o : Obj} {es : Array DictEntry} {ep : Nat}, s₁.heap.get? b = some o → o.data = .dict es ep → H b = none := fun {b o es ep} e d => by
    cases q : H b with
    | none => rfl
    | some u =>
      have e' : b = a := hA b (by rw [q]; simp)
      rw [e', ha] at e
      cases e
      have d : Data.seq vs.toArray _ = Data.dict es ep := d
      cases d
  have names : ∀ {b : Addr} {m : Str → Option Value}, s₁.heap.Ns b m → (hidT s₁.heap H).Ns b m := fun {b m} ⟨o, es, ep, e, d, r⟩ => ⟨o, es, ep, plain e (unseen e d), d, r⟩
  have own : K.In (hidT s₁.heap H) := fun b o e => plain (KX b o e) (by
    cases q : H b with
    | none => rfl
    | some u =>
      have e' : b = a := hA b (by rw [q]; simp)
      rw [e', hK (by rw [← e', q]; simp)] at e
      cases e)
  have md : Mod K mg (hidT s₁.heap H) := ⟨own, names hns, ⟨mb, names hb, hbb⟩, let ⟨mc, h1, h2⟩ := hlim; ⟨mc, names h1, h2⟩⟩
  have e0 : Env0 P w K mg (hidT s₁.heap H) callerA [] s₁ H := ⟨rfl, md, fun b o e => of_hidT e, Nat.le_of_eq (hidT_size _ _), trivial, fun b hb => absurd (show b ∈ ([] : List Addr) from hb) (by simp), hok, .of_eq hg⟩
  have rp : Rp K H (.ref a) (.list (ns.map PyData.int)) := .lst hS (by
    clear hF hS
    induction ns with
    | nil => exact .nil
    | cons n ns ih => exact .cons (.int n) ih)
  have sp : spF K mg 1 F [.ref a] H (fun v _ => v = .bl true) fun _ _ _ => False := ⟨rfl, H, _, .refl _, .val rp .nil, by simp [lentA], by
    rw [hF]
    exact fun v H' S' _ r => bool_rp r⟩
  refine codeAny_mono ((G _ own (names hns)).run callerA [] s₁ H ⟨[.ref a], []⟩ [.ref a] [.ref a] _ _ hr rfl e0 (hbind s₁ (.ref a)) (.cons rfl .nil) sp) fun r s' h => ?_
  cases r with
  | error e =>
    obtain ⟨_, _, _, _, _, _, _, _, _, _, _, _, z⟩ := (show L2.CX P w [] H s₁ (fun _ _ _ => False) e s' from h)
    exact z.elim
  | ok fl =>
    cases fl with
    | next => exact False.elim h
    | brk => exact False.elim h
    | cont => exact False.elim h
    | ret u =>
      obtain ⟨v, H', os, bare, un, hok', r', q⟩ := h
      have q : v = .bl true := q
      subst q
      obtain rfl : u = Value.bool true := r'
      refine ⟨rfl, .of_keep fun b o e => ?_, os, bare⟩
      cases q : H b with
      | none => exact un.keep b o e q (fun z => absurd (show b ∈ ([] : List Addr) from z) (by simp)) (by simp)
      | some u =>
        rcases hO b with z | ⟨ob, xs, z⟩
        · rw [q] at z; cases z
        · obtain ⟨e1, _⟩ := hok b _ z
          obtain ⟨e2, _⟩ := hok' b _ (un.frzs b ob _ z)
          rw [e] at e1; cases e1
          exact e2
theorem good {F : FnS} (KX : K.In s₁.heap) (hns : s₁.heap.Ns mainGlobals mg) (hb : s₁.heap.Ns builtinsNs mb) (hbb : ∀ x : Str, x ≠ "__name__" → mb x = bootBuiltins x) (hlim : s₁.heap.NoLimit) (hg : s₁.gens = #[])
    (ha : s₁.heap.get? a = some { cls := .type "list", data := .seq vs.toArray }) (hi : IntsAre vs ns) (hl : ns.length ≤ sizeLine) (hr : Room k callerA)
    (G : ∀ base : Heap, K.In base → base.Ns mainGlobals mg → FnG P w K mg base k fa fd [x] F) (hbind : ∀ (s : Shared) (u : Value), BindsTo s fd ⟨[u], []⟩ [(x, u)])
    (hF : F [.val (.list (ns.map PyData.int))] = .rt (.val (.bool true)) []) : codeAny (model P w) callerA (.call (.ref fa) ⟨[.ref a], []⟩) (Good s₁) s₁ := by
  have rv := vals_ints hi
  cases hk : K.lookup a with
  | some o =>
    have e := KX a o hk
    rw [ha] at e
    cases e
    have hz : vs.toArray.size ≤ sizeLine := by rw [List.size_toArray, hi.length]; exact hl
    exact good_of (H := fun _ => none) KX hns hb hbb hlim hg ha hr G hbind hF (fun _ => .inl rfl) (.inr ⟨_, vs.toArray, _, hk, rfl, rfl, rfl, hz, by simpa using rv⟩)
      (fun b u (z : (none : Option HO) = some u) => nomatch z) (fun b z => absurd rfl z) fun z => absurd rfl z
  | none =>
    have at' : ∀ b u, (if b = a then some (HO.frz { cls := .type "list", data := .seq vs.toArray } (.lst (ns.map V.int))) else none) = some u → b = a ∧ u = .frz { cls := .type "list", data := .seq vs.toArray } (.lst (ns.map V.int)) := fun b u z => by
      split at z
      · cases z; exact ⟨by assumption, rfl⟩
      · cases z
    refine good_of (H := fun b => if b = a then some (.frz { cls := .type "list", data := .seq vs.toArray } (.lst (ns.map V.int))) else none) KX hns hb hbb hlim hg ha hr G hbind hF (fun b => ?_) (.inl (.inr ⟨_, if_pos rfl⟩)) (fun b u z => ?_) (fun b z => ?_) fun _ => hk
    · by_cases hb : b = a
      · exact .inr ⟨_, _, if_pos hb⟩
      · exact .inl (if_neg hb)
    · obtain ⟨rfl, rfl⟩ := at' b u z
      exact ⟨ha, by rw [List.length_map]; exact hl, vs, _, rv, ha⟩
    · by_cases hb : b = a
      · exact hb
      · exact absurd (if_neg hb) z
/-- THE ROW, from the law's meaning -/
theorem walkG {l : PySem.W.OpenLaw} {n k : Nat} {q : Program} {loose : List Str} {XP : (Str → Option Value) → Heap → Prop} {YP : World → Heap → Prop} {d : DefRec} {K : Params → PySem.W.Frag} {F : FnS} {x : Str}
    (hn : l.most = some n) (hn2 : n ≤ sizeLine) (hdf : d.params.defaults = []) (hr : Room k callerA) (hY : ∀ (w : World) (h : Heap), YP w h → (K w.params).In h)
    (G : ∀ (w : World) (mg : Str → Option Value) (fa : Addr) (h : Heap), (K w.params).In h → h.Ns mainGlobals mg → mg d.name = some (.ref fa) →
      ∃ fd : FuncData, (∀ (s : Shared) (u : Value), BindsTo s fd ⟨[u], []⟩ [(x, u)]) ∧ ∀ base : Heap, (K w.params).In base → base.Ns mainGlobals mg → FnG l.prog w (K w.params) mg base k fa fd [x] F)
    (hF : ∀ ns : List Int, ns.length ≤ n → F [.val (.list (ns.map PyData.int))] = .rt (.val (.bool true)) []) : PySem.W.WalkO q loose XP YP l.row.toRowW d [] (fun f vs => PySem.call f vs) := by
  refine Att.attach_call hn hdf fun w s₀ s₁ mg mb fa o pm cd doc a vs ns R Y ho hd hcd hmg hobj hints hlen hg => ?_
  obtain ⟨fd, hb, hG⟩ := G w mg fa _ (hY w _ Y) R.T.g hmg
  exact good (hY w _ Y) R.T.g R.T.b R.T.builtins R.T.nolimit hg hobj hints (Nat.le_trans hlen hn2) hr hG hb (hF ns hlen)
end
end Ev

set_option Elab.async false
set_option linter.all false
set_option maxRecDepth 100000
set_option maxHeartbeats 1000000
/-! EvD: the forms that a printed derivation uses. -/
namespace Ev
open PySem PySem.Spec L2
theorem U {k : Nat} {A : Around} (r : Room k A) : A.units + 64 < cLine := by have := r.un; omega
theorem U1 {k : Nat} {A : Around} (r : Room k A) : A.units + 1 < cLine := by have := r.un; omega
theorem U5 {k : Nat} {A : Around} (r : Room k A) : A.units + 65 < cLine := by have := r.un; omega
/-- a def of the text, as the top leaves it -/
structure DefAt (K : PySem.W.Frag) (mg : Str → Option Value) (x : Str) (st : Stmt) (ps : List Str) : Prop where
  ex : ∃ f fd, mg x = some (.ref f) ∧ Fun K x x st f fd ∧ Binds K fd ps []
/-- a def that keeps the promise of F -/
structure HasD (P : Program) (w : World) (K : PySem.W.Frag) (mg : Str → Option Value) (base : Heap) (k : Nat) (x : Str) (ps : List Str) (F : FnS) : Prop where
  ex : ∃ f fd, mg x = some (.ref f) ∧ PySem.W.keepIn K (.ref f) = true ∧ Binds K fd ps [] ∧ FnG P w K mg base k f fd ps F ∧ ∃ oc od osl, K.lookup f = some ⟨oc, od, .func fd, osl⟩
section
variable {P : Program} {w : World} {K : PySem.W.Frag} {mg : Str → Option Value} {base : Heap}
theorem HasD.mono {x : Str} {ps : List Str} {F : FnS} {j k : Nat} (h : HasD P w K mg base j x ps F) (l : j ≤ k) : HasD P w K mg base k x ps F := let ⟨f, fd, h1, h2, h3, h4, h5⟩ := h.ex; ⟨f, fd, h1, h2, h3, h4.mono l, h5⟩
theorem hasD {x : Str} {st : Stmt} {N ps : List Str} {k : Nat} {g : Sm} (D : DefAt K mg x st ps) (Sc : FnScope N ps (defScope st))
    (hb : ∀ (f : Addr) (cdv : Value) (A : Around) (outer : List Env) (s : Shared) (H : Hp) (E : XK), Room k (A.deeper (PyProof.Rows.envOfC x (defScope st) s.heap.objs.size f cdv)) → A.guards = some [] →
      SSs (cxOf (L2.CX P w) P w K mg base N x (defScope st) f cdv A outer s H E) (fun cls d _ H => E cls d H) (defBody st) g) : HasD P w K mg base (k + 1) x ps (fnS N.length g) :=
  let ⟨f, fd, h1, h2, h3⟩ := D.ex
  ⟨f, fd, h1, h2.kp, h3, fnG_of h2 Sc (hb f), let ⟨oc, od, _, _, _, _, _, _, osl, _, lk, _⟩ := h2.ex; ⟨oc, od, osl, lk⟩⟩
theorem has_fn {x : Str} {ps : List Str} {F : FnS} {k : Nat} {f : Addr} {fd : FuncData} {oc : Value} {od : Option Addr} {osl : Array (Option Value)} (h : HasD P w K mg base k x ps F) (hm : mg x = some (.ref f)) (l : K.lookup f = some ⟨oc, od, .func fd, osl⟩) : FnG P w K mg base k f fd ps F := by
  obtain ⟨f', fd', h1, _, _, h4, _, _, _, h5⟩ := h.ex
  rw [hm] at h1; cases h1
  rw [l] at h5; cases h5
  exact h4
end
section
variable {X : Cx} {W : WX} {x : Str} {p pos : Pos} {e : Expr} {es : List Expr} {as : List Ag} {F F2 : FnS} {k j : Nat} {ps ps2 : List Str}
theorem sx_def (h : HasD X.prog X.w X.K X.mg X.base j x ps F) (l : j ≤ k) (hr : Room k X.A) (hgd : X.A.guards = some []) (tk : Takes X W) (ha : SAg X W (e :: es) as) (hg : Gl X x := by rfl) (hl : as.length = ps.length := by rfl) (nd : (lentOf as).Nodup := by decide) (hdb : (x == ("__debug__" : Str)) = false := by decide)
    (he : starEach (e :: es) X.env = (false, eval e X.env) :: starEach es X.env := by rfl) (hpl : (backTo pos (starEach es X.env)).any (·.1) = false := by rfl) : SX X W (.Call (.Name x p) (e :: es) [] pos) (calE F as) :=
  let ⟨_, _, h1, h2, h3, h4, _⟩ := (h.mono l).ex
  sx_call h4 hr hgd hg h1 h2 h3 tk ha hl nd hdb he hpl
theorem sx_def2 {y : Str} {py pl psb : Pos} {ix : Expr} {fi : Ex} (h : HasD X.prog X.w X.K X.mg X.base j x ps F) (h2 : HasD X.prog X.w X.K X.mg X.base j y ps2 F2) (l : j ≤ k) (hr : Room k X.A) (hgd : X.A.guards = some []) (tk : Takes X W) (hi : SX X W ix fi) (hp : PlainIx ix) (ha : SAg X W (e :: es) as)
    (hg : Gl X x := by rfl) (hg2 : Gl X y := by rfl) (hl : as.length = ps.length := by rfl) (hl2 : as.length = ps2.length := by rfl) (nd : (lentOf as).Nodup := by decide) (hdb : (x == ("__debug__" : Str)) = false := by decide) (hdb2 : (y == ("__debug__" : Str)) = false := by decide)
    (hs : starEach [.Name x p, .Name y py] X.env = (false, eval (.Name x p) X.env) :: starEach [.Name y py] X.env := by rfl) (hs2 : starEach [.Name y py] X.env = (false, eval (.Name y py) X.env) :: starEach [] X.env := by rfl)
    (he : starEach (e :: es) X.env = (false, eval e X.env) :: starEach es X.env := by rfl) (hpl : (backTo pos (starEach es X.env)).any (·.1) = false := by rfl)
    (hc : eval (.Call (.Subscript (.List [.Name x p, .Name y py] pl) ix psb) (e :: es) [] pos) X.env = (do callWith pos (← eval (.Subscript (.List [.Name x p, .Name y py] pl) ix psb) X.env) [] (backTo pos (starEach (e :: es) X.env)) (backToKw pos (keywordEach [] X.env))) := by rfl) :
    SX X W (.Call (.Subscript (.List [.Name x p, .Name y py] pl) ix psb) (e :: es) [] pos) (catE [F, F2] fi as) := by
  obtain ⟨f, fd, h1, k1, b1, g1, _⟩ := (h.mono l).ex
  obtain ⟨f2, fd2, h3, k2, b2, g2, _⟩ := (h2.mono l).ex
  exact sx_cat (fs := [f, f2]) (.cons ⟨_, fd, ps, g1, hr, k1, b1, hl.symm⟩ (.cons ⟨_, fd2, ps2, g2, hr, k2, b2, hl2.symm⟩ .nil)) hgd tk
    (pa_cons (pe_glob (v := .ref f) hg h1 rfl hdb) (pa_cons (pe_glob (v := .ref f2) hg2 h3 rfl hdb2) pa_nil hs2) hs) hi hp (show 2 ≤ sizeLine by decide) ha nd he hpl hc

/-! ### globals -/
theorem sx_gstr {s : Str} (h : ∃ t, X.mg x = some (.str s t)) (hg : Gl X x := by rfl) (hd : (x == ("__debug__" : Str)) = false := by decide) : SX X W (.Name x pos) (cst (.str s)) := let ⟨t, h⟩ := h; sx_glob (v := .str s) _ hg h ⟨t, rfl⟩ (fun _ => .str s) hd
theorem sx_gint {i : Int} (h : ∃ t, X.mg x = some (.int i t)) (hg : Gl X x := by rfl) (hd : (x == ("__debug__" : Str)) = false := by decide) : SX X W (.Name x pos) (cst (.int i)) := let ⟨t, h⟩ := h; sx_glob (v := .int i) _ hg h ⟨t, rfl⟩ (fun _ => .int i) hd
theorem sx_gval {d : D} (h : ∃ a, X.mg x = some (.ref a) ∧ ∀ S, Rp X.K S (.ref a) d) (hg : Gl X x := by rfl) (hd : (x == ("__debug__" : Str)) = false := by decide) : SX X W (.Name x pos) (cst d) := let ⟨a, h, hv⟩ := h; sx_glob (v := .ref a) _ hg h rfl hv hd
/-- a tuple of ints of the text -/
theorem rp_tupI {K : PySem.W.Frag} {a : Addr} {o : Obj} {its : List Value} {n : Nat} {ns : List Int} (h : K.lookup a = some o) (hc : o.cls = .type "tuple") (hd : o.data = .seq its.toArray n) (hz : its.length ≤ 1000) (hv : PyProof.Rows.IntsAre its ns) : ∀ S, Rp K S (.ref a) (.tuple (ns.map .int)) := fun S => by
  have r : RpA K S (ns.map V.int) (ns.map PyData.int) := by
    clear hv hd
    induction ns with
    | nil => exact .nil
    | cons n ns ih => exact .cons (.int n) ih
  exact .tup (.inr ⟨o, its.toArray, n, h, hc, hd, by rw [List.size_toArray]; exact Nat.le_trans hz (by decide), by simpa using vals_ints hv⟩) r

/-! ### own exceptions -/
structure ExcAt (K : PySem.W.Frag) (mg : Str → Option Value) (x : Str) : Prop where
  ex : ∃ C, mg x = some (.ref C) ∧ PySem.W.excIn K C [.type "ValueError", .type "Exception", .type "BaseException", .type "object"] "ValueError.__new__" = true ∧ PySem.W.keepIn K (.ref C) = true ∧ PySem.W.subIn K (.ref C) (.type "BaseException") = some true ∧ PySem.W.typeIn K (.ref C) = some (.type "type")
theorem ss_rai {m : Str} {j : Nat} {p2 pos' : Pos} (h : ExcAt X.K X.mg x) (hc : X.calm = true) (tk : Takes X W) (hg : Gl X x := by rfl) (hdb : (x == ("__debug__" : Str)) = false := by decide) : SS X W (.Raise (some (.Call (.Name x p) [.Constant (.str m) j p2] [] pos')) none pos) (raiS x) := by
  obtain ⟨C, h1, h2, h3, h4, h5⟩ := h.ex
  exact ss_raise hc tk (pmk_own PySem.F.excBase_ValueError h2 h1 h3 (raises_own h4 h5) hg hdb) (fun _ _ _ q => q) h1
theorem hs_cons {sub : Str → Str → Option Bool} {g : Sm} {b₀ : Stmt} {suite : List Stmt} {np pos' : Pos} {hds : List ExceptHandler} {l : List (Str × Sm)} (e : ExcAt X.K X.mg x) (hx : ∀ c cls C b, X.mg x = some (.ref C) → X.mg c = some cls → sub c x = some b → PySem.W.exmOne X.K cls (.ref C) = some b)
    (hsu : ∀ (a : Addr) (oe : Obj) (pn : List (Addr × Obj)), SSs (X.suite a ((a, oe) :: pn)) W (b₀ :: suite) g) (r : HsOk X W sub hds l) (hg : Gl X x := by rfl) (hd : (x == ("__debug__" : Str)) = false := by decide) : HsOk X W sub (.ExceptHandler (some (.Name x np)) none (b₀ :: suite) pos' :: hds) ((x, g) :: l) := by
  obtain ⟨C, h1, _⟩ := e.ex
  exact .cons ⟨hg, hd, .inl h1⟩ (fun c cls b hm hs => hx c cls C b h1 hm hs) hsu r
theorem exm_mk {K : PySem.W.Frag} {S C : Addr} {b : Bool} (h1 : PySem.W.subIn K (.ref C) (.type "BaseException") = some true) (h2 : PySem.W.isClsIn K C = true) (h3 : PySem.W.typeIn K (.ref C) = some (.type "type")) (h4 : PySem.W.subIn K (.ref S) (.ref C) = some b) : PySem.W.exmOne K (.ref S) (.ref C) = some b := by
  have e1 : (PySem.W.subIn K (.ref C) (.type "BaseException") == some true) = true := by rw [h1]; rfl
  have e2 : ((PySem.W.clsIn K C).isSome && PySem.W.typeIn K (.ref C) == some (.type "type")) = true := by
    have h2' : (PySem.W.clsIn K C).isSome = true := h2
    rw [h2', h3]; rfl
  show (if (PySem.W.subIn K (.ref C) (.type "BaseException") == some true) = true then (if ((PySem.W.clsIn K C).isSome && PySem.W.typeIn K (.ref C) == some (.type "type")) = true then PySem.W.subIn K (.ref S) (.ref C) else none) else none) = some b
  rw [if_pos e1, if_pos e2]
  exact h4
end
end Ev

set_option Elab.async false
set_option linter.all false
set_option maxRecDepth 100000
set_option maxHeartbeats 1000000
/-! EvE: meanings are reckoned. -/
namespace Ev
open PySem
/-! ### comprehensions whose turns leave the slots as they were -/
def lcTurn (vs : List Nat) (g : Tg) (t : Tt) (e : Ex) (x : D) (ρ : En) : Option (Option D × En) := match g x ρ with
  | none => none
  | some ρ => match t ρ with
    | .ok true ρ => match clo e ρ with
      | .ok y ρ => some (some y, wipeE ρ vs)
      | _ => none
    | .ok false ρ => some (none, wipeE ρ vs)
    | _ => none
theorem lcLoop_eq {vs : List Nat} {g : Tg} {t : Tt} {e : Ex} {x : D} {xs : List D} {ρ : En} {acc : List D} : lcLoop vs g t e (x :: xs) ρ acc = (match lcTurn vs g t e x ρ with
    | some (some y, ρ) => lcLoop vs g t e xs ρ (acc ++ [y])
    | some (none, ρ) => lcLoop vs g t e xs ρ acc
    | none => .bad) := by
  rw [lcLoop]
  unfold lcTurn
  cases g x ρ with
  | none => rfl
  | some ρ1 =>
    simp only
    cases t ρ1 with
    | ok b ρ2 =>
      cases b with
      | true =>
        simp only
        cases clo e ρ2 <;> rfl
      | false => rfl
    | exc c ρ2 => rfl
    | bad => rfl
theorem lcLoop_ok {vs : List Nat} {g : Tg} {t : Tt} {e : Ex} {ρ : En} (F : D → Option D) : ∀ {xs : List D} {acc : List D}, (∀ x ∈ xs, lcTurn vs g t e x ρ = some (F x, ρ)) → lcLoop vs g t e xs ρ acc = .ok (acc ++ xs.filterMap F) ρ
  | [], acc, _ => by simp [lcLoop]
  | x :: xs, acc, h => by
    rw [lcLoop_eq, h x List.mem_cons_self]
    have h' : ∀ x ∈ xs, lcTurn vs g t e x ρ = some (F x, ρ) := fun y hy => h y (List.mem_cons_of_mem _ hy)
    cases q : F x with
    | none => simp only; rw [lcLoop_ok F h', List.filterMap_cons, q]
    | some y => simp only; rw [lcLoop_ok F h', List.filterMap_cons, q, List.append_assoc]; rfl
theorem wipeE_length (ρ : En) (vs : List Nat) : (wipeE ρ vs).length = ρ.length := wipeE_len ρ vs
theorem back_wipe (ρ : En) : ∀ vs : List Nat, back ρ (wipeE ρ vs) vs = ρ := by
  have key : ∀ (vs us : List Nat), (∀ v ∈ us, v ∈ vs) → ∀ i, (back ρ (wipeE ρ vs) us)[i]? = if i ∈ us then ρ[i]? else (wipeE ρ vs)[i]? := by
    intro vs us
    induction us with
    | nil => intro _ i; simp [back]
    | cons u us ih =>
      intro h i
      have ih := ih (fun v hv => h v (List.mem_cons_of_mem _ hv)) i
      unfold back
      by_cases q : u = i
      · subst q
        rw [if_pos List.mem_cons_self]
        by_cases hl : u < ρ.length
        · rw [List.getElem?_set_self (by rw [back_len, wipeE_len]; exact hl), List.getD_eq_getElem?_getD, List.getElem?_eq_getElem hl]; rfl
        · rw [List.getElem?_eq_none (by rw [List.length_set, back_len, wipeE_len]; omega), List.getElem?_eq_none (by omega)]
      · rw [List.getElem?_set_ne q, ih]
        have : (i ∈ u :: us) ↔ i ∈ us := by rw [List.mem_cons]; exact ⟨fun z => z.resolve_left (fun y => q y.symm), .inr⟩
        by_cases hi : i ∈ us
        · rw [if_pos hi, if_pos (this.mpr hi)]
        · rw [if_neg hi, if_neg (fun z => hi (this.mp z))]
  intro vs
  apply List.ext_getElem?
  intro i
  rw [key vs vs (fun _ h => h) i]
  by_cases hi : i ∈ vs
  · rw [if_pos hi]
  · rw [if_neg hi]
    clear key
    induction vs with
    | nil => rfl
    | cons v vs ih =>
      unfold wipeE
      have h' : i ≠ v ∧ i ∉ vs := by simpa [not_or] using hi
      rw [List.getElem?_set_ne (fun z => h'.1 z.symm)]
      exact ih h'.2
theorem lcE_ok {vs : List Nat} {it : Itr} {g : Tg} {t : Tt} {e : Ex} {ρ ρ0 : En} {xs : List D} (F : D → Option D) (hi : it ρ = .ok xs ρ0) (mh : mayHide ρ0 vs = true) (hz : xs.length ≤ sizeLine) (h : ∀ x ∈ xs, lcTurn vs g t e x (wipeE ρ0 vs) = some (F x, wipeE ρ0 vs)) :
    lcE vs it g t e ρ = .ok (.frs (.list (xs.filterMap F))) ρ0 := by
  unfold lcE
  rw [hi]
  simp only [RE.bind_ok]
  rw [if_pos ⟨mh, hz⟩, lcLoop_ok F h]
  simp only [back_wipe, List.nil_append]
theorem filterMap_some {α β : Type} (f : α → β) (xs : List α) : xs.filterMap (fun x => some (f x)) = xs.map f := by
  induction xs with
  | nil => rfl
  | cons x xs ih => rw [List.filterMap_cons, ih]; rfl
theorem lcE_map {vs : List Nat} {it : Itr} {g : Tg} {t : Tt} {e : Ex} {ρ ρ0 : En} {xs : List D} (F : D → D) (hi : it ρ = .ok xs ρ0) (mh : mayHide ρ0 vs = true) (hz : xs.length ≤ sizeLine) (h : ∀ x ∈ xs, lcTurn vs g t e x (wipeE ρ0 vs) = some (some (F x), wipeE ρ0 vs)) :
    lcE vs it g t e ρ = .ok (.frs (.list (xs.map F))) ρ0 := by
  rw [lcE_ok (fun x => some (F x)) hi mh hz h, filterMap_some]
/-! ### plain facts -/
theorem boolsO_map (bs : List Bool) : boolsO (bs.map PyData.bool) = some bs := by
  induction bs with
  | nil => rfl
  | cons b bs ih => simp [boolsO, ih]
theorem canLay_ints (ns : List Int) : PyData.canLayAll0 (ns.map PyData.int) = true := by
  induction ns with
  | nil => simp [PyData.canLayAll0]
  | cons n ns ih => simp [PyData.canLayAll0, PyData.canLay0, ih]
theorem depth_ints (ns : List Int) : PyData.depthAll (ns.map PyData.int) = 0 := by
  induction ns with
  | nil => simp [PyData.depthAll]
  | cons n ns ih => simp [PyData.depthAll, PyData.depth, ih]
theorem canLay_bools (ns : List Bool) : PyData.canLayAll0 (ns.map PyData.bool) = true := by
  induction ns with
  | nil => simp [PyData.canLayAll0]
  | cons n ns ih => simp [PyData.canLayAll0, PyData.canLay0, ih]
theorem depth_bools (ns : List Bool) : PyData.depthAll (ns.map PyData.bool) = 0 := by
  induction ns with
  | nil => simp [PyData.depthAll]
  | cons n ns ih => simp [PyData.depthAll, PyData.depth, ih]
theorem shaped_ints (ns : List Int) : SeqAt.shaped (.list (ns.map PyData.int)) = true := by simp [SeqAt.shaped, PyData.canLay0, PyData.depth, canLay_ints, depth_ints]
theorem shaped_bools (ns : List Bool) : SeqAt.shaped (.list (ns.map PyData.bool)) = true := by simp [SeqAt.shaped, PyData.canLay0, PyData.depth, canLay_bools, depth_bools]
theorem shaped_int (n : Int) : SeqAt.shaped (.int n) = true := by simp [SeqAt.shaped, PyData.canLay0, PyData.depth]
theorem shaped_bool (n : Bool) : SeqAt.shaped (.bool n) = true := by simp [SeqAt.shaped, PyData.canLay0, PyData.depth]
theorem eqvAll_ints : ∀ (xs ys : List Int), PyData.eqvAll (xs.map PyData.int) (ys.map PyData.int) = decide (xs = ys)
  | [], [] => by simp [PyData.eqvAll]
  | [], _ :: _ => by simp [PyData.eqvAll]
  | _ :: _, [] => by simp [PyData.eqvAll]
  | x :: xs, y :: ys => by
    simp only [List.map_cons, PyData.eqvAll, PyData.eqv, eqvAll_ints xs ys]
    by_cases h : x = y <;> by_cases h2 : xs = ys <;> simp [h, h2]
theorem dNe_self {d : D} (h : SeqAt.shaped d = true) : dNe d d = some (.val (.bool false)) := by
  unfold dNe
  rw [if_pos (.inr ⟨h, h⟩), SeqAt.eqv_refl d (SeqAt.canLay_of_shaped h)]; rfl
theorem dNe_str {x : Str} : dNe (.str x) (.str x) = some (.val (.bool false)) := by
  unfold dNe
  rw [if_pos (.inl rfl)]
  simp [PyData.eqv]
theorem dEq_str (a b : Str) : dEq (.str a) (.str b) = some (.val (.bool (decide (a = b)))) := by
  unfold dEq
  rw [if_pos (.inl rfl)]
  simp only [PyData.eqv]
  congr 3
theorem dEq_int (i j : Int) : dEq (.int i) (.int j) = some (.val (.bool (decide (i = j)))) := by
  unfold dEq
  rw [if_pos (.inr ⟨shaped_int i, shaped_int j⟩)]
  simp only [PyData.eqv]
  congr 3
theorem rng_mem {lo hi : Int} {x : D} (h : x ∈ rng lo hi) : ∃ i : Int, x = .int i ∧ lo ≤ i ∧ i < hi := by
  unfold rng at h
  obtain ⟨n, hn, rfl⟩ := List.mem_map.mp h
  have := List.mem_range.mp hn
  exact ⟨_, rfl, by omega, by omega⟩
theorem rng_len (lo hi : Int) : (rng lo hi).length = (hi - lo).toNat := by simp [rng]
/-! ### the meanings, step by step -/
@[simp] theorem e_cst (d : D) (ρ : En) : cst d ρ = .ok (.val d) ρ := rfl
@[simp] theorem e_var (i : Nat) (ρ : En) : var i ρ = (match ρ[i]? with
  | some (.val d) => .ok (.val d) ρ
  | some (.own _) => .ok (.slot i) ρ
  | some (.byr _) => .ok (.slot i) ρ
  | _ => .bad) := rfl
@[simp] theorem e_clo (e : Ex) (ρ : En) : clo e ρ = (e ρ).bind close := rfl
@[simp] theorem e_close_val (d : D) (ρ : En) : close (.val d) ρ = .ok d ρ := rfl
@[simp] theorem e_close_frs (d : D) (ρ : En) : close (.frs d) ρ = .ok d ρ := rfl
@[simp] theorem e_close_slot (i : Nat) (ρ : En) : close (.slot i) ρ = (match ρ[i]? with
    | some (.own d) => .ok d (ρ.set i (.val d))
    | some (.val d) => .ok d ρ
    | _ => .bad) := rfl
def opnR (r : Rv) (ρ : En) : RE Rv := match r with
  | .frs d => .ok (.val d) ρ
  | r => .ok r ρ
@[simp] theorem e_opn (e : Ex) (ρ : En) : opn e ρ = (e ρ).bind opnR := rfl
@[simp] theorem e_opnR_val (d : D) (ρ : En) : opnR (.val d) ρ = .ok (.val d) ρ := rfl
@[simp] theorem e_opnR_frs (d : D) (ρ : En) : opnR (.frs d) ρ = .ok (.val d) ρ := rfl
@[simp] theorem e_opnR_slot (d : Nat) (ρ : En) : opnR (.slot d) ρ = .ok (.slot d) ρ := rfl
@[simp] theorem e_peek_val (d : D) (ρ : En) : peek ρ (.val d) = some d := rfl
@[simp] theorem e_peek_frs (d : D) (ρ : En) : peek ρ (.frs d) = some d := rfl
@[simp] theorem e_peek_slot (i : Nat) (ρ : En) : peek ρ (.slot i) = (match ρ[i]? with | some s => slD s | none => none) := rfl
@[simp] theorem e_slD_val (d : D) : slD (.val d) = some d := rfl
@[simp] theorem e_slD_own (d : D) : slD (.own d) = some d := rfl
@[simp] theorem e_slD_byr (d : D) : slD (.byr d) = some d := rfl
@[simp] theorem e_of_some {α : Type} (a : α) (ρ : En) : RE.of (some a) ρ = .ok a ρ := rfl
@[simp] theorem e_of_none {α : Type} (ρ : En) : (RE.of (none : Option α) ρ) = .bad := rfl
@[simp] theorem e_op1 (f : D → Option Rv) (e : Ex) (ρ : En) : op1 f e ρ = ((e ρ).bind opnR).bind fun r ρ => match peek ρ r with
  | some x => RE.of (f x) ρ
  | none => .bad := rfl
@[simp] theorem e_op2 (f : D → D → Option Rv) (a b : Ex) (ρ : En) : op2 f a b ρ = ((a ρ).bind opnR).bind fun r ρ => ((b ρ).bind opnR).bind fun q ρ => match peek ρ r, peek ρ q with
  | some x, some y => RE.of (f x y) ρ
  | _, _ => .bad := rfl
@[simp] theorem e_clos_nil (ρ : En) : clos [] ρ = .ok [] ρ := rfl
@[simp] theorem e_clos_cons (e : Ex) (es : List Ex) (ρ : En) : clos (e :: es) ρ = ((e ρ).bind close).bind fun d ρ => (clos es ρ).bind fun ds ρ => .ok (d :: ds) ρ := rfl
@[simp] theorem e_tupE (es : List Ex) (ρ : En) : tupE es ρ = (clos es ρ).bind fun ds ρ => .ok (.val (.tuple ds)) ρ := rfl
@[simp] theorem e_lstE (es : List Ex) (ρ : En) : lstE es ρ = (clos es ρ).bind fun ds ρ => .ok (.frs (.list ds)) ρ := rfl
@[simp] theorem e_newD (ρ : En) : newD ρ = .ok (.frs (.dict [])) ρ := rfl
@[simp] theorem e_iteE (t : Tt) (a b : Ex) (ρ : En) : iteE t a b ρ = (t ρ).bind fun c ρ => if c = true then a ρ else b ρ := rfl
def andR (b : Ex) (x : D) (ρ : En) : RE Rv := match x with
  | .bool true => b ρ
  | .bool false => .ok (.val (.bool false)) ρ
  | _ => .bad
@[simp] theorem e_andE (a b : Ex) (ρ : En) : andE a b ρ = ((a ρ).bind close).bind (andR b) := rfl
@[simp] theorem e_andR (b : Ex) (c : Bool) (ρ : En) : andR b (.bool c) ρ = if c = true then b ρ else .ok (.val (.bool false)) ρ := by cases c <;> rfl
def orR (b : Ex) (x : D) (ρ : En) : RE Rv := match x with
  | .bool true => .ok (.val (.bool true)) ρ
  | .bool false => b ρ
  | _ => .bad
@[simp] theorem e_orE (a b : Ex) (ρ : En) : orE a b ρ = ((a ρ).bind close).bind (orR b) := rfl
@[simp] theorem e_orR (b : Ex) (c : Bool) (ρ : En) : orR b (.bool c) ρ = if c = true then .ok (.val (.bool true)) ρ else b ρ := by cases c <;> rfl
@[simp] theorem e_notE (a : Ex) (ρ : En) : notE a ρ = ((a ρ).bind close).bind fun x ρ => match x with
  | .bool c => .ok (.val (.bool (!c))) ρ
  | _ => .bad := rfl
def chnR (g : D → D → Option Rv) (c : Ex) (q : Rv) (o : Option Rv) (ρ : En) : RE Rv := match o with
    | some (.val (.bool true)) => ((c ρ).bind opnR).bind fun u ρ => match peek ρ q, peek ρ u with
      | some y, some z => RE.of (g y z) ρ
      | _, _ => .bad
    | some (.val (.bool false)) => .ok (.val (.bool false)) ρ
    | _ => .bad
@[simp] theorem e_chnE (f g : D → D → Option Rv) (a b c : Ex) (ρ : En) : chnE f g a b c ρ = ((a ρ).bind opnR).bind fun r ρ => ((b ρ).bind opnR).bind fun q ρ => match peek ρ r, peek ρ q with
  | some x, some y => chnR g c q (f x y) ρ
  | _, _ => .bad := rfl
@[simp] theorem e_chnR (g : D → D → Option Rv) (c : Ex) (q : Rv) (b : Bool) (ρ : En) : chnR g c q (some (.val (.bool b))) ρ = if b = true then (((c ρ).bind opnR).bind fun u ρ => match peek ρ q, peek ρ u with
      | some y, some z => RE.of (g y z) ρ
      | _, _ => .bad) else .ok (.val (.bool false)) ρ := by cases b <;> rfl
@[simp] theorem e_truT (e : Ex) (ρ : En) : truT e ρ = ((e ρ).bind opnR).bind fun r ρ => match peek ρ r with
  | some x => RE.of (truD x) ρ
  | none => .bad := rfl
@[simp] theorem e_truD_bool (b : Bool) : truD (.bool b) = some b := rfl
@[simp] theorem e_blT (e : Ex) (ρ : En) : blT e ρ = ((e ρ).bind close).bind fun d ρ => match d with
  | .bool b => .ok b ρ
  | _ => .bad := rfl
@[simp] theorem e_andT (a b : Tt) (ρ : En) : andT a b ρ = (a ρ).bind fun c ρ => if c = true then b ρ else .ok false ρ := rfl
@[simp] theorem e_orT (a b : Tt) (ρ : En) : orT a b ρ = (a ρ).bind fun c ρ => if c = true then .ok true ρ else b ρ := rfl
@[simp] theorem e_notT (a : Tt) (ρ : En) : notT a ρ = (a ρ).bind fun c ρ => .ok (!c) ρ := rfl
@[simp] theorem e_yesT (ρ : En) : yesT ρ = .ok true ρ := rfl
@[simp] theorem e_itSeq (e : Ex) (ρ : En) : itSeq e ρ = ((e ρ).bind close).bind fun d ρ => match d with
  | .list xs => .ok xs ρ
  | .tuple xs => .ok xs ρ
  | _ => .bad := rfl
@[simp] theorem e_stI (i : Nat) (d : D) (ρ : En) : stI i d ρ = some (ρ.set i (.val d)) := rfl
@[simp] theorem e_stAll_nil (ρ : En) : stAll [] [] ρ = some ρ := rfl
@[simp] theorem e_stAll_cons (t : Tg) (ts : List Tg) (d : D) (ds : List D) (ρ : En) : stAll (t :: ts) (d :: ds) ρ = (match t d ρ with | some ρ => stAll ts ds ρ | none => none) := rfl
@[simp] theorem e_stT_tup (ts : List Tg) (ds : List D) (ρ : En) : stT ts (.tuple ds) ρ = stAll ts ds ρ := rfl
@[simp] theorem e_stT_lst (ts : List Tg) (ds : List D) (ρ : En) : stT ts (.list ds) ρ = stAll ts ds ρ := rfl
@[simp] theorem e_seqS_nil (ρ : En) : seqS [] ρ = .nx ρ := rfl
def nxt (s : RS) (r : Sm) : RS := match s with
  | .nx ρ => r ρ
  | x => x
@[simp] theorem nxt_nx (ρ : En) (r : Sm) : nxt (.nx ρ) r = r ρ := rfl
@[simp] theorem nxt_rt (v : Rv) (ρ : En) (r : Sm) : nxt (.rt v ρ) r = .rt v ρ := rfl
@[simp] theorem nxt_exc (v : Str) (ρ : En) (r : Sm) : nxt (.exc v ρ) r = .exc v ρ := rfl
@[simp] theorem e_seqS_cons (s : Sm) (r : List Sm) (ρ : En) : seqS (s :: r) ρ = nxt (s ρ) (seqS r) := by
  rw [seqS]; unfold nxt; cases s ρ <;> rfl
@[simp] theorem nxt_ite {c : Prop} [Decidable c] (a b : RS) (r : Sm) : nxt (if c then a else b) r = if c then nxt a r else nxt b r := by split <;> rfl
@[simp] theorem e_setS (i : Nat) (e : Ex) (ρ : En) : setS i e ρ = (e ρ).go fun r ρ => match r with
  | .val d => .nx (ρ.set i (.val d))
  | .frs d => .nx (ρ.set i (.own d))
  | .slot j => match close (.slot j) ρ with
    | .ok d ρ => .nx (ρ.set i (.val d))
    | _ => .bad := rfl
@[simp] theorem e_asgS (g : Tg) (e : Ex) (ρ : En) : asgS g e ρ = ((e ρ).bind close).go fun d ρ => match g d ρ with
  | some ρ => .nx ρ
  | none => .bad := rfl
@[simp] theorem e_expS (e : Ex) (ρ : En) : expS e ρ = (e ρ).go fun _ ρ => .nx ρ := rfl
@[simp] theorem e_retS (e : Ex) (ρ : En) : retS e ρ = (e ρ).go fun r ρ => .rt r ρ := rfl
@[simp] theorem e_ifS (t : Tt) (a b : Sm) (ρ : En) : ifS t a b ρ = (t ρ).go fun c ρ => if c = true then a ρ else b ρ := rfl
@[simp] theorem e_raiS (c : Str) (ρ : En) : raiS c ρ = .exc c ρ := rfl
@[simp] theorem e_args1_nil (ρ : En) : args1 [] ρ = .ok [] ρ := rfl
@[simp] theorem e_args1_v (e : Ex) (as : List Ag) (ρ : En) : args1 (.v e :: as) ρ = ((e ρ).bind close).bind fun d ρ => (args1 as ρ).bind fun ds ρ => .ok (.inl d :: ds) ρ := rfl
@[simp] theorem e_args1_r (i : Nat) (as : List Ag) (ρ : En) : args1 (.r i :: as) ρ = (match ρ[i]? with
    | some .no => .bad
    | none => .bad
    | _ => (args1 as ρ).bind fun ds ρ => .ok (.inr i :: ds) ρ) := rfl
@[simp] theorem e_lend_nil (ρ : En) : lend ρ [] = some [] := rfl
@[simp] theorem e_lend_inl (ρ : En) (d : D) (as : List (D ⊕ Nat)) : lend ρ (.inl d :: as) = (match lend ρ as with
    | some r => some (.val d :: r)
    | none => none) := rfl
@[simp] theorem e_lend_inr (ρ : En) (i : Nat) (as : List (D ⊕ Nat)) : lend ρ (.inr i :: as) = (match ρ[i]?, lend ρ as with
    | some (.own d), some r => some (.byr d :: r)
    | some (.byr d), some r => some (.byr d :: r)
    | _, _ => none) := rfl
/-- what follows a call -/
def calR (xs : List (D ⊕ Nat)) (ρ : En) (r : RF) : RE Rv := match r with
  | .rt r outs => match giveBack ρ xs outs with
    | some ρ => .ok r ρ
    | none => .bad
  | .exc c outs => match giveBack ρ xs outs with
    | some ρ => .exc c ρ
    | none => .bad
  | .bad => .bad
@[simp] theorem e_calE (F : FnS) (as : List Ag) (ρ : En) : calE F as ρ = (args1 as ρ).bind fun xs ρ => match lend ρ xs with
  | none => .bad
  | some ss => calR xs ρ (F ss) := rfl
@[simp] theorem e_calR_rt (xs : List (D ⊕ Nat)) (ρ : En) (r : Rv) (outs : List D) : calR xs ρ (.rt r outs) = (match giveBack ρ xs outs with
    | some ρ => .ok r ρ
    | none => .bad) := rfl
@[simp] theorem e_calR_exc (xs : List (D ⊕ Nat)) (ρ : En) (c : Str) (outs : List D) : calR xs ρ (.exc c outs) = (match giveBack ρ xs outs with
    | some ρ => .exc c ρ
    | none => .bad) := rfl
@[simp] theorem e_give_nil (ρ : En) : giveBack ρ [] [] = some ρ := rfl
@[simp] theorem e_give_inl (ρ : En) (d : D) (as : List (D ⊕ Nat)) (ds : List D) : giveBack ρ (.inl d :: as) ds = giveBack ρ as ds := by rw [giveBack]
@[simp] theorem e_give_inr (ρ : En) (i : Nat) (as : List (D ⊕ Nat)) (d : D) (ds : List D) : giveBack ρ (.inr i :: as) (d :: ds) = (match ρ[i]? with
    | some (.own _) => giveBack (ρ.set i (.own d)) as ds
    | some (.byr _) => giveBack (ρ.set i (.byr d)) as ds
    | _ => none) := rfl
@[simp] theorem e_outs_nil (ρ : En) : outsOf [] ρ = some [] := by rw [outsOf]
@[simp] theorem e_outs_byr (d d' : D) (as : List Sl) (ρ : En) : outsOf (.byr d :: as) (.byr d' :: ρ) = (match outsOf as ρ with
    | some r => some (d' :: r)
    | none => none) := by rw [outsOf] <;> (cases outsOf as ρ <;> rfl)
@[simp] theorem e_outs_val (d : D) (s : Sl) (as : List Sl) (ρ : En) : outsOf (.val d :: as) (s :: ρ) = outsOf as ρ := by rw [outsOf] <;> (intros; simp_all)
/-- a def's end -/
def fnR (as : List Sl) (r : RS) : RF := match r with
  | .rt r ρ => match backR r ρ, outsOf as ρ with
    | some r, some o => .rt r o
    | _, _ => .bad
  | .nx ρ => match outsOf as ρ with
    | some o => .rt (.val .none) o
    | none => .bad
  | .exc c ρ => match outsOf as ρ with
    | some o => .exc c o
    | none => .bad
  | _ => .bad
@[simp] theorem e_fnS (n : Nat) (b : Sm) (as : List Sl) : fnS n b as = fnR as (b (as ++ List.replicate (n - as.length) .no)) := rfl
@[simp] theorem e_fnR_rt (as : List Sl) (r : Rv) (ρ : En) : fnR as (.rt r ρ) = (match backR r ρ, outsOf as ρ with
    | some r, some o => .rt r o
    | _, _ => .bad) := rfl
@[simp] theorem e_fnR_nx (as : List Sl) (ρ : En) : fnR as (.nx ρ) = (match outsOf as ρ with
    | some o => .rt (.val .none) o
    | none => .bad) := rfl
@[simp] theorem e_fnR_exc (as : List Sl) (c : Str) (ρ : En) : fnR as (.exc c ρ) = (match outsOf as ρ with
    | some o => .exc c o
    | none => .bad) := rfl
@[simp] theorem e_fnR_ite {c : Prop} [Decidable c] (as : List Sl) (a b : RS) : fnR as (if c then a else b) = if c then fnR as a else fnR as b := by split <;> rfl
@[simp] theorem e_back_val (d : D) (ρ : En) : backR (.val d) ρ = some (.val d) := rfl
@[simp] theorem e_back_frs (d : D) (ρ : En) : backR (.frs d) ρ = some (.frs d) := rfl
@[simp] theorem e_back_slot (i : Nat) (ρ : En) : backR (.slot i) ρ = (match ρ[i]? with
    | some (.own d) => some (.frs d)
    | some (.val d) => some (.val d)
    | _ => none) := rfl
@[simp] theorem e_bind_ite {α β : Type} {c : Prop} [Decidable c] (a b : RE α) (k : α → En → RE β) : (if c then a else b).bind k = if c then a.bind k else b.bind k := by split <;> rfl
@[simp] theorem e_go_ite {α : Type} {c : Prop} [Decidable c] (a b : RE α) (k : α → En → RS) : (if c then a else b).go k = if c then a.go k else b.go k := by split <;> rfl
@[simp] theorem e_wipe_nil (ρ : En) : wipeE ρ [] = ρ := rfl
@[simp] theorem e_wipe_cons (ρ : En) (v : Nat) (vs : List Nat) : wipeE ρ (v :: vs) = (wipeE ρ vs).set v .no := rfl
/-! data -/
@[simp] theorem e_isi_none (T : String) : dIsi T .none = (L2.kitB "NoneType" T).map fun b => .val (.bool b) := rfl
@[simp] theorem e_isi_bool (T : String) (x) : dIsi T (.bool x) = (L2.kitB "bool" T).map fun b => .val (.bool b) := rfl
@[simp] theorem e_isi_int (T : String) (x) : dIsi T (.int x) = (L2.kitB "int" T).map fun b => .val (.bool b) := rfl
@[simp] theorem e_isi_str (T : String) (x) : dIsi T (.str x) = (L2.kitB "str" T).map fun b => .val (.bool b) := rfl
@[simp] theorem e_isi_list (T : String) (x) : dIsi T (.list x) = (L2.kitB "list" T).map fun b => .val (.bool b) := rfl
@[simp] theorem e_isi_tuple (T : String) (x) : dIsi T (.tuple x) = (L2.kitB "tuple" T).map fun b => .val (.bool b) := rfl
@[simp] theorem kit_NoneType_bool : L2.kitB "NoneType" "bool" = some false := by decide +kernel
@[simp] theorem kit_NoneType_int : L2.kitB "NoneType" "int" = some false := by decide +kernel
@[simp] theorem kit_NoneType_str : L2.kitB "NoneType" "str" = some false := by decide +kernel
@[simp] theorem kit_NoneType_list : L2.kitB "NoneType" "list" = some false := by decide +kernel
@[simp] theorem kit_NoneType_tuple : L2.kitB "NoneType" "tuple" = some false := by decide +kernel
@[simp] theorem kit_NoneType_dict : L2.kitB "NoneType" "dict" = some false := by decide +kernel
@[simp] theorem kit_bool_bool : L2.kitB "bool" "bool" = some true := by decide +kernel
@[simp] theorem kit_bool_int : L2.kitB "bool" "int" = some true := by decide +kernel
@[simp] theorem kit_bool_str : L2.kitB "bool" "str" = some false := by decide +kernel
@[simp] theorem kit_bool_list : L2.kitB "bool" "list" = some false := by decide +kernel
@[simp] theorem kit_bool_tuple : L2.kitB "bool" "tuple" = some false := by decide +kernel
@[simp] theorem kit_bool_dict : L2.kitB "bool" "dict" = some false := by decide +kernel
@[simp] theorem kit_int_bool : L2.kitB "int" "bool" = some false := by decide +kernel
@[simp] theorem kit_int_int : L2.kitB "int" "int" = some true := by decide +kernel
@[simp] theorem kit_int_str : L2.kitB "int" "str" = some false := by decide +kernel
@[simp] theorem kit_int_list : L2.kitB "int" "list" = some false := by decide +kernel
@[simp] theorem kit_int_tuple : L2.kitB "int" "tuple" = some false := by decide +kernel
@[simp] theorem kit_int_dict : L2.kitB "int" "dict" = some false := by decide +kernel
@[simp] theorem kit_str_bool : L2.kitB "str" "bool" = some false := by decide +kernel
@[simp] theorem kit_str_int : L2.kitB "str" "int" = some false := by decide +kernel
@[simp] theorem kit_str_str : L2.kitB "str" "str" = some true := by decide +kernel
@[simp] theorem kit_str_list : L2.kitB "str" "list" = some false := by decide +kernel
@[simp] theorem kit_str_tuple : L2.kitB "str" "tuple" = some false := by decide +kernel
@[simp] theorem kit_str_dict : L2.kitB "str" "dict" = some false := by decide +kernel
@[simp] theorem kit_list_bool : L2.kitB "list" "bool" = some false := by decide +kernel
@[simp] theorem kit_list_int : L2.kitB "list" "int" = some false := by decide +kernel
@[simp] theorem kit_list_str : L2.kitB "list" "str" = some false := by decide +kernel
@[simp] theorem kit_list_list : L2.kitB "list" "list" = some true := by decide +kernel
@[simp] theorem kit_list_tuple : L2.kitB "list" "tuple" = some false := by decide +kernel
@[simp] theorem kit_list_dict : L2.kitB "list" "dict" = some false := by decide +kernel
@[simp] theorem kit_tuple_bool : L2.kitB "tuple" "bool" = some false := by decide +kernel
@[simp] theorem kit_tuple_int : L2.kitB "tuple" "int" = some false := by decide +kernel
@[simp] theorem kit_tuple_str : L2.kitB "tuple" "str" = some false := by decide +kernel
@[simp] theorem kit_tuple_list : L2.kitB "tuple" "list" = some false := by decide +kernel
@[simp] theorem kit_tuple_tuple : L2.kitB "tuple" "tuple" = some true := by decide +kernel
@[simp] theorem kit_tuple_dict : L2.kitB "tuple" "dict" = some false := by decide +kernel
@[simp] theorem kit_dict_bool : L2.kitB "dict" "bool" = some false := by decide +kernel
@[simp] theorem kit_dict_int : L2.kitB "dict" "int" = some false := by decide +kernel
@[simp] theorem kit_dict_str : L2.kitB "dict" "str" = some false := by decide +kernel
@[simp] theorem kit_dict_list : L2.kitB "dict" "list" = some false := by decide +kernel
@[simp] theorem kit_dict_tuple : L2.kitB "dict" "tuple" = some false := by decide +kernel
@[simp] theorem kit_dict_dict : L2.kitB "dict" "dict" = some true := by decide +kernel
@[simp] theorem e_len_list (xs : List D) : dLen (.list xs) = some (.val (.int xs.length)) := rfl
@[simp] theorem e_len_tuple (xs : List D) : dLen (.tuple xs) = some (.val (.int xs.length)) := rfl
@[simp] theorem e_int (i : Int) : dIntOf (.int i) = some (.val (.int i)) := rfl
@[simp] theorem e_add_int (i j : Int) : dAdd (.int i) (.int j) = some (.val (.int (i + j))) := rfl
@[simp] theorem e_sub_int (i j : Int) : dSub (.int i) (.int j) = some (.val (.int (i - j))) := by simp [dSub, dInt]
@[simp] theorem e_le_int (i j : Int) : dLe (.int i) (.int j) = some (.val (.bool (decide (i ≤ j)))) := rfl
@[simp] theorem e_lt_int (i j : Int) : dLt (.int i) (.int j) = some (.val (.bool (decide (i < j)))) := rfl
@[simp] theorem e_gt_int (i j : Int) : dGt (.int i) (.int j) = some (.val (.bool (decide (j < i)))) := rfl
@[simp] theorem e_ge_int (i j : Int) : dGe (.int i) (.int j) = some (.val (.bool (decide (j ≤ i)))) := rfl
@[simp] theorem e_eq_int (i j : Int) : dEq (.int i) (.int j) = some (.val (.bool (decide (i = j)))) := dEq_int i j
@[simp] theorem e_ne_int (i j : Int) : dNe (.int i) (.int j) = some (.val (.bool (!decide (i = j)))) := by
  unfold dNe
  rw [if_pos (.inr ⟨shaped_int i, shaped_int j⟩)]
  simp only [PyData.eqv]
  congr 3
theorem mod_pos {i j : Int} (h : 0 < j) : dMod (.int i) (.int j) = some (.val (.int (i % j))) := by simp [dMod, dInt, h]
@[simp] theorem e_idx_list (xs : List D) (i : Int) : dIdx (.list xs) (.int i) = (L2.atI xs i).map .val := rfl
@[simp] theorem e_idx_tuple (xs : List D) (i : Int) : dIdx (.tuple xs) (.int i) = (L2.atI xs i).map .val := rfl
@[simp] theorem e_at_0 {α : Type} (x : α) (xs : List α) : L2.atI (x :: xs) 0 = some x := by
  unfold L2.atI L2.ixN
  rw [if_pos (by omega), if_pos (by simp only [List.length_cons]; omega)]; rfl
@[simp] theorem e_at_1 {α : Type} (x y : α) (xs : List α) : L2.atI (x :: y :: xs) 1 = some y := by
  unfold L2.atI L2.ixN
  rw [if_pos (by omega), if_pos (by simp only [List.length_cons]; omega)]; rfl
@[simp] theorem e_at_2 {α : Type} (x y z : α) (xs : List α) : L2.atI (x :: y :: z :: xs) 2 = some z := by
  unfold L2.atI L2.ixN
  rw [if_pos (by omega), if_pos (by simp only [List.length_cons]; omega)]; rfl
@[simp] theorem e_at_3 {α : Type} (x y z w : α) (xs : List α) : L2.atI (x :: y :: z :: w :: xs) 3 = some w := by
  unfold L2.atI L2.ixN
  rw [if_pos (by omega), if_pos (by simp only [List.length_cons]; omega)]; rfl
@[simp] theorem e_all (bs : List Bool) : dAll (.list (bs.map PyData.bool)) = some (.val (.bool (bs.all fun b => b))) := by
  unfold dAll
  simp only [boolsO_map]
theorem boolsO_mapF {α : Type} (p : α → Bool) (xs : List α) : boolsO (xs.map fun x => PyData.bool (p x)) = some (xs.map p) := by
  induction xs with
  | nil => rfl
  | cons x xs ih => simp [boolsO, ih]
@[simp] theorem e_all_map {α : Type} (p : α → Bool) (xs : List α) : dAll (.list (xs.map fun x => PyData.bool (p x))) = some (.val (.bool (xs.all p))) := by
  unfold dAll
  simp only [boolsO_mapF, List.all_map]
  rfl
/-! ### slices, methods, loops -/
@[simp] theorem e_prt_none (ρ : En) : prtE none ρ = .ok none ρ := rfl
def prtR (d : D) (ρ : En) : RE (Option Int) := match d with
    | .int i => .ok (some i) ρ
    | _ => .bad
@[simp] theorem e_prt_some (f : Ex) (ρ : En) : prtE (some f) ρ = ((f ρ).bind close).bind prtR := rfl
@[simp] theorem e_prtR (i : Int) (ρ : En) : prtR (.int i) ρ = .ok (some i) ρ := rfl
@[simp] theorem e_slE (a : Ex) (lo hi : Option Ex) (ρ : En) : slE a lo hi ρ = ((a ρ).bind opnR).bind fun r ρ => (prtE lo ρ).bind fun l ρ => (prtE hi ρ).bind fun u ρ => match peek ρ r with
  | some d => RE.of (dSl d l u) ρ
  | none => .bad := rfl
@[simp] theorem e_sl_t31 (x y z : D) : dSl (.tuple [x, y, z]) (some 1) none = some (.val (.tuple [y, z])) := rfl
@[simp] theorem e_hdl (ρ : En) (i : Nat) : hdl ρ i = (match ρ[i]? with
  | some (.own d) => some d
  | some (.byr d) => some d
  | _ => none) := rfl
@[simp] theorem e_wrt (ρ : En) (i : Nat) (d : D) : wrt ρ i d = (match ρ[i]? with
  | some (.own _) => ρ.set i (.own d)
  | some (.byr _) => ρ.set i (.byr d)
  | _ => ρ) := rfl
@[simp] theorem e_isV (ρ : En) (i : Nat) : isV ρ i = (match ρ[i]? with
  | some .no => false
  | none => false
  | _ => true) := rfl
@[simp] theorem e_appE (i : Nat) (e : Ex) (ρ : En) : appE i e ρ = (match hdl ρ i with
  | some (.list _) => ((e ρ).bind close).bind fun y ρ => match hdl ρ i with
    | some (.list xs) => if xs.length < sizeLine then .ok (.val .none) (wrt ρ i (.list (xs ++ [y]))) else .bad
    | _ => .bad
  | _ => .bad) := rfl
@[simp] theorem e_popE (i : Nat) (ρ : En) : popE i ρ = (match hdl ρ i with
  | some (.list xs) => match xs[xs.length - 1]? with
    | some y => .ok (.val y) (wrt ρ i (.list xs.dropLast))
    | none => .bad
  | _ => .bad) := rfl
@[simp] theorem e_putS (i : Nat) (k e : Ex) (ρ : En) : putS i k e ρ = ((e ρ).bind close).go fun v ρ => if isV ρ i = true then
    ((k ρ).bind close).go fun kd ρ => match hdl ρ i with
      | some d => match putD d kd v with
        | some d => .nx (wrt ρ i d)
        | none => .bad
      | none => .bad
  else .bad := rfl
@[simp] theorem e_forS (g : Tg) (it : Itr) (b : Sm) (ρ : En) : forS g it b ρ = (it ρ).go fun xs ρ => forLoop g b xs ρ := rfl
@[simp] theorem e_forD (g : Tg) (it : Itr) (b : Sm) (ρ : En) : forD g it b ρ = (it ρ).go fun xs ρ => lkS (forLoop g b xs ρ) := rfl
@[simp] theorem e_lkS_nx (ρ : En) : lkS (.nx ρ) = .nx ρ := rfl
@[simp] theorem e_for_nil (g : Tg) (b : Sm) (ρ : En) : forLoop g b [] ρ = .nx ρ := rfl
/-- what follows a turn -/
def turnR (g : Tg) (b : Sm) (xs : List D) (r : RS) : RS := match r with
      | .nx ρ => forLoop g b xs ρ
      | .ct ρ => forLoop g b xs ρ
      | .bk ρ => .nx ρ
      | r => r
theorem e_for_cons (g : Tg) (b : Sm) (x : D) (xs : List D) (ρ : En) : forLoop g b (x :: xs) ρ = (match g x ρ with
    | none => .bad
    | some ρ => turnR g b xs (b ρ)) := by
  rw [forLoop]
  cases g x ρ with
  | none => rfl
  | some ρ1 => simp only; cases b ρ1 <;> rfl
@[simp] theorem turnR_nx (g : Tg) (b : Sm) (xs : List D) (ρ : En) : turnR g b xs (.nx ρ) = forLoop g b xs ρ := rfl
@[simp] theorem turnR_rt (g : Tg) (b : Sm) (xs : List D) (v : Rv) (ρ : En) : turnR g b xs (.rt v ρ) = .rt v ρ := rfl
@[simp] theorem turnR_ite {c : Prop} [Decidable c] (g : Tg) (b : Sm) (xs : List D) (r s : RS) : turnR g b xs (if c then r else s) = if c then turnR g b xs r else turnR g b xs s := by split <;> rfl
@[simp] theorem e_rng1 (e : Ex) (ρ : En) : itRng1 e ρ = ((e ρ).bind close).bind fun d ρ => match d with
  | .int n => if inR n = true then .ok (rng 0 n) ρ else .bad
  | _ => .bad := rfl
@[simp] theorem e_rng2 (a b : Ex) (ρ : En) : itRng2 a b ρ = ((a ρ).bind close).bind fun x ρ => ((b ρ).bind close).bind fun y ρ => match x, y with
  | .int i, .int j => if (inR i && inR j) = true then .ok (rng i j) ρ else .bad
  | _, _ => .bad := rfl
theorem inR_ok {i : Int} (h : -1000000 ≤ i ∧ i ≤ 1000000) : inR i = true := by unfold inR; exact decide_eq_true (by omega)
@[simp] theorem e_tupOf_list (ds : List D) : dTupOf (.list ds) = some (.val (.tuple ds)) := rfl
@[simp] theorem e_itms_nil (ρ : En) : itmsE [] ρ = .ok [] ρ := rfl
@[simp] theorem e_itms_one (e : Ex) (es : List Itm) (ρ : En) : itmsE (.one e :: es) ρ = ((e ρ).bind close).bind fun d ρ => (itmsE es ρ).bind fun ds ρ => .ok (d :: ds) ρ := rfl
@[simp] theorem e_itms_all (e : Ex) (es : List Itm) (ρ : En) : itmsE (.all e :: es) ρ = ((e ρ).bind close).bind fun d ρ => match d with
    | .tuple xs => (itmsE es ρ).bind fun ds ρ => .ok (xs ++ ds) ρ
    | .list xs => (itmsE es ρ).bind fun ds ρ => .ok (xs ++ ds) ρ
    | _ => .bad := rfl
@[simp] theorem e_tupS (es : List Itm) (ρ : En) : tupS es ρ = (itmsE es ρ).bind fun ds ρ => if ds.length ≤ sizeLine then .ok (.val (.tuple ds)) ρ else .bad := rfl
theorem small_line {n : Nat} (h : n ≤ 1000) : n ≤ sizeLine := Nat.le_trans h (by decide)
theorem small_lt {n : Nat} (h : n ≤ 1000) : n < sizeLine := Nat.lt_of_le_of_lt h (by decide)
theorem dEq_t2 (a b c d : Int) : dEq (.tuple [.int a, .int b]) (.tuple [.int c, .int d]) = some (.val (.bool (decide (a = c ∧ b = d)))) := by
  unfold dEq
  rw [if_pos (.inr ⟨by simp [SeqAt.shaped, PyData.canLay0, PyData.canLayAll0, PyData.depth, PyData.depthAll], by simp [SeqAt.shaped, PyData.canLay0, PyData.canLayAll0, PyData.depth, PyData.depthAll]⟩)]
  simp only [PyData.eqv, PyData.eqvAll, Bool.and_true]
  congr 3
  rw [Bool.decide_and]; rfl
theorem dNe_t2 (a b c d : Int) : dNe (.tuple [.int a, .int b]) (.tuple [.int c, .int d]) = some (.val (.bool (!decide (a = c ∧ b = d)))) := by
  unfold dNe
  rw [if_pos (.inr ⟨by simp [SeqAt.shaped, PyData.canLay0, PyData.canLayAll0, PyData.depth, PyData.depthAll], by simp [SeqAt.shaped, PyData.canLay0, PyData.canLayAll0, PyData.depth, PyData.depthAll]⟩)]
  simp only [PyData.eqv, PyData.eqvAll, Bool.and_true]
  congr 4
  rw [Bool.decide_and]; rfl
theorem mul_small {i j : Int} (h : -1000000 ≤ i ∧ i ≤ 1000000) : dMul (.int i) (.int j) = some (.val (.int (i * j))) := by
  unfold dMul dInt
  simp only
  rw [if_pos]
  unfold L2.CMul
  omega
/-- a comprehension over rows, each giving one item, the slots as they were -/
theorem map_lc {α : Type} {vs : List Nat} {it : Itr} {g : Tg} {e : Ex} {ρ : En} {rs : List α} (enc : α → D) (F : α → D) (hi : it ρ = .ok (rs.map enc) ρ) (mh : mayHide ρ vs = true) (hz : rs.length ≤ 1000) (h : ∀ r ∈ rs, lcTurn vs g yesT e (enc r) (wipeE ρ vs) = some (some (F r), wipeE ρ vs)) :
    lcE vs it g yesT e ρ = .ok (.frs (.list (rs.map F))) ρ := by
  unfold lcE
  rw [hi]
  simp only [RE.bind_ok]
  have hz' : (rs.map enc).length ≤ sizeLine := by rw [List.length_map]; exact Nat.le_trans hz (by decide)
  have key : ∀ (rs : List α) acc, (∀ r ∈ rs, lcTurn vs g yesT e (enc r) (wipeE ρ vs) = some (some (F r), wipeE ρ vs)) → lcLoop vs g yesT e (rs.map enc) (wipeE ρ vs) acc = .ok (acc ++ rs.map F) (wipeE ρ vs) := by
    intro rs
    induction rs with
    | nil => intro acc _; simp [lcLoop]
    | cons r rs ih =>
      intro acc h
      rw [List.map_cons, lcLoop_eq, h r List.mem_cons_self]
      simp only
      rw [ih _ fun q hq => h q (List.mem_cons_of_mem _ hq)]
      simp
  rw [if_pos ⟨mh, hz'⟩, key rs [] h]
  simp only [back_wipe, List.nil_append]
/-- the same for a dict -/
def dcTurn (vs : List Nat) (g : Tg) (k e : Ex) (x : D) (ρ : En) : Option (D × D × En) := match g x ρ with
  | none => none
  | some ρ => match clo k ρ with
    | .ok kd ρ => match clo e ρ with
      | .ok y ρ => if flatK kd = true then some (kd, y, wipeE ρ vs) else none
      | _ => none
    | _ => none
theorem map_dc {α : Type} {vs : List Nat} {it : Itr} {g : Tg} {k e : Ex} {ρ ρ0 : En} {rs : List α} (enc : α → D) (K F : α → D) (hi : it ρ = .ok (rs.map enc) ρ0) (mh : mayHide ρ0 vs = true) (hz : rs.length ≤ 1000) (h : ∀ r ∈ rs, dcTurn vs g k e (enc r) (wipeE ρ0 vs) = some (K r, F r, wipeE ρ0 vs)) :
    dcE vs it g yesT k e ρ = .ok (.frs (.dict (dmerge (rs.map fun r => (K r, F r)) []))) ρ0 := by
  unfold dcE
  rw [hi]
  simp only [RE.bind_ok]
  have hz' : (rs.map enc).length ≤ sizeLine := by rw [List.length_map]; exact Nat.le_trans hz (by decide)
  have key : ∀ (rs : List α) acc, (∀ r ∈ rs, dcTurn vs g k e (enc r) (wipeE ρ0 vs) = some (K r, F r, wipeE ρ0 vs)) → dcLoop vs g yesT k e (rs.map enc) (wipeE ρ0 vs) acc = .ok (dmerge (rs.map fun r => (K r, F r)) acc) (wipeE ρ0 vs) := by
    intro rs
    induction rs with
    | nil => intro acc _; simp [dcLoop, dmerge]
    | cons r rs ih =>
      intro acc h
      have h1 := h r List.mem_cons_self
      have ih := ih (dput acc (K r) (F r)) fun q hq => h q (List.mem_cons_of_mem _ hq)
      rw [List.map_cons, dcLoop]
      unfold dcTurn at h1
      cases q1 : g (enc r) (wipeE ρ0 vs) with
      | none => rw [q1] at h1; cases h1
      | some ρ1 =>
        rw [q1] at h1
        simp only [e_yesT] at h1 ⊢
        cases q2 : clo k ρ1 with
        | ok kd ρ2 =>
          rw [q2] at h1
          simp only at h1 ⊢
          cases q3 : clo e ρ2 with
          | ok y ρ3 =>
            rw [q3] at h1
            simp only at h1 ⊢
            split at h1
            · rename_i hf
              simp only [Option.some.injEq, Prod.mk.injEq] at h1
              obtain ⟨e1, e2, e3⟩ := h1
              rw [if_pos hf, e1, e2, e3, ih]
              rfl
            · cases h1
          | exc c ρ3 => rw [q3] at h1; cases h1
          | bad => rw [q3] at h1; cases h1
        | exc c ρ2 => rw [q2] at h1; cases h1
        | bad => rw [q2] at h1; cases h1
  rw [if_pos ⟨mh, hz'⟩, key rs [] h]
  simp only [back_wipe]
end Ev

set_option Elab.async false
set_option linter.all false
set_option maxRecDepth 100000
set_option maxHeartbeats 1000000
/-! EvG: how long a repr is; what is sorted. -/
namespace Ev
open PySem
mutual
def okR : D → Bool
  | .none => true
  | .bool _ => true
  | .int i => decide (i.natAbs < 10 ^ 18)
  | .str _ => true
  | .list ds => okRA ds
  | .tuple ds => okRA ds
  | .dict _ => false
def okRA : List D → Bool
  | [] => true
  | d :: ds => okR d && okRA ds
end
mutual
def rb : D → Nat
  | .none => 4
  | .bool _ => 5
  | .int _ => 20
  | .str x => (reprText x).length
  | .list ds => 2 + rbA ds
  | .tuple ds => 4 + rbA ds
  | .dict _ => 0
def rbA : List D → Nat
  | [] => 0
  | d :: ds => rb d + 2 + rbA ds
end
theorem textFrom_le : ∀ (ts : List Str) (k : Nat) (acc : Str), (textFrom k acc ts).length ≤ acc.length + piled ts
  | [], k, acc => by show acc.length ≤ _; omega
  | t :: ts, k, acc => by
    have ih := textFrom_le ts (k + 1) (acc ++ (if k > 0 then ", " else "" : String) ++ t)
    have e2 : (((if k > 0 then ", " else "" : String) : Str)).length ≤ 2 := by split <;> decide
    show (textFrom (k + 1) (acc ++ (if k > 0 then ", " else "" : String) ++ t) ts).length ≤ _
    rw [strLen_append, strLen_append] at ih
    rw [piled_cons]
    omega
theorem listText_le (ts : List Str) : (listText ts).length ≤ 2 + piled ts := by
  unfold listText
  rw [strLen_append]
  have := textFrom_le ts 0 "["
  have e1 : ((("[" : String) : Str)).length = 1 := rfl
  have e2 : ((("]" : String) : Str)).length = 1 := rfl
  omega
theorem tupleText_le (ts : List Str) : (tupleText ts).length ≤ 4 + piled ts := by
  unfold tupleText
  rw [strLen_append, strLen_append]
  have e1 : ((("(" : String) : Str)).length = 1 := rfl
  have e3 : (((if ts.length == 1 then ",)" else ")" : String) : Str)).length ≤ 2 := by split <;> decide
  by_cases h : ts = []
  · subst h
    have : (Str.join ", " []).length = 0 := rfl
    omega
  · have := join_length_add ts h
    omega
mutual
theorem shown_le : ∀ d : D, okR d = true → d.showable = true ∧ d.hasDict = false ∧ d.shown.length ≤ rb d
  | .none, _ => ⟨by simp [PyData.showable], by simp [PyData.hasDict], by simp only [PyData.shown, rb]; decide⟩
  | .bool b, _ => ⟨by simp [PyData.showable], by simp [PyData.hasDict], by simp only [PyData.shown, rb]; cases b <;> decide⟩
  | .int i, h => by
    have h : i.natAbs < 10 ^ 18 := by simpa [okR] using h
    refine ⟨?_, by simp [PyData.hasDict], ?_⟩
    · simp only [PyData.showable, decide_eq_true_eq]
      by_cases z : i.natAbs = 0
      · rw [z]; decide
      · have := (Nat.log2_lt z).mpr (show i.natAbs < 2 ^ 1920 from Nat.lt_trans h (by decide))
        exact this
    · have e := int_text_length_le10 (k := 18) (by decide) h
      simp only [PyData.shown, rb]
      rw [ofString_length]
      omega
  | .str x, _ => ⟨by simp [PyData.showable], by simp [PyData.hasDict], by simp only [PyData.shown, rb]; exact Nat.le_refl _⟩
  | .list ds, h => by
    obtain ⟨h1, h2, h3⟩ := shownA_le ds (by simpa [okR] using h)
    refine ⟨by simpa [PyData.showable] using h1, by simpa [PyData.hasDict] using h2, ?_⟩
    simp only [PyData.shown, rb]
    exact Nat.le_trans (listText_le _) (by omega)
  | .tuple ds, h => by
    obtain ⟨h1, h2, h3⟩ := shownA_le ds (by simpa [okR] using h)
    refine ⟨by simpa [PyData.showable] using h1, by simpa [PyData.hasDict] using h2, ?_⟩
    simp only [PyData.shown, rb]
    exact Nat.le_trans (tupleText_le _) (by omega)
  | .dict _, h => by simp [okR] at h
theorem shownA_le : ∀ ds : List D, okRA ds = true → PyData.showableAll ds = true ∧ PyData.hasDictAll ds = false ∧ piled (PyData.shownAll ds) ≤ rbA ds
  | [], _ => ⟨by simp [PyData.showableAll], by simp [PyData.hasDictAll], by simp [PyData.shownAll, rbA, piled]⟩
  | d :: ds, h => by
    have h : okR d = true ∧ okRA ds = true := by simpa [okRA] using h
    obtain ⟨a1, a2, a3⟩ := shown_le d h.1
    obtain ⟨b1, b2, b3⟩ := shownA_le ds h.2
    refine ⟨by simp [PyData.showableAll, a1, b1], by simp [PyData.hasDictAll, a2, b2], ?_⟩
    simp only [PyData.shownAll, rbA]
    rw [piled_cons]
    omega
end
theorem reprOk_of {d : D} (h : okR d = true) (hd : d.depth ≤ 60) (hr : rb d ≤ 1000000) : reprOk d = true := by
  obtain ⟨h1, h2, h3⟩ := shown_le d h
  unfold reprOk
  rw [h1, h2]
  have : d.shown.length ≤ sizeLine := Nat.le_trans h3 (Nat.le_trans hr (by decide))
  simp [hd, this]
theorem repr_list {ds : List D} (h : okRA ds = true) (hd : PyData.depthAll ds ≤ 59) (hr : rbA ds ≤ 900000) : dRepr (.list ds) = some (.val (.str (PyData.list ds).shown)) := by
  have := reprOk_of (d := .list ds) (by simpa [okR] using h) (by simp only [PyData.depth]; omega) (by simp only [rb]; omega)
  unfold reprOk at this
  exact if_pos this
theorem repr_tuple {ds : List D} (h : okRA ds = true) (hd : PyData.depthAll ds ≤ 59) (hr : rbA ds ≤ 900000) : dRepr (.tuple ds) = some (.val (.str (PyData.tuple ds).shown)) := by
  have := reprOk_of (d := .tuple ds) (by simpa [okR] using h) (by simp only [PyData.depth]; omega) (by simp only [rb]; omega)
  unfold reprOk at this
  exact if_pos this
theorem okRA_of : ∀ {ds : List D}, (∀ d ∈ ds, okR d = true) → okRA ds = true
  | [], _ => by simp [okRA]
  | d :: ds, h => by simp [okRA, h d List.mem_cons_self, okRA_of fun x hx => h x (List.mem_cons_of_mem _ hx)]
theorem rbA_of {c : Nat} : ∀ {ds : List D}, (∀ d ∈ ds, rb d ≤ c) → rbA ds ≤ ds.length * (c + 2)
  | [], _ => by simp [rbA]
  | d :: ds, h => by
    have h1 := h d List.mem_cons_self
    have h2 := rbA_of (ds := ds) fun x hx => h x (List.mem_cons_of_mem _ hx)
    simp only [rbA, List.length_cons]
    rw [Nat.add_mul]
    omega
theorem depthA_of {c : Nat} : ∀ {ds : List D}, (∀ d ∈ ds, d.depth ≤ c) → PyData.depthAll ds ≤ c
  | [], _ => by simp [PyData.depthAll]
  | d :: ds, h => by
    have h1 := h d List.mem_cons_self
    have h2 := depthA_of (ds := ds) fun x hx => h x (List.mem_cons_of_mem _ hx)
    simp only [PyData.depthAll]
    omega
theorem sort_mem {ds : List D} {d : D} (h : d ∈ ds.mergeSort dle) : d ∈ ds := (List.mergeSort_perm ds dle).mem_iff.mp h
/-- a comprehension with a test over rows -/
theorem filt_lc {α : Type} {vs : List Nat} {it : Itr} {g : Tg} {t : Tt} {e : Ex} {ρ ρ0 : En} {rs : List α} (enc : α → D) (p : α → Bool) (F : α → D) (hi : it ρ = .ok (rs.map enc) ρ0) (mh : mayHide ρ0 vs = true) (hz : rs.length ≤ 1000)
    (h : ∀ r ∈ rs, lcTurn vs g t e (enc r) (wipeE ρ0 vs) = some (if p r = true then some (F r) else none, wipeE ρ0 vs)) : lcE vs it g t e ρ = .ok (.frs (.list ((rs.filter p).map F))) ρ0 := by
  unfold lcE
  rw [hi]
  simp only [RE.bind_ok]
  have hz' : (rs.map enc).length ≤ sizeLine := by rw [List.length_map]; exact Nat.le_trans hz (by decide)
  have key : ∀ (rs : List α) acc, (∀ r ∈ rs, lcTurn vs g t e (enc r) (wipeE ρ0 vs) = some (if p r = true then some (F r) else none, wipeE ρ0 vs)) → lcLoop vs g t e (rs.map enc) (wipeE ρ0 vs) acc = .ok (acc ++ (rs.filter p).map F) (wipeE ρ0 vs) := by
    intro rs
    induction rs with
    | nil => intro acc _; simp [lcLoop]
    | cons r rs ih =>
      intro acc h
      have h' : ∀ r ∈ rs, lcTurn vs g t e (enc r) (wipeE ρ0 vs) = some (if p r = true then some (F r) else none, wipeE ρ0 vs) := fun q hq => h q (List.mem_cons_of_mem _ hq)
      rw [List.map_cons, lcLoop_eq, h r List.mem_cons_self]
      cases q : p r with
      | true => simp only [if_true]; rw [ih _ h', List.filter_cons_of_pos q]; simp
      | false => simp only [Bool.false_eq_true, if_false]; rw [ih _ h', List.filter_cons_of_neg (by rw [q]; exact Bool.false_ne_true)]
  rw [if_pos ⟨mh, hz'⟩, key rs [] h]
  simp only [back_wipe, List.nil_append]
theorem eqvAll_len : ∀ {xs ys : List D}, xs.length ≠ ys.length → PyData.eqvAll xs ys = false
  | [], [], h => absurd rfl h
  | [], _ :: _, _ => by simp [PyData.eqvAll]
  | _ :: _, [], _ => by simp [PyData.eqvAll]
  | x :: xs, y :: ys, h => by
    have := eqvAll_len (xs := xs) (ys := ys) (by simpa using h)
    simp [PyData.eqvAll, this]
end Ev

set_option Elab.async false
set_option linter.all false
set_option maxRecDepth 100000
set_option maxHeartbeats 2000000
namespace Ev
open PySem
def sub (c h : Str) : Option Bool := if c = "NotRight" ∧ h = "SeamError" then some true else if c = "NotThere" ∧ h = "SeamError" then some true else if c = "SeamError" ∧ h = "SeamError" then some true else if c = "NotRight" ∧ h = "NotRight" then some true else if c = "NotThere" ∧ h = "NotRight" then some false else if c = "SeamError" ∧ h = "NotRight" then some false else none

abbrev N_is_name : List Str := ["value", "sign"]
def g_is_name : Sm := (seqS [(ifS (orT (notT (truT (op1 (dIsi "str") (var 0)))) (orT (notT (blT (chnE dLe dLe (cst (.int 1)) (op1 dLen (var 0)) (cst (.int 12))))) (blT (op2 (dIn true) (op2 dIdx (var 0) (cst (.int 0))) (cst (.str "abcdefghijklmnopqrstuvwxyz")))))) (seqS [(retS (cst (.bool false)))]) (seqS [])),
    (retS (op1 dAll (lcE [1] (itStr (var 0)) (stI 1) yesT (op2 (dIn false) (var 1) (op2 dAdd (cst (.str "abcdefghijklmnopqrstuvwxyz")) (cst (.str "0123456789")))))))])
def m_is_name : FnS := fnS 2 g_is_name

abbrev N_are_ascending : List Str := ["values", "one", "other"]
def g_are_ascending : Sm := (seqS [(retS (op1 dAll (lcE [1, 2] (itZip (var 0) (slE (var 0) (some (cst (.int 1))) none)) (stT [(stI 1), (stI 2)]) yesT (op2 dLt (var 1) (var 2)))))])
def m_are_ascending : FnS := fnS 3 g_are_ascending

abbrev N_is_within : List Str := ["value", "low", "high"]
def g_is_within : Sm := (seqS [(retS (andE (op1 (dIsi "int") (var 0)) (andE (notE (op1 (dIsi "bool") (var 0))) (chnE dLe dLe (var 1) (var 0) (var 2)))))])
def m_is_within : FnS := fnS 3 g_is_within

abbrev N_is_part : List Str := ["value"]
def g_is_part : Sm := (seqS [(ifS (orT (notT (truT (op1 (dIsi "tuple") (var 0)))) (orT (blT (op2 dNe (op1 dLen (var 0)) (cst (.int 3)))) (notT (truT (calE m_is_name [.v (op2 dIdx (var 0) (cst (.int 0)))]))))) (seqS [(retS (cst (.bool false)))]) (seqS [])),
    (retS (andE (calE m_is_within [.v (op2 dIdx (var 0) (cst (.int 1))), .v (cst (.int 1)), .v (cst (.int 10000))]) (calE m_is_within [.v (op2 dIdx (var 0) (cst (.int 2))), .v (cst (.int 0)), .v (cst (.int 200))])))])
def m_is_part : FnS := fnS 1 g_is_part

abbrev N_is_garment : List Str := ["value", "name", "_", "row"]
def g_is_garment : Sm := (seqS [(ifS (orT (notT (truT (op1 (dIsi "tuple") (var 0)))) (orT (notT (blT (chnE dLe dLe (cst (.int 1)) (op1 dLen (var 0)) (cst (.int 8))))) (notT (truT (op1 dAll (lcE [3] (itSeq (var 0)) (stI 3) yesT (calE m_is_part [.v (var 3)]))))))) (seqS [(retS (cst (.bool false)))]) (seqS [])),
    (retS (calE m_are_ascending [.v (lcE [1, 2] (itSeq (var 0)) (stT [(stI 1), (stI 2), (stI 2)]) yesT (var 1))]))])
def m_is_garment : FnS := fnS 4 g_is_garment

abbrev N_is_integer : List Str := ["value"]
def g_is_integer : Sm := (seqS [(retS (andE (op1 (dIsi "int") (var 0)) (notE (op1 (dIsi "bool") (var 0)))))])
def m_is_integer : FnS := fnS 1 g_is_integer

abbrev N_is_span : List Str := ["value", "one"]
def g_is_span : Sm := (seqS [(ifS (orT (notT (truT (op1 (dIsi "tuple") (var 0)))) (orT (blT (op2 dNe (op1 dLen (var 0)) (cst (.int 2)))) (notT (truT (op1 dAll (lcE [1] (itSeq (var 0)) (stI 1) yesT (calE m_is_integer [.v (var 1)]))))))) (seqS [(retS (cst (.bool false)))]) (seqS [])),
    (retS (op2 dLe (op2 dIdx (var 0) (cst (.int 0))) (op2 dIdx (var 0) (cst (.int 1)))))])
def m_is_span : FnS := fnS 2 g_is_span

abbrev N_is_need : List Str := ["value", "one"]
def g_is_need : Sm := (seqS [(ifS (orT (notT (truT (op1 (dIsi "tuple") (var 0)))) (orT (blT (op2 dNe (op1 dLen (var 0)) (cst (.int 3)))) (notT (truT (calE m_is_name [.v (op2 dIdx (var 0) (cst (.int 0)))]))))) (seqS [(retS (cst (.bool false)))]) (seqS [])),
    (retS (orE (calE m_is_span [.v (slE (var 0) (some (cst (.int 1))) none)]) (andE (op1 dAll (lcE [1] (itSeq (slE (var 0) (some (cst (.int 1))) none)) (stI 1) yesT (calE m_is_integer [.v (var 1)]))) (op2 dEq (slE (var 0) (some (cst (.int 1))) none) (cst (.tuple [.int 1, .int 0]))))))])
def m_is_need : FnS := fnS 2 g_is_need

abbrev N_is_person : List Str := ["value", "need"]
def g_is_person : Sm := (seqS [(ifS (orT (notT (truT (op1 (dIsi "tuple") (var 0)))) (orT (blT (op2 dNe (op1 dLen (var 0)) (cst (.int 2)))) (orT (notT (truT (calE m_is_name [.v (op2 dIdx (var 0) (cst (.int 0)))]))) (notT (truT (op1 (dIsi "tuple") (op2 dIdx (var 0) (cst (.int 1))))))))) (seqS [(retS (cst (.bool false)))]) (seqS [])),
    (retS (andE (op1 dAll (lcE [1] (itSeq (op2 dIdx (var 0) (cst (.int 1)))) (stI 1) yesT (calE m_is_need [.v (var 1)]))) (calE m_are_ascending [.v (lcE [1] (itSeq (op2 dIdx (var 0) (cst (.int 1)))) (stI 1) yesT (op2 dIdx (var 1) (cst (.int 0))))])))])
def m_is_person : FnS := fnS 2 g_is_person

abbrev N_check_garment : List Str := ["garment", "top"]
def g_check_garment : Sm := (seqS [(ifS (orT (notT (truT (calE m_is_garment [.v (var 0)]))) (notT (truT (calE m_is_within [.v (var 1), .v (cst (.int 0)), .v (cst (.int 60))])))) (seqS [(raiS "NotRight")]) (seqS []))])
def m_check_garment : FnS := fnS 2 g_check_garment

abbrev N_check_person : List Str := ["person"]
def g_check_person : Sm := (seqS [(ifS (notT (truT (calE m_is_person [.v (var 0)]))) (seqS [(raiS "NotRight")]) (seqS []))])
def m_check_person : FnS := fnS 1 g_check_person

abbrev N_does_serve : List Str := ["garment", "size", "person", "measures", "name", "base", "step", "least", "most"]
def g_does_serve : Sm := (seqS [(setS 3 (dcE [4, 5, 6] (itSeq (var 0)) (stT [(stI 4), (stI 5), (stI 6)]) yesT (var 4) (op2 dAdd (var 5) (op2 dMul (var 1) (var 6))))),
    (retS (op1 dAll (lcE [4, 7, 8] (itSeq (op2 dIdx (var 2) (cst (.int 1)))) (stT [(stI 4), (stI 7), (stI 8)]) yesT (andE (op2 (dIn false) (var 4) (var 3)) (chnE dLe dLe (var 7) (op2 dIdx (var 3) (var 4)) (var 8))))))])
def m_does_serve : FnS := fnS 9 g_does_serve

abbrev N_serves : List Str := ["garment", "top", "size", "person"]
def g_serves : Sm := (seqS [(expS (calE m_check_garment [.v (var 0), .v (var 1)])),
    (expS (calE m_check_person [.v (var 3)])),
    (ifS (notT (truT (calE m_is_within [.v (var 2), .v (cst (.int 0)), .v (var 1)]))) (seqS [(raiS "NotThere")]) (seqS [])),
    (retS (calE m_does_serve [.v (var 0), .v (var 2), .v (var 3)]))])
def m_serves : FnS := fnS 4 g_serves

abbrev N_check_bounds : List Str := ["person", "bounds", "need", "pair"]
def g_check_bounds : Sm := (seqS [(expS (calE m_check_person [.v (var 0)])),
    (ifS (orT (notT (truT (op1 (dIsi "dict") (var 1)))) (blT (op2 dNe (op1 dSorted (var 1)) (lcE [2] (itSeq (op2 dIdx (var 0) (cst (.int 1)))) (stI 2) yesT (op2 dIdx (var 2) (cst (.int 0))))))) (seqS [(raiS "NotRight")]) (seqS [])),
    (ifS (notT (truT (op1 dAll (lcE [3] (itVals (var 1)) (stI 3) yesT (calE m_is_span [.v (var 3)]))))) (seqS [(raiS "NotRight")]) (seqS []))])
def m_check_bounds : FnS := fnS 4 g_check_bounds

abbrev N_moved_person : List Str := ["person", "more", "needs", "name", "least", "most", "is_open", "below", "above"]
def g_moved_person : Sm := (seqS [(setS 2 (lstE [])),
    (forS (stT [(stI 3), (stI 4), (stI 5)]) (itSeq (op2 dIdx (var 0) (cst (.int 1)))) (seqS [(asgS (stT [(stI 7), (stI 8)]) (op2 dIdx (var 1) (var 3))),
    (setS 6 (andE (op2 dNe (tupE [(var 4), (var 5)]) (cst (.tuple [.int 1, .int 0]))) (op2 dLe (op2 dAdd (var 4) (var 7)) (op2 dAdd (var 5) (var 8))))),
    (expS (appE 2 (iteE (truT (var 6)) (tupE [(var 3), (op2 dAdd (var 4) (var 7)), (op2 dAdd (var 5) (var 8))]) (tupS [.one (var 3), .all (cst (.tuple [.int 1, .int 0]))]))))])),
    (retS (tupE [(op2 dIdx (var 0) (cst (.int 0))), (op1 dTupOf (var 2))]))])
def m_moved_person : FnS := fnS 9 g_moved_person

abbrev N_sure_person : List Str := ["person", "bounds", "name", "below", "above"]
def g_sure_person : Sm := (seqS [(expS (calE m_check_bounds [.v (var 0), .v (var 1)])),
    (retS (calE m_moved_person [.v (var 0), .v (dcE [2, 3, 4] (itItems (var 1)) (stT [(stI 2), (stT [(stI 3), (stI 4)])]) yesT (var 2) (tupE [(var 4), (var 3)]))]))])
def m_sure_person : FnS := fnS 5 g_sure_person

abbrev N_possible_person : List Str := ["person", "bounds"]
def g_possible_person : Sm := (seqS [(expS (calE m_check_bounds [.v (var 0), .v (var 1)])),
    (retS (calE m_moved_person [.v (var 0), .v (var 1)]))])
def m_possible_person : FnS := fnS 2 g_possible_person

abbrev N__law_draws : List Str := ["script", "draws", "cell", "seed", "k", "number", "first"]
def g__law_draws : Sm := (seqS [(setS 1 (lstE [])),
    (forS (stI 2) (itSeq (var 0)) (seqS [(setS 5 (op1 dAbs (var 2))),
    (ifS (blT (op2 dLt (var 5) (op2 dPow (cst (.int 10)) (cst (.int 18))))) (seqS [(setS 6 (op2 dMod (op1 dIntOf (op2 dAdd (op2 dMul (var 5) (cst (.int 48271))) (cst (.int 11)))) (cst (.int 2147483647)))),
    (expS (appE 1 (op2 dMod (op1 dIntOf (op2 dAdd (op2 dMul (var 6) (cst (.int 69621))) (var 5))) (cst (.int 2147483629))))),
    (expS (appE 1 (op2 dMod (op1 dIntOf (op2 dAdd (var 6) (op2 dFdiv (var 5) (cst (.int 7))))) (cst (.int 1000003))))),
    (setS 5 (cst (.int 0)))]) (seqS [])),
    (forS (stI 4) (itRng1 (cst (.int 60))) (seqS [(ifS (blT (op2 dGt (var 5) (cst (.int 0)))) (seqS [(expS (appE 1 (op2 dMod (op1 dIntOf (var 5)) (cst (.int 997))))),
    (setS 5 (op2 dFdiv (var 5) (cst (.int 997))))]) (seqS []))]))])),
    (setS 3 (cst (.int 1))),
    (ifS (blT (op2 dGt (op1 dLen (var 0)) (cst (.int 0)))) (seqS [(setS 3 (op2 dAdd (cst (.int 1)) (op1 dAbs (op2 dIdx (var 0) (cst (.int 0))))))]) (seqS [])),
    (forS (stI 4) (itRng1 (cst (.int 3000))) (seqS [(setS 3 (op2 dMod (op1 dIntOf (op2 dAdd (op2 dMul (var 3) (cst (.int 48271))) (cst (.int 69621)))) (cst (.int 2147483647)))),
    (expS (appE 1 (op2 dFdiv (var 3) (cst (.int 5)))))])),
    (retS (op1 dRevL (var 1)))])
def m__law_draws : FnS := fnS 7 g__law_draws

abbrev N__law_take : List Str := ["draws", "bound"]
def g__law_take : Sm := (seqS [(ifS (blT (op2 dEq (op1 dLen (var 0)) (cst (.int 0)))) (seqS [(retS (cst (.int 0)))]) (seqS [])),
    (retS (op2 dMod (op1 dIntOf (popE 0)) (var 1)))])
def m__law_take : FnS := fnS 2 g__law_take

abbrev N__law_pick : List Str := ["draws", "some"]
def g__law_pick : Sm := (seqS [(retS (op2 dIdx (var 1) (calE m__law_take [.r 0, .v (op1 dLen (var 1))])))])
def m__law_pick : FnS := fnS 2 g__law_pick

abbrev N__law_world : List Str := ["draws", "names", "garment", "needs", "name", "bounds", "least", "below"]
def g__law_world : Sm := (seqS [(setS 1 (slE (lstE [(cst (.str "arm")), (cst (.str "chest")), (cst (.str "hip"))]) none (some (op2 dAdd (cst (.int 1)) (calE m__law_take [.r 0, .v (cst (.int 3))]))))),
    (setS 2 (op1 dTupOf (lcE [4] (itSeq (var 1)) (stI 4) yesT (tupE [(var 4), (op2 dAdd (cst (.int 20)) (calE m__law_take [.r 0, .v (cst (.int 20))])), (calE m__law_take [.r 0, .v (cst (.int 5))])])))),
    (setS 3 (lstE [])),
    (forS (stI 4) (itSeq (var 1)) (seqS [(setS 6 (op2 dSub (calE m__law_take [.r 0, .v (cst (.int 10))]) (cst (.int 3)))),
    (expS (appE 3 (tupE [(var 4), (var 6), (op2 dAdd (var 6) (calE m__law_take [.r 0, .v (cst (.int 12))]))])))])),
    (ifS (blT (op2 dEq (calE m__law_take [.r 0, .v (cst (.int 8))]) (cst (.int 0)))) (seqS [(putS 3 (cst (.int 0)) (tupE [(op2 dIdx (op2 dIdx (var 3) (cst (.int 0))) (cst (.int 0))), (cst (.int 1)), (cst (.int 0))]))]) (seqS [])),
    (setS 5 newD),
    (forS (stI 4) (itSeq (var 1)) (seqS [(setS 7 (op2 dAdd (cst (.int 15)) (calE m__law_take [.r 0, .v (cst (.int 40))]))),
    (putS 5 (var 4) (tupE [(var 7), (op2 dAdd (var 7) (calE m__law_take [.r 0, .v (cst (.int 7))]))]))])),
    (retS (tupE [(var 2), (calE m__law_take [.r 0, .v (cst (.int 10))]), (tupE [(cst (.str "ann")), (op1 dTupOf (var 3))]), (var 5)]))])
def m__law_world : FnS := fnS 8 g__law_world

abbrev N__law_fits : List Str := ["garment", "size", "need", "body", "name", "base", "step"]
def g__law_fits : Sm := (seqS [(forS (stT [(stI 4), (stI 5), (stI 6)]) (itSeq (var 0)) (seqS [(ifS (blT (op2 dEq (var 4) (op2 dIdx (var 2) (cst (.int 0))))) (seqS [(retS (chnE dLe dLe (op2 dIdx (var 2) (cst (.int 1))) (op2 dSub (op2 dAdd (var 5) (op2 dMul (var 1) (var 6))) (var 3)) (op2 dIdx (var 2) (cst (.int 2)))))]) (seqS []))])),
    (retS (cst (.bool false)))])
def m__law_fits : FnS := fnS 7 g__law_fits

abbrev N__law_served : List Str := ["garment", "top", "person", "bounds", "all_bodies", "found", "size", "fine", "need", "counts", "below", "above", "body"]
def g__law_served : Sm := (seqS [(setS 5 (lstE [])),
    (forS (stI 6) (itRng1 (op2 dAdd (var 1) (cst (.int 1)))) (seqS [(setS 7 (cst (.bool true))),
    (forS (stI 8) (itSeq (op2 dIdx (var 2) (cst (.int 1)))) (seqS [(asgS (stT [(stI 10), (stI 11)]) (op2 dIdx (var 3) (op2 dIdx (var 8) (cst (.int 0))))),
    (setS 9 (lcE [12] (itRng2 (var 10) (op2 dAdd (var 11) (cst (.int 1)))) (stI 12) yesT (calE m__law_fits [.v (var 0), .v (var 6), .v (var 8), .v (var 12)]))),
    (ifS (orT (andT (truT (var 4)) (blT (op2 (dIn false) (cst (.bool false)) (var 9)))) (andT (notT (truT (var 4))) (blT (op2 (dIn true) (cst (.bool true)) (var 9))))) (seqS [(setS 7 (cst (.bool false)))]) (seqS []))])),
    (ifS (truT (var 7)) (seqS [(expS (appE 5 (var 6)))]) (seqS []))])),
    (retS (var 5))])
def m__law_served : FnS := fnS 13 g__law_served

abbrev N__law_needs : List Str := ["person", "bounds", "which", "found", "name", "least", "most", "below", "above", "low", "high"]
def g__law_needs : Sm := (seqS [(setS 3 (lstE [])),
    (forS (stT [(stI 4), (stI 5), (stI 6)]) (itSeq (op2 dIdx (var 0) (cst (.int 1)))) (seqS [(asgS (stT [(stI 7), (stI 8)]) (op2 dIdx (var 1) (var 4))),
    (asgS (stT [(stI 9), (stI 10)]) (op2 dIdx (lstE [(tupE [(op2 dAdd (var 5) (var 8)), (op2 dAdd (var 6) (var 7))]), (tupE [(op2 dAdd (var 5) (var 7)), (op2 dAdd (var 6) (var 8))])]) (var 2))),
    (ifS (orT (blT (op2 dEq (tupE [(var 5), (var 6)]) (tupE [(cst (.int 1)), (cst (.int 0))]))) (blT (op2 dGt (var 9) (var 10)))) (seqS [(asgS (stT [(stI 9), (stI 10)]) (tupE [(cst (.int 1)), (cst (.int 0))]))]) (seqS [])),
    (expS (appE 3 (tupE [(var 4), (var 9), (var 10)])))])),
    (retS (tupE [(op2 dIdx (var 0) (cst (.int 0))), (op1 dTupOf (var 3))]))])
def m__law_needs : FnS := fnS 11 g__law_needs

abbrev N__law_told : List Str := ["which", "person", "bounds"]
def g__law_told : Sm := (seqS [(tryS sub (seqS [(retS (catE [m_sure_person, m_possible_person] (var 0) [.v (var 1), .v (var 2)]))]) [("NotRight", (seqS [(retS (cst (.str "not right")))])), ("SeamError", (seqS [(retS (cst (.str "other")))]))])])
def m__law_told : FnS := fnS 3 g__law_told

abbrev N_law : List Str := ["script", "draws", "turn", "kept", "narrow", "name", "sizes", "own", "wrong", "odd", "garment", "top", "person", "bounds", "low", "which", "below", "above", "told", "served", "size"]
def g_law : Sm := (seqS [(setS 1 (calE m__law_draws [.v (var 0)])),
    (forS (stI 2) (itRng1 (cst (.int 6))) (seqS [(asgS (stT [(stI 10), (stI 11), (stI 12), (stI 13)]) (calE m__law_world [.r 1])),
    (setS 3 (op1 dRepr (lstE [(var 12), (op1 dSorted (op1 dItemsL (var 13)))]))),
    (setS 4 newD),
    (forD (stI 5) (itKeys (var 13)) (seqS [(asgS (stT [(stI 16), (stI 17)]) (op2 dIdx (var 13) (var 5))),
    (setS 14 (op2 dAdd (var 16) (calE m__law_take [.r 1, .v (op2 dAdd (op2 dSub (var 17) (var 16)) (cst (.int 1)))]))),
    (putS 4 (var 5) (tupE [(var 14), (op2 dAdd (var 14) (calE m__law_take [.r 1, .v (op2 dAdd (op2 dSub (var 17) (var 14)) (cst (.int 1)))]))]))])),
    (setS 6 (lstE [])),
    (forS (stI 7) (itSeq (lstE [(var 13), (var 4)])) (seqS [(forS (stI 15) (itRng1 (cst (.int 2))) (seqS [(setS 18 (calE m__law_told [.v (var 15), .v (var 12), .v (var 7)])),
    (ifS (blT (op2 dNe (op1 dRepr (var 18)) (op1 dRepr (calE m__law_needs [.v (var 12), .v (var 7), .v (var 15)])))) (seqS [(retS (cst (.bool false)))]) (seqS [])),
    (setS 19 (lcE [20] (itRng1 (op2 dAdd (var 11) (cst (.int 1)))) (stI 20) (blT (op2 (dIsS false) (calE m_serves [.v (var 10), .v (var 11), .v (var 20), .v (var 18)]) (cst (.bool true)))) (var 20))),
    (ifS (blT (op2 dNe (var 19) (calE m__law_served [.v (var 10), .v (var 11), .v (var 12), .v (var 7), .v (op2 dEq (var 15) (cst (.int 0)))]))) (seqS [(retS (cst (.bool false)))]) (seqS [])),
    (expS (appE 6 (var 19)))]))])),
    (ifS (orT (blT (op2 dNe (lcE [20] (itSeq (op2 dIdx (var 6) (cst (.int 0)))) (stI 20) (blT (op2 (dIn true) (var 20) (op2 dIdx (var 6) (cst (.int 2))))) (var 20)) (lstE []))) (blT (op2 dNe (lcE [20] (itSeq (op2 dIdx (var 6) (cst (.int 3)))) (stI 20) (blT (op2 (dIn true) (var 20) (op2 dIdx (var 6) (cst (.int 1))))) (var 20)) (lstE [])))) (seqS [(retS (cst (.bool false)))]) (seqS [])),
    (setS 5 (op2 dIdx (op1 dSorted (op1 dList (var 13))) (cst (.int 0)))),
    (setS 8 (lstE [(cst .none), newD, (dspE [((cst (.str "zoe")), (tupE [(cst (.int 1)), (cst (.int 2))]))]), (op1 dDict (op2 dAdd (op1 dItemsL (var 13)) (lstE [(tupE [(cst (.str "zoe")), (tupE [(cst (.int 1)), (cst (.int 2))])])]))), (op1 dDict (op2 dAdd (op1 dItemsL (var 13)) (lstE [(tupE [(var 5), (tupE [(cst (.int 2)), (cst (.int 1))])])]))), (op1 dDict (op2 dAdd (op1 dItemsL (var 13)) (lstE [(tupE [(var 5), (lstE [(cst (.int 1)), (cst (.int 2))])])])))])),
    (setS 9 (calE m__law_pick [.r 1, .v (var 8)])),
    (ifS (blT (op2 dNe (op2 dAdd (lcE [15] (itSeq (lstE [(cst (.int 0)), (cst (.int 1))])) (stI 15) yesT (calE m__law_told [.v (var 15), .v (var 12), .v (var 9)])) (lcE [15] (itSeq (lstE [(cst (.int 0)), (cst (.int 1))])) (stI 15) yesT (calE m__law_told [.v (var 15), .v (tupE [(cst (.str "Ann")), (tupE [])]), .v newD]))) (repE [(cst (.str "not right"))] 4))) (seqS [(retS (cst (.bool false)))]) (seqS [])),
    (ifS (blT (op2 dNe (op1 dRepr (lstE [(var 12), (op1 dSorted (op1 dItemsL (var 13)))])) (var 3))) (seqS [(retS (cst (.bool false)))]) (seqS []))])),
    (retS (cst (.bool true)))])
def m_law : FnS := fnS 21 g_law
end Ev

set_option Elab.async false
set_option linter.all false
set_option maxRecDepth 100000
set_option maxHeartbeats 2000000
namespace Ev
open PySem PySem.Spec L2
def top (i : Nat) : Stmt := PySem.Challenge.pw_hemstead_k41_whole_persons_with_bounds.main.body.getD i (.Pass ⟨0, 0, 0, 0⟩)

structure Txt (K : PySem.W.Frag) (mg : Str → Option Value) : Prop where
  d_is_name : DefAt K mg "is_name" (top 7) ["value"]
  d_are_ascending : DefAt K mg "are_ascending" (top 8) ["values"]
  d_is_within : DefAt K mg "is_within" (top 9) ["value", "low", "high"]
  d_is_part : DefAt K mg "is_part" (top 14) ["value"]
  d_is_garment : DefAt K mg "is_garment" (top 15) ["value"]
  d_is_integer : DefAt K mg "is_integer" (top 16) ["value"]
  d_is_span : DefAt K mg "is_span" (top 17) ["value"]
  d_is_need : DefAt K mg "is_need" (top 18) ["value"]
  d_is_person : DefAt K mg "is_person" (top 19) ["value"]
  d_check_garment : DefAt K mg "check_garment" (top 20) ["garment", "top"]
  d_check_person : DefAt K mg "check_person" (top 21) ["person"]
  d_does_serve : DefAt K mg "does_serve" (top 22) ["garment", "size", "person"]
  d_serves : DefAt K mg "serves" (top 23) ["garment", "top", "size", "person"]
  d_check_bounds : DefAt K mg "check_bounds" (top 24) ["person", "bounds"]
  d_moved_person : DefAt K mg "moved_person" (top 25) ["person", "more"]
  d_sure_person : DefAt K mg "sure_person" (top 26) ["person", "bounds"]
  d_possible_person : DefAt K mg "possible_person" (top 27) ["person", "bounds"]
  d__law_draws : DefAt K mg "_law_draws" (top 29) ["script"]
  d__law_take : DefAt K mg "_law_take" (top 30) ["draws", "bound"]
  d__law_pick : DefAt K mg "_law_pick" (top 31) ["draws", "some"]
  d__law_world : DefAt K mg "_law_world" (top 32) ["draws"]
  d__law_fits : DefAt K mg "_law_fits" (top 33) ["garment", "size", "need", "body"]
  d__law_served : DefAt K mg "_law_served" (top 34) ["garment", "top", "person", "bounds", "all_bodies"]
  d__law_needs : DefAt K mg "_law_needs" (top 35) ["person", "bounds", "which"]
  d__law_told : DefAt K mg "_law_told" (top 36) ["which", "person", "bounds"]
  d_law : DefAt K mg "law" (top 37) ["script"]
  b_all : mg "all" = none
  b_len : mg "len" = none
  b_isinstance : mg "isinstance" = none
  b_str : mg "str" = none
  b_zip : mg "zip" = none
  b_bool : mg "bool" = none
  b_int : mg "int" = none
  b_tuple : mg "tuple" = none
  b_sorted : mg "sorted" = none
  b_dict : mg "dict" = none
  b_list : mg "list" = none
  b_reversed : mg "reversed" = none
  b_range : mg "range" = none
  b_abs : mg "abs" = none
  b_repr : mg "repr" = none
  c_SMALL : ∃ t, mg "SMALL" = some (.str "abcdefghijklmnopqrstuvwxyz" t)
  c_FIGURES : ∃ t, mg "FIGURES" = some (.str "0123456789" t)
  c_LONGEST : ∃ t, mg "LONGEST" = some (.int 12 t)
  c_MOST_MEASURES : ∃ t, mg "MOST_MEASURES" = some (.int 8 t)
  c_NO_NEED : ∃ a, mg "NO_NEED" = some (.ref a) ∧ ∀ S, Rp K S (.ref a) (.tuple [.int 1, .int 0])
  c_TOP_SIZE : ∃ t, mg "TOP_SIZE" = some (.int 60 t)
  e_NotRight : ExcAt K mg "NotRight"
  e_NotThere : ExcAt K mg "NotThere"
  e_SeamError : ExcAt K mg "SeamError"
  x_SeamError : ∀ c cls C b, mg "SeamError" = some (.ref C) → mg c = some cls → sub c "SeamError" = some b → PySem.W.exmOne K cls (.ref C) = some b
  x_NotRight : ∀ c cls C b, mg "NotRight" = some (.ref C) → mg c = some cls → sub c "NotRight" = some b → PySem.W.exmOne K cls (.ref C) = some b

section
variable {P : Program} {w : World} {K : PySem.W.Frag} {mg : Str → Option Value} {base : Heap}

abbrev st_is_name : Stmt := top 7
theorem sc_is_name : FnScope N_is_name ["value"] (defScope st_is_name) := ⟨rfl, rfl, rfl, by decide +kernel, rfl, by decide +kernel, by decide +kernel⟩
theorem ok_is_name (T : Txt K mg) : HasD P w K mg base 1 "is_name" ["value"] m_is_name := hasD (N := N_is_name) T.d_is_name sc_is_name fun f cdv A outer s H E hr hg =>
    (ss_cons (ss_if (PW.pt (sw_or (st_not (st_tru (sx_isi (by rfl) T.b_isinstance (by rfl) T.b_str (by decide +kernel) (sx_var 0)))) (sw_or (st_not (st_chn (op_leD (U hr)) (op_leD (U hr)).toOpOk sx_int (sx_callB c_len (by rfl) T.b_len (by decide +kernel) (sx_var 0)) (sx_gint T.c_LONGEST))) (sw_or1 (st_cmp (op_ninA (U5 hr)).toOpOk (sx_ix (U1 hr) (sx_var 0) sx_int (fun _ _ => rfl)) (sx_gstr T.c_SMALL) rfl))))) (ss_cons (ss_ret sx_bl)
    ss_nil) ss_nil)
    (ss_cons (ss_ret (sx_callB (c_all rfl) (by rfl) T.b_all (by decide +kernel) (sx_lc (own := [("sign", 1)]) rfl sc_is_name.nd (si_str (sx_var 0)) (blkOk_by (N := N_is_name) (sc := (defScope st_is_name)) (own := [("sign", 1)]) (by decide +kernel)) (fun _ _ _ _ _ => (sg_name (i := 1) sc_is_name.nd rfl (by first | exact Or.inl rfl | exact Or.inr rfl))) (fun _ _ _ _ _ => sts_nil) (fun _ _ _ _ _ => (sx_cmp (op_inA (U5 hr)).toOpOk (sx_var 1) (sx_bin op_addD (sx_gstr T.c_SMALL) (sx_gstr T.c_FIGURES)) rfl)))))
    ss_nil))

abbrev st_are_ascending : Stmt := top 8
theorem sc_are_ascending : FnScope N_are_ascending ["values"] (defScope st_are_ascending) := ⟨rfl, rfl, rfl, by decide +kernel, rfl, by decide +kernel, by decide +kernel⟩
theorem ok_are_ascending (T : Txt K mg) : HasD P w K mg base 1 "are_ascending" ["values"] m_are_ascending := hasD (N := N_are_ascending) T.d_are_ascending sc_are_ascending fun f cdv A outer s H E hr hg =>
    (ss_cons (ss_ret (sx_callB (c_all rfl) (by rfl) T.b_all (by decide +kernel) (sx_lc (own := [("one", 1), ("other", 2)]) rfl sc_are_ascending.nd (si_zip (by rfl) T.b_zip (sx_var 0) (sx_sl (sx_var 0) (sp_some sx_int) sp_none)) (blkOk_by (N := N_are_ascending) (sc := (defScope st_are_ascending)) (own := [("one", 1), ("other", 2)]) (by decide +kernel)) (fun _ _ _ _ _ => (sg_tup rfl (sgs_cons (sg_name (i := 1) sc_are_ascending.nd rfl (by first | exact Or.inl rfl | exact Or.inr rfl)) (sgs_cons (sg_name (i := 2) sc_are_ascending.nd rfl (by first | exact Or.inl rfl | exact Or.inr rfl)) sgs_nil)))) (fun _ _ _ _ _ => sts_nil) (fun _ _ _ _ _ => (sx_cmp (op_ltD (U hr)).toOpOk (sx_var 1) (sx_var 2) (nomark _))))))
    ss_nil)

abbrev st_is_within : Stmt := top 9
theorem sc_is_within : FnScope N_is_within ["value", "low", "high"] (defScope st_is_within) := ⟨rfl, rfl, rfl, by decide +kernel, rfl, by decide +kernel, by decide +kernel⟩
theorem ok_is_within (T : Txt K mg) : HasD P w K mg base 1 "is_within" ["value", "low", "high"] m_is_within := hasD (N := N_is_within) T.d_is_within sc_is_within fun f cdv A outer s H E hr hg =>
    (ss_cons (ss_ret (sx_and (sx_isi (by rfl) T.b_isinstance (by rfl) T.b_int (by decide +kernel) (sx_var 0)) (sx_and (sx_not (sx_isi (by rfl) T.b_isinstance (by rfl) T.b_bool (by decide +kernel) (sx_var 0))) (sx_one (sx_chn (op_leD (U hr)) (op_leD (U hr)).toOpOk (sx_var 1) (sx_var 0) (sx_var 2))))))
    ss_nil)

abbrev st_is_part : Stmt := top 14
theorem sc_is_part : FnScope N_is_part ["value"] (defScope st_is_part) := ⟨rfl, rfl, rfl, by decide +kernel, rfl, by decide +kernel, by decide +kernel⟩
theorem ok_is_part (T : Txt K mg) : HasD P w K mg base 2 "is_part" ["value"] m_is_part := hasD (N := N_is_part) T.d_is_part sc_is_part fun f cdv A outer s H E hr hg =>
    (ss_cons (ss_if (PW.pt (sw_or (st_not (st_tru (sx_isi (by rfl) T.b_isinstance (by rfl) T.b_tuple (by decide +kernel) (sx_var 0)))) (sw_or (st_cmp (op_neDD (U hr)).toOpOk (sx_callB c_len (by rfl) T.b_len (by decide +kernel) (sx_var 0)) sx_int (nomark _)) (sw_or1 (st_not (st_tru (sx_def (ok_is_name T) (by decide) hr hg takesBody (sg_v (sx_ix (U1 hr) (sx_var 0) sx_int (fun _ _ => rfl)) sg_nil)))))))) (ss_cons (ss_ret sx_bl)
    ss_nil) ss_nil)
    (ss_cons (ss_ret (sx_and (sx_def (ok_is_within T) (by decide) hr hg takesBody (sg_v (sx_ix (U1 hr) (sx_var 0) sx_int (fun _ _ => rfl)) (sg_v sx_int (sg_v sx_int sg_nil)))) (sx_one (sx_def (ok_is_within T) (by decide) hr hg takesBody (sg_v (sx_ix (U1 hr) (sx_var 0) sx_int (fun _ _ => rfl)) (sg_v sx_int (sg_v sx_int sg_nil)))))))
    ss_nil))

abbrev st_is_garment : Stmt := top 15
theorem sc_is_garment : FnScope N_is_garment ["value"] (defScope st_is_garment) := ⟨rfl, rfl, rfl, by decide +kernel, rfl, by decide +kernel, by decide +kernel⟩
theorem ok_is_garment (T : Txt K mg) : HasD P w K mg base 3 "is_garment" ["value"] m_is_garment := hasD (N := N_is_garment) T.d_is_garment sc_is_garment fun f cdv A outer s H E hr hg =>
    (ss_cons (ss_if (PW.pt (sw_or (st_not (st_tru (sx_isi (by rfl) T.b_isinstance (by rfl) T.b_tuple (by decide +kernel) (sx_var 0)))) (sw_or (st_not (st_chn (op_leD (U hr)) (op_leD (U hr)).toOpOk sx_int (sx_callB c_len (by rfl) T.b_len (by decide +kernel) (sx_var 0)) (sx_gint T.c_MOST_MEASURES))) (sw_or1 (st_not (st_tru (sx_callB (c_all rfl) (by rfl) T.b_all (by decide +kernel) (sx_lc (own := [("row", 3)]) rfl sc_is_garment.nd (si_seq (sx_var 0)) (blkOk_by (N := N_is_garment) (sc := (defScope st_is_garment)) (own := [("row", 3)]) (by decide +kernel)) (fun _ _ _ _ _ => (sg_name (i := 3) sc_is_garment.nd rfl (by first | exact Or.inl rfl | exact Or.inr rfl))) (fun _ _ _ _ _ => sts_nil) (fun _ _ _ _ _ => (sx_def (ok_is_part T) (by decide) hr hg takesW0 (sg_v (sx_var 3) sg_nil))))))))))) (ss_cons (ss_ret sx_bl)
    ss_nil) ss_nil)
    (ss_cons (ss_ret (sx_def (ok_are_ascending T) (by decide) hr hg takesBody (sg_v (sx_lc (own := [("name", 1), ("_", 2)]) rfl sc_is_garment.nd (si_seq (sx_var 0)) (blkOk_by (N := N_is_garment) (sc := (defScope st_is_garment)) (own := [("name", 1), ("_", 2)]) (by decide +kernel)) (fun _ _ _ _ _ => (sg_tup rfl (sgs_cons (sg_name (i := 1) sc_is_garment.nd rfl (by first | exact Or.inl rfl | exact Or.inr rfl)) (sgs_cons (sg_name (i := 2) sc_is_garment.nd rfl (by first | exact Or.inl rfl | exact Or.inr rfl)) (sgs_cons (sg_name (i := 2) sc_is_garment.nd rfl (by first | exact Or.inl rfl | exact Or.inr rfl)) sgs_nil))))) (fun _ _ _ _ _ => sts_nil) (fun _ _ _ _ _ => (sx_var 1))) sg_nil)))
    ss_nil))

abbrev st_is_integer : Stmt := top 16
theorem sc_is_integer : FnScope N_is_integer ["value"] (defScope st_is_integer) := ⟨rfl, rfl, rfl, by decide +kernel, rfl, by decide +kernel, by decide +kernel⟩
theorem ok_is_integer (T : Txt K mg) : HasD P w K mg base 1 "is_integer" ["value"] m_is_integer := hasD (N := N_is_integer) T.d_is_integer sc_is_integer fun f cdv A outer s H E hr hg =>
    (ss_cons (ss_ret (sx_and (sx_isi (by rfl) T.b_isinstance (by rfl) T.b_int (by decide +kernel) (sx_var 0)) (sx_one (sx_not (sx_isi (by rfl) T.b_isinstance (by rfl) T.b_bool (by decide +kernel) (sx_var 0))))))
    ss_nil)

abbrev st_is_span : Stmt := top 17
theorem sc_is_span : FnScope N_is_span ["value"] (defScope st_is_span) := ⟨rfl, rfl, rfl, by decide +kernel, rfl, by decide +kernel, by decide +kernel⟩
theorem ok_is_span (T : Txt K mg) : HasD P w K mg base 2 "is_span" ["value"] m_is_span := hasD (N := N_is_span) T.d_is_span sc_is_span fun f cdv A outer s H E hr hg =>
    (ss_cons (ss_if (PW.pt (sw_or (st_not (st_tru (sx_isi (by rfl) T.b_isinstance (by rfl) T.b_tuple (by decide +kernel) (sx_var 0)))) (sw_or (st_cmp (op_neDD (U hr)).toOpOk (sx_callB c_len (by rfl) T.b_len (by decide +kernel) (sx_var 0)) sx_int (nomark _)) (sw_or1 (st_not (st_tru (sx_callB (c_all rfl) (by rfl) T.b_all (by decide +kernel) (sx_lc (own := [("one", 1)]) rfl sc_is_span.nd (si_seq (sx_var 0)) (blkOk_by (N := N_is_span) (sc := (defScope st_is_span)) (own := [("one", 1)]) (by decide +kernel)) (fun _ _ _ _ _ => (sg_name (i := 1) sc_is_span.nd rfl (by first | exact Or.inl rfl | exact Or.inr rfl))) (fun _ _ _ _ _ => sts_nil) (fun _ _ _ _ _ => (sx_def (ok_is_integer T) (by decide) hr hg takesW0 (sg_v (sx_var 1) sg_nil))))))))))) (ss_cons (ss_ret sx_bl)
    ss_nil) ss_nil)
    (ss_cons (ss_ret (sx_cmp (op_leD (U hr)).toOpOk (sx_ix (U1 hr) (sx_var 0) sx_int (fun _ _ => rfl)) (sx_ix (U1 hr) (sx_var 0) sx_int (fun _ _ => rfl)) (nomark _)))
    ss_nil))

abbrev st_is_need : Stmt := top 18
theorem sc_is_need : FnScope N_is_need ["value"] (defScope st_is_need) := ⟨rfl, rfl, rfl, by decide +kernel, rfl, by decide +kernel, by decide +kernel⟩
theorem ok_is_need (T : Txt K mg) : HasD P w K mg base 3 "is_need" ["value"] m_is_need := hasD (N := N_is_need) T.d_is_need sc_is_need fun f cdv A outer s H E hr hg =>
    (ss_cons (ss_if (PW.pt (sw_or (st_not (st_tru (sx_isi (by rfl) T.b_isinstance (by rfl) T.b_tuple (by decide +kernel) (sx_var 0)))) (sw_or (st_cmp (op_neDD (U hr)).toOpOk (sx_callB c_len (by rfl) T.b_len (by decide +kernel) (sx_var 0)) sx_int (nomark _)) (sw_or1 (st_not (st_tru (sx_def (ok_is_name T) (by decide) hr hg takesBody (sg_v (sx_ix (U1 hr) (sx_var 0) sx_int (fun _ _ => rfl)) sg_nil)))))))) (ss_cons (ss_ret sx_bl)
    ss_nil) ss_nil)
    (ss_cons (ss_ret (sx_or (sx_def (ok_is_span T) (by decide) hr hg takesBody (sg_v (sx_sl (sx_var 0) (sp_some sx_int) sp_none) sg_nil)) (sx_one (sx_and (sx_callB (c_all rfl) (by rfl) T.b_all (by decide +kernel) (sx_lc (own := [("one", 1)]) rfl sc_is_need.nd (si_seq (sx_sl (sx_var 0) (sp_some sx_int) sp_none)) (blkOk_by (N := N_is_need) (sc := (defScope st_is_need)) (own := [("one", 1)]) (by decide +kernel)) (fun _ _ _ _ _ => (sg_name (i := 1) sc_is_need.nd rfl (by first | exact Or.inl rfl | exact Or.inr rfl))) (fun _ _ _ _ _ => sts_nil) (fun _ _ _ _ _ => (sx_def (ok_is_integer T) (by decide) hr hg takesW0 (sg_v (sx_var 1) sg_nil))))) (sx_one (sx_cmp (op_eqDD (U hr)).toOpOk (sx_sl (sx_var 0) (sp_some sx_int) sp_none) (sx_gval T.c_NO_NEED) (nomark _)))))))
    ss_nil))

abbrev st_is_person : Stmt := top 19
theorem sc_is_person : FnScope N_is_person ["value"] (defScope st_is_person) := ⟨rfl, rfl, rfl, by decide +kernel, rfl, by decide +kernel, by decide +kernel⟩
theorem ok_is_person (T : Txt K mg) : HasD P w K mg base 4 "is_person" ["value"] m_is_person := hasD (N := N_is_person) T.d_is_person sc_is_person fun f cdv A outer s H E hr hg =>
    (ss_cons (ss_if (PW.pt (sw_or (st_not (st_tru (sx_isi (by rfl) T.b_isinstance (by rfl) T.b_tuple (by decide +kernel) (sx_var 0)))) (sw_or (st_cmp (op_neDD (U hr)).toOpOk (sx_callB c_len (by rfl) T.b_len (by decide +kernel) (sx_var 0)) sx_int (nomark _)) (sw_or (st_not (st_tru (sx_def (ok_is_name T) (by decide) hr hg takesBody (sg_v (sx_ix (U1 hr) (sx_var 0) sx_int (fun _ _ => rfl)) sg_nil)))) (sw_or1 (st_not (st_tru (sx_isi (by rfl) T.b_isinstance (by rfl) T.b_tuple (by decide +kernel) (sx_ix (U1 hr) (sx_var 0) sx_int (fun _ _ => rfl)))))))))) (ss_cons (ss_ret sx_bl)
    ss_nil) ss_nil)
    (ss_cons (ss_ret (sx_and (sx_callB (c_all rfl) (by rfl) T.b_all (by decide +kernel) (sx_lc (own := [("need", 1)]) rfl sc_is_person.nd (si_seq (sx_ix (U1 hr) (sx_var 0) sx_int (fun _ _ => rfl))) (blkOk_by (N := N_is_person) (sc := (defScope st_is_person)) (own := [("need", 1)]) (by decide +kernel)) (fun _ _ _ _ _ => (sg_name (i := 1) sc_is_person.nd rfl (by first | exact Or.inl rfl | exact Or.inr rfl))) (fun _ _ _ _ _ => sts_nil) (fun _ _ _ _ _ => (sx_def (ok_is_need T) (by decide) hr hg takesW0 (sg_v (sx_var 1) sg_nil))))) (sx_one (sx_def (ok_are_ascending T) (by decide) hr hg takesBody (sg_v (sx_lc (own := [("need", 1)]) rfl sc_is_person.nd (si_seq (sx_ix (U1 hr) (sx_var 0) sx_int (fun _ _ => rfl))) (blkOk_by (N := N_is_person) (sc := (defScope st_is_person)) (own := [("need", 1)]) (by decide +kernel)) (fun _ _ _ _ _ => (sg_name (i := 1) sc_is_person.nd rfl (by first | exact Or.inl rfl | exact Or.inr rfl))) (fun _ _ _ _ _ => sts_nil) (fun _ _ _ _ _ => (sx_ix (U1 hr) (sx_var 1) sx_int (fun _ _ => rfl)))) sg_nil)))))
    ss_nil))

abbrev st_check_garment : Stmt := top 20
theorem sc_check_garment : FnScope N_check_garment ["garment", "top"] (defScope st_check_garment) := ⟨rfl, rfl, rfl, by decide +kernel, rfl, by decide +kernel, by decide +kernel⟩
theorem ok_check_garment (T : Txt K mg) : HasD P w K mg base 4 "check_garment" ["garment", "top"] m_check_garment := hasD (N := N_check_garment) T.d_check_garment sc_check_garment fun f cdv A outer s H E hr hg =>
    (ss_cons (ss_if (PW.pt (sw_or (st_not (st_tru (sx_def (ok_is_garment T) (by decide) hr hg takesBody (sg_v (sx_var 0) sg_nil)))) (sw_or1 (st_not (st_tru (sx_def (ok_is_within T) (by decide) hr hg takesBody (sg_v (sx_var 1) (sg_v sx_int (sg_v (sx_gint T.c_TOP_SIZE) sg_nil))))))))) (ss_cons (ss_rai T.e_NotRight rfl takesBody)
    ss_nil) ss_nil)
    ss_nil)

abbrev st_check_person : Stmt := top 21
theorem sc_check_person : FnScope N_check_person ["person"] (defScope st_check_person) := ⟨rfl, rfl, rfl, by decide +kernel, rfl, by decide +kernel, by decide +kernel⟩
theorem ok_check_person (T : Txt K mg) : HasD P w K mg base 5 "check_person" ["person"] m_check_person := hasD (N := N_check_person) T.d_check_person sc_check_person fun f cdv A outer s H E hr hg =>
    (ss_cons (ss_if (st_not (st_tru (sx_def (ok_is_person T) (by decide) hr hg takesBody (sg_v (sx_var 0) sg_nil)))) (ss_cons (ss_rai T.e_NotRight rfl takesBody)
    ss_nil) ss_nil)
    ss_nil)

abbrev st_does_serve : Stmt := top 22
theorem sc_does_serve : FnScope N_does_serve ["garment", "size", "person"] (defScope st_does_serve) := ⟨rfl, rfl, rfl, by decide +kernel, rfl, by decide +kernel, by decide +kernel⟩
theorem ok_does_serve (T : Txt K mg) : HasD P w K mg base 1 "does_serve" ["garment", "size", "person"] m_does_serve := hasD (N := N_does_serve) T.d_does_serve sc_does_serve fun f cdv A outer s H E hr hg =>
    (ss_cons (ss_set (i := 3) sc_does_serve.nd rfl (by first | exact Or.inl rfl | exact Or.inr rfl) (sx_dc (own := [("name", 4), ("base", 5), ("step", 6)]) rfl sc_does_serve.nd (si_seq (sx_var 0)) (blkOk_by (N := N_does_serve) (sc := (defScope st_does_serve)) (own := [("name", 4), ("base", 5), ("step", 6)]) (by decide +kernel)) (fun _ _ _ _ _ => (sg_tup rfl (sgs_cons (sg_name (i := 4) sc_does_serve.nd rfl (by first | exact Or.inl rfl | exact Or.inr rfl)) (sgs_cons (sg_name (i := 5) sc_does_serve.nd rfl (by first | exact Or.inl rfl | exact Or.inr rfl)) (sgs_cons (sg_name (i := 6) sc_does_serve.nd rfl (by first | exact Or.inl rfl | exact Or.inr rfl)) sgs_nil))))) (fun _ _ _ _ _ => sts_nil) (fun _ _ _ _ _ => (sx_var 4)) (fun _ _ _ _ _ => (sx_bin op_addD (sx_var 5) (sx_bin op_mulD (sx_var 1) (sx_var 6))))))
    (ss_cons (ss_ret (sx_callB (c_all rfl) (by rfl) T.b_all (by decide +kernel) (sx_lc (own := [("name", 4), ("least", 7), ("most", 8)]) rfl sc_does_serve.nd (si_seq (sx_ix (U1 hr) (sx_var 2) sx_int (fun _ _ => rfl))) (blkOk_by (N := N_does_serve) (sc := (defScope st_does_serve)) (own := [("name", 4), ("least", 7), ("most", 8)]) (by decide +kernel)) (fun _ _ _ _ _ => (sg_tup rfl (sgs_cons (sg_name (i := 4) sc_does_serve.nd rfl (by first | exact Or.inl rfl | exact Or.inr rfl)) (sgs_cons (sg_name (i := 7) sc_does_serve.nd rfl (by first | exact Or.inl rfl | exact Or.inr rfl)) (sgs_cons (sg_name (i := 8) sc_does_serve.nd rfl (by first | exact Or.inl rfl | exact Or.inr rfl)) sgs_nil))))) (fun _ _ _ _ _ => sts_nil) (fun _ _ _ _ _ => (sx_and (sx_cmp (op_inA (U5 hr)).toOpOk (sx_var 4) (sx_var 3) rfl) (sx_one (sx_chn (op_leD (U hr)) (op_leD (U hr)).toOpOk (sx_var 7) (sx_ix (U1 hr) (sx_var 3) (sx_var 4) (fun _ _ => rfl)) (sx_var 8))))))))
    ss_nil))

abbrev st_serves : Stmt := top 23
theorem sc_serves : FnScope N_serves ["garment", "top", "size", "person"] (defScope st_serves) := ⟨rfl, rfl, rfl, by decide +kernel, rfl, by decide +kernel, by decide +kernel⟩
theorem ok_serves (T : Txt K mg) : HasD P w K mg base 6 "serves" ["garment", "top", "size", "person"] m_serves := hasD (N := N_serves) T.d_serves sc_serves fun f cdv A outer s H E hr hg =>
    (ss_cons (ss_exp (sx_def (ok_check_garment T) (by decide) hr hg takesBody (sg_v (sx_var 0) (sg_v (sx_var 1) sg_nil))))
    (ss_cons (ss_exp (sx_def (ok_check_person T) (by decide) hr hg takesBody (sg_v (sx_var 3) sg_nil)))
    (ss_cons (ss_if (st_not (st_tru (sx_def (ok_is_within T) (by decide) hr hg takesBody (sg_v (sx_var 2) (sg_v sx_int (sg_v (sx_var 1) sg_nil)))))) (ss_cons (ss_rai T.e_NotThere rfl takesBody)
    ss_nil) ss_nil)
    (ss_cons (ss_ret (sx_def (ok_does_serve T) (by decide) hr hg takesBody (sg_v (sx_var 0) (sg_v (sx_var 2) (sg_v (sx_var 3) sg_nil)))))
    ss_nil))))

abbrev st_check_bounds : Stmt := top 24
theorem sc_check_bounds : FnScope N_check_bounds ["person", "bounds"] (defScope st_check_bounds) := ⟨rfl, rfl, rfl, by decide +kernel, rfl, by decide +kernel, by decide +kernel⟩
theorem ok_check_bounds (T : Txt K mg) : HasD P w K mg base 6 "check_bounds" ["person", "bounds"] m_check_bounds := hasD (N := N_check_bounds) T.d_check_bounds sc_check_bounds fun f cdv A outer s H E hr hg =>
    (ss_cons (ss_exp (sx_def (ok_check_person T) (by decide) hr hg takesBody (sg_v (sx_var 0) sg_nil)))
    (ss_cons (ss_if (PW.pt (sw_or (st_not (st_tru (sx_isi (by rfl) T.b_isinstance (by rfl) T.b_dict (by decide +kernel) (sx_var 1)))) (sw_or1 (st_cmp (op_neDD (U hr)).toOpOk (sx_callB (c_sorted rfl (U hr)) (by rfl) T.b_sorted (by decide +kernel) (sx_var 1)) (sx_lc (own := [("need", 2)]) rfl sc_check_bounds.nd (si_seq (sx_ix (U1 hr) (sx_var 0) sx_int (fun _ _ => rfl))) (blkOk_by (N := N_check_bounds) (sc := (defScope st_check_bounds)) (own := [("need", 2)]) (by decide +kernel)) (fun _ _ _ _ _ => (sg_name (i := 2) sc_check_bounds.nd rfl (by first | exact Or.inl rfl | exact Or.inr rfl))) (fun _ _ _ _ _ => sts_nil) (fun _ _ _ _ _ => (sx_ix (U1 hr) (sx_var 2) sx_int (fun _ _ => rfl)))) (nomark _))))) (ss_cons (ss_rai T.e_NotRight rfl takesBody)
    ss_nil) ss_nil)
    (ss_cons (ss_if (st_not (st_tru (sx_callB (c_all rfl) (by rfl) T.b_all (by decide +kernel) (sx_lcD (own := [("pair", 3)]) dw_vals rfl sc_check_bounds.nd (pi_values (pe_var (i := 1) rfl (by first | exact Or.inl rfl | exact Or.inr (Or.inl rfl) | exact Or.inr (Or.inr rfl)))) (blkOk_by (N := N_check_bounds) (sc := (defScope st_check_bounds)) (own := [("pair", 3)]) (by decide +kernel)) (fun _ _ _ _ _ => (sg_name (i := 3) sc_check_bounds.nd rfl (by first | exact Or.inl rfl | exact Or.inr rfl))) (fun _ _ _ _ _ => sts_nil) (fun _ _ _ _ _ => (sx_def (ok_is_span T) (by decide) hr hg takesW0 (sg_v (sx_var 3) sg_nil))))))) (ss_cons (ss_rai T.e_NotRight rfl takesBody)
    ss_nil) ss_nil)
    ss_nil)))

abbrev st_moved_person : Stmt := top 25
theorem sc_moved_person : FnScope N_moved_person ["person", "more"] (defScope st_moved_person) := ⟨rfl, rfl, rfl, by decide +kernel, rfl, by decide +kernel, by decide +kernel⟩
theorem ok_moved_person (T : Txt K mg) : HasD P w K mg base 1 "moved_person" ["person", "more"] m_moved_person := hasD (N := N_moved_person) T.d_moved_person sc_moved_person fun f cdv A outer s H E hr hg =>
    (ss_cons (ss_set (i := 2) sc_moved_person.nd rfl (by first | exact Or.inl rfl | exact Or.inr rfl) (sx_lst sa_nil))
    (ss_cons (ss_for passesBody rfl (si_seq (sx_ix (U1 hr) (sx_var 0) sx_int (fun _ _ => rfl))) (sg_tup rfl (sgs_cons (sg_name (i := 3) sc_moved_person.nd rfl (by first | exact Or.inl rfl | exact Or.inr rfl)) (sgs_cons (sg_name (i := 4) sc_moved_person.nd rfl (by first | exact Or.inl rfl | exact Or.inr rfl)) (sgs_cons (sg_name (i := 5) sc_moved_person.nd rfl (by first | exact Or.inl rfl | exact Or.inr rfl)) sgs_nil)))) (ss_cons (ss_asg (sx_ix (U1 hr) (sx_var 1) (sx_var 3) (fun _ _ => rfl)) (sg_tup rfl (sgs_cons (sg_name (i := 7) sc_moved_person.nd rfl (by first | exact Or.inl rfl | exact Or.inr rfl)) (sgs_cons (sg_name (i := 8) sc_moved_person.nd rfl (by first | exact Or.inl rfl | exact Or.inr rfl)) sgs_nil))))
    (ss_cons (ss_set (i := 6) sc_moved_person.nd rfl (by first | exact Or.inl rfl | exact Or.inr rfl) (sx_and (sx_cmp (op_neDD (U hr)).toOpOk (sx_tup (sa_cons (sx_var 4) (sa_cons (sx_var 5) sa_nil))) (sx_gval T.c_NO_NEED) (nomark _)) (sx_one (sx_cmp (op_leD (U hr)).toOpOk (sx_bin op_addD (sx_var 4) (sx_var 7)) (sx_bin op_addD (sx_var 5) (sx_var 8)) (nomark _)))))
    (ss_cons (ss_exp (sx_app 2 (sx_ite (st_tru (sx_var 6)) (sx_tup (sa_cons (sx_var 3) (sa_cons (sx_bin op_addD (sx_var 4) (sx_var 7)) (sa_cons (sx_bin op_addD (sx_var 5) (sx_var 8)) sa_nil)))) (sx_tupS (si_one (sx_var 3) (si_all (sx_gval T.c_NO_NEED) si_nil))))))
    ss_nil))))
    (ss_cons (ss_ret (sx_tup (sa_cons (sx_ix (U1 hr) (sx_var 0) sx_int (fun _ _ => rfl)) (sa_cons (sx_callT c_tup (by rfl) T.b_tuple (by decide +kernel) (sx_var 2)) sa_nil))))
    ss_nil)))

abbrev st_sure_person : Stmt := top 26
theorem sc_sure_person : FnScope N_sure_person ["person", "bounds"] (defScope st_sure_person) := ⟨rfl, rfl, rfl, by decide +kernel, rfl, by decide +kernel, by decide +kernel⟩
theorem ok_sure_person (T : Txt K mg) : HasD P w K mg base 7 "sure_person" ["person", "bounds"] m_sure_person := hasD (N := N_sure_person) T.d_sure_person sc_sure_person fun f cdv A outer s H E hr hg =>
    (ss_cons (ss_exp (sx_def (ok_check_bounds T) (by decide) hr hg takesBody (sg_v (sx_var 0) (sg_v (sx_var 1) sg_nil))))
    (ss_cons (ss_ret (sx_def (ok_moved_person T) (by decide) hr hg takesBody (sg_v (sx_var 0) (sg_v (sx_dcD (own := [("name", 2), ("below", 3), ("above", 4)]) dw_items rfl sc_sure_person.nd (pi_items (pe_var (i := 1) rfl (by first | exact Or.inl rfl | exact Or.inr (Or.inl rfl) | exact Or.inr (Or.inr rfl)))) (blkOk_by (N := N_sure_person) (sc := (defScope st_sure_person)) (own := [("name", 2), ("below", 3), ("above", 4)]) (by decide +kernel)) (fun _ _ _ _ _ => (sg_tup rfl (sgs_cons (sg_name (i := 2) sc_sure_person.nd rfl (by first | exact Or.inl rfl | exact Or.inr rfl)) (sgs_cons (sg_tup rfl (sgs_cons (sg_name (i := 3) sc_sure_person.nd rfl (by first | exact Or.inl rfl | exact Or.inr rfl)) (sgs_cons (sg_name (i := 4) sc_sure_person.nd rfl (by first | exact Or.inl rfl | exact Or.inr rfl)) sgs_nil))) sgs_nil)))) (fun _ _ _ _ _ => sts_nil) (fun _ _ _ _ _ => (sx_var 2)) (fun _ _ _ _ _ => (sx_tup (sa_cons (sx_var 4) (sa_cons (sx_var 3) sa_nil))))) sg_nil))))
    ss_nil))

abbrev st_possible_person : Stmt := top 27
theorem sc_possible_person : FnScope N_possible_person ["person", "bounds"] (defScope st_possible_person) := ⟨rfl, rfl, rfl, by decide +kernel, rfl, by decide +kernel, by decide +kernel⟩
theorem ok_possible_person (T : Txt K mg) : HasD P w K mg base 7 "possible_person" ["person", "bounds"] m_possible_person := hasD (N := N_possible_person) T.d_possible_person sc_possible_person fun f cdv A outer s H E hr hg =>
    (ss_cons (ss_exp (sx_def (ok_check_bounds T) (by decide) hr hg takesBody (sg_v (sx_var 0) (sg_v (sx_var 1) sg_nil))))
    (ss_cons (ss_ret (sx_def (ok_moved_person T) (by decide) hr hg takesBody (sg_v (sx_var 0) (sg_v (sx_var 1) sg_nil))))
    ss_nil))

abbrev st__law_draws : Stmt := top 29
theorem sc__law_draws : FnScope N__law_draws ["script"] (defScope st__law_draws) := ⟨rfl, rfl, rfl, by decide +kernel, rfl, by decide +kernel, by decide +kernel⟩
theorem ok__law_draws (T : Txt K mg) : HasD P w K mg base 1 "_law_draws" ["script"] m__law_draws := hasD (N := N__law_draws) T.d__law_draws sc__law_draws fun f cdv A outer s H E hr hg =>
    (ss_cons (ss_set (i := 1) sc__law_draws.nd rfl (by first | exact Or.inl rfl | exact Or.inr rfl) (sx_lst sa_nil))
    (ss_cons (ss_for passesBody rfl (si_seq (sx_var 0)) (sg_name (i := 2) sc__law_draws.nd rfl (by first | exact Or.inl rfl | exact Or.inr rfl)) (ss_cons (ss_set (i := 5) sc__law_draws.nd rfl (by first | exact Or.inl rfl | exact Or.inr rfl) (sx_callB c_abs (by rfl) T.b_abs (by decide +kernel) (sx_var 2)))
    (ss_cons (ss_if (st_cmp (op_ltD (U hr)).toOpOk (sx_var 5) (sx_bin op_powD sx_int sx_int) (nomark _)) (ss_cons (ss_set (i := 6) sc__law_draws.nd rfl (by first | exact Or.inl rfl | exact Or.inr rfl) (sx_bin op_modD (sx_callT c_int (by rfl) T.b_int (by decide +kernel) (sx_bin op_addD (sx_bin op_mulD (sx_var 5) sx_int) sx_int)) sx_int))
    (ss_cons (ss_exp (sx_app 1 (sx_bin op_modD (sx_callT c_int (by rfl) T.b_int (by decide +kernel) (sx_bin op_addD (sx_bin op_mulD (sx_var 6) sx_int) (sx_var 5))) sx_int)))
    (ss_cons (ss_exp (sx_app 1 (sx_bin op_modD (sx_callT c_int (by rfl) T.b_int (by decide +kernel) (sx_bin op_addD (sx_var 6) (sx_bin op_fdivD (sx_var 5) sx_int))) sx_int)))
    (ss_cons (ss_set (i := 5) sc__law_draws.nd rfl (by first | exact Or.inl rfl | exact Or.inr rfl) sx_int)
    ss_nil)))) ss_nil)
    (ss_cons (ss_for passesBody rfl (si_rng1 (by rfl) T.b_range sx_int) (sg_name (i := 4) sc__law_draws.nd rfl (by first | exact Or.inl rfl | exact Or.inr rfl)) (ss_cons (ss_if (st_cmp (op_gtD (U hr)).toOpOk (sx_var 5) sx_int (nomark _)) (ss_cons (ss_exp (sx_app 1 (sx_bin op_modD (sx_callT c_int (by rfl) T.b_int (by decide +kernel) (sx_var 5)) sx_int)))
    (ss_cons (ss_set (i := 5) sc__law_draws.nd rfl (by first | exact Or.inl rfl | exact Or.inr rfl) (sx_bin op_fdivD (sx_var 5) sx_int))
    ss_nil)) ss_nil)
    ss_nil))
    ss_nil))))
    (ss_cons (ss_set (i := 3) sc__law_draws.nd rfl (by first | exact Or.inl rfl | exact Or.inr rfl) sx_int)
    (ss_cons (ss_if (st_cmp (op_gtD (U hr)).toOpOk (sx_callB c_len (by rfl) T.b_len (by decide +kernel) (sx_var 0)) sx_int (nomark _)) (ss_cons (ss_set (i := 3) sc__law_draws.nd rfl (by first | exact Or.inl rfl | exact Or.inr rfl) (sx_bin op_addD sx_int (sx_callB c_abs (by rfl) T.b_abs (by decide +kernel) (sx_ix (U1 hr) (sx_var 0) sx_int (fun _ _ => rfl)))))
    ss_nil) ss_nil)
    (ss_cons (ss_for passesBody rfl (si_rng1 (by rfl) T.b_range sx_int) (sg_name (i := 4) sc__law_draws.nd rfl (by first | exact Or.inl rfl | exact Or.inr rfl)) (ss_cons (ss_set (i := 3) sc__law_draws.nd rfl (by first | exact Or.inl rfl | exact Or.inr rfl) (sx_bin op_modD (sx_callT c_int (by rfl) T.b_int (by decide +kernel) (sx_bin op_addD (sx_bin op_mulD (sx_var 3) sx_int) sx_int)) sx_int))
    (ss_cons (ss_exp (sx_app 1 (sx_bin op_fdivD (sx_var 3) sx_int)))
    ss_nil)))
    (ss_cons (ss_ret (sx_lrev rfl (by rfl) T.b_list (by rfl) T.b_reversed (sx_var 1)))
    ss_nil))))))

abbrev st__law_take : Stmt := top 30
theorem sc__law_take : FnScope N__law_take ["draws", "bound"] (defScope st__law_take) := ⟨rfl, rfl, rfl, by decide +kernel, rfl, by decide +kernel, by decide +kernel⟩
theorem ok__law_take (T : Txt K mg) : HasD P w K mg base 1 "_law_take" ["draws", "bound"] m__law_take := hasD (N := N__law_take) T.d__law_take sc__law_take fun f cdv A outer s H E hr hg =>
    (ss_cons (ss_if (st_cmp (op_eqDD (U hr)).toOpOk (sx_callB c_len (by rfl) T.b_len (by decide +kernel) (sx_var 0)) sx_int (nomark _)) (ss_cons (ss_ret sx_int)
    ss_nil) ss_nil)
    (ss_cons (ss_ret (sx_bin op_modD (sx_callT c_int (by rfl) T.b_int (by decide +kernel) (sx_pop 0)) (sx_var 1)))
    ss_nil))

abbrev st__law_pick : Stmt := top 31
theorem sc__law_pick : FnScope N__law_pick ["draws", "some"] (defScope st__law_pick) := ⟨rfl, rfl, rfl, by decide +kernel, rfl, by decide +kernel, by decide +kernel⟩
theorem ok__law_pick (T : Txt K mg) : HasD P w K mg base 2 "_law_pick" ["draws", "some"] m__law_pick := hasD (N := N__law_pick) T.d__law_pick sc__law_pick fun f cdv A outer s H E hr hg =>
    (ss_cons (ss_ret (sx_ix (U1 hr) (sx_var 1) (sx_def (ok__law_take T) (by decide) hr hg takesBody (sg_r 0 (sg_v (sx_callB c_len (by rfl) T.b_len (by decide +kernel) (sx_var 1)) sg_nil))) (fun _ _ => rfl)))
    ss_nil)

abbrev st__law_world : Stmt := top 32
theorem sc__law_world : FnScope N__law_world ["draws"] (defScope st__law_world) := ⟨rfl, rfl, rfl, by decide +kernel, rfl, by decide +kernel, by decide +kernel⟩
theorem ok__law_world (T : Txt K mg) : HasD P w K mg base 2 "_law_world" ["draws"] m__law_world := hasD (N := N__law_world) T.d__law_world sc__law_world fun f cdv A outer s H E hr hg =>
    (ss_cons (ss_set (i := 1) sc__law_world.nd rfl (by first | exact Or.inl rfl | exact Or.inr rfl) (sx_sl (sx_lst (sa_cons sx_str (sa_cons sx_str (sa_cons sx_str sa_nil)))) sp_none (sp_some (sx_bin op_addD sx_int (sx_def (ok__law_take T) (by decide) hr hg takesBody (sg_r 0 (sg_v sx_int sg_nil)))))))
    (ss_cons (ss_set (i := 2) sc__law_world.nd rfl (by first | exact Or.inl rfl | exact Or.inr rfl) (sx_callT c_tup (by rfl) T.b_tuple (by decide +kernel) (sx_lc (own := [("name", 4)]) rfl sc__law_world.nd (si_seq (sx_var 1)) (blkOk_by (N := N__law_world) (sc := (defScope st__law_world)) (own := [("name", 4)]) (by decide +kernel)) (fun _ _ _ _ _ => (sg_name (i := 4) sc__law_world.nd rfl (by first | exact Or.inl rfl | exact Or.inr rfl))) (fun _ _ _ _ _ => sts_nil) (fun _ _ _ _ _ => (sx_tup (sa_cons (sx_var 4) (sa_cons (sx_bin op_addD sx_int (sx_def (ok__law_take T) (by decide) hr hg takesW0 (sg_r 0 (sg_v sx_int sg_nil)))) (sa_cons (sx_def (ok__law_take T) (by decide) hr hg takesW0 (sg_r 0 (sg_v sx_int sg_nil))) sa_nil))))))))
    (ss_cons (ss_set (i := 3) sc__law_world.nd rfl (by first | exact Or.inl rfl | exact Or.inr rfl) (sx_lst sa_nil))
    (ss_cons (ss_for passesBody rfl (si_seq (sx_var 1)) (sg_name (i := 4) sc__law_world.nd rfl (by first | exact Or.inl rfl | exact Or.inr rfl)) (ss_cons (ss_set (i := 6) sc__law_world.nd rfl (by first | exact Or.inl rfl | exact Or.inr rfl) (sx_bin op_subD (sx_def (ok__law_take T) (by decide) hr hg takesBody (sg_r 0 (sg_v sx_int sg_nil))) sx_int))
    (ss_cons (ss_exp (sx_app 3 (sx_tup (sa_cons (sx_var 4) (sa_cons (sx_var 6) (sa_cons (sx_bin op_addD (sx_var 6) (sx_def (ok__law_take T) (by decide) hr hg takesBody (sg_r 0 (sg_v sx_int sg_nil)))) sa_nil))))))
    ss_nil)))
    (ss_cons (ss_if (st_cmp (op_eqDD (U hr)).toOpOk (sx_def (ok__law_take T) (by decide) hr hg takesBody (sg_r 0 (sg_v sx_int sg_nil))) sx_int (nomark _)) (ss_cons (ss_put 3 (U1 hr) (sx_tup (sa_cons (sx_ix (U1 hr) (sx_ix (U1 hr) (sx_var 3) sx_int (fun _ _ => rfl)) sx_int (fun _ _ => rfl)) (sa_cons sx_int (sa_cons sx_int sa_nil)))) sx_int)
    ss_nil) ss_nil)
    (ss_cons (ss_set (i := 5) sc__law_world.nd rfl (by first | exact Or.inl rfl | exact Or.inr rfl) sx_newD)
    (ss_cons (ss_for passesBody rfl (si_seq (sx_var 1)) (sg_name (i := 4) sc__law_world.nd rfl (by first | exact Or.inl rfl | exact Or.inr rfl)) (ss_cons (ss_set (i := 7) sc__law_world.nd rfl (by first | exact Or.inl rfl | exact Or.inr rfl) (sx_bin op_addD sx_int (sx_def (ok__law_take T) (by decide) hr hg takesBody (sg_r 0 (sg_v sx_int sg_nil)))))
    (ss_cons (ss_put 5 (U1 hr) (sx_tup (sa_cons (sx_var 7) (sa_cons (sx_bin op_addD (sx_var 7) (sx_def (ok__law_take T) (by decide) hr hg takesBody (sg_r 0 (sg_v sx_int sg_nil)))) sa_nil))) (sx_var 4))
    ss_nil)))
    (ss_cons (ss_ret (sx_tup (sa_cons (sx_var 2) (sa_cons (sx_def (ok__law_take T) (by decide) hr hg takesBody (sg_r 0 (sg_v sx_int sg_nil))) (sa_cons (sx_tup (sa_cons sx_str (sa_cons (sx_callT c_tup (by rfl) T.b_tuple (by decide +kernel) (sx_var 3)) sa_nil))) (sa_cons (sx_var 5) sa_nil))))))
    ss_nil))))))))

abbrev st__law_fits : Stmt := top 33
theorem sc__law_fits : FnScope N__law_fits ["garment", "size", "need", "body"] (defScope st__law_fits) := ⟨rfl, rfl, rfl, by decide +kernel, rfl, by decide +kernel, by decide +kernel⟩
theorem ok__law_fits (T : Txt K mg) : HasD P w K mg base 1 "_law_fits" ["garment", "size", "need", "body"] m__law_fits := hasD (N := N__law_fits) T.d__law_fits sc__law_fits fun f cdv A outer s H E hr hg =>
    (ss_cons (ss_for passesBody rfl (si_seq (sx_var 0)) (sg_tup rfl (sgs_cons (sg_name (i := 4) sc__law_fits.nd rfl (by first | exact Or.inl rfl | exact Or.inr rfl)) (sgs_cons (sg_name (i := 5) sc__law_fits.nd rfl (by first | exact Or.inl rfl | exact Or.inr rfl)) (sgs_cons (sg_name (i := 6) sc__law_fits.nd rfl (by first | exact Or.inl rfl | exact Or.inr rfl)) sgs_nil)))) (ss_cons (ss_if (st_cmp (op_eqDD (U hr)).toOpOk (sx_var 4) (sx_ix (U1 hr) (sx_var 2) sx_int (fun _ _ => rfl)) (nomark _)) (ss_cons (ss_ret (sx_chn (op_leD (U hr)) (op_leD (U hr)).toOpOk (sx_ix (U1 hr) (sx_var 2) sx_int (fun _ _ => rfl)) (sx_bin op_subD (sx_bin op_addD (sx_var 5) (sx_bin op_mulD (sx_var 1) (sx_var 6))) (sx_var 3)) (sx_ix (U1 hr) (sx_var 2) sx_int (fun _ _ => rfl))))
    ss_nil) ss_nil)
    ss_nil))
    (ss_cons (ss_ret sx_bl)
    ss_nil))

abbrev st__law_served : Stmt := top 34
theorem sc__law_served : FnScope N__law_served ["garment", "top", "person", "bounds", "all_bodies"] (defScope st__law_served) := ⟨rfl, rfl, rfl, by decide +kernel, rfl, by decide +kernel, by decide +kernel⟩
theorem ok__law_served (T : Txt K mg) : HasD P w K mg base 2 "_law_served" ["garment", "top", "person", "bounds", "all_bodies"] m__law_served := hasD (N := N__law_served) T.d__law_served sc__law_served fun f cdv A outer s H E hr hg =>
    (ss_cons (ss_set (i := 5) sc__law_served.nd rfl (by first | exact Or.inl rfl | exact Or.inr rfl) (sx_lst sa_nil))
    (ss_cons (ss_for passesBody rfl (si_rng1 (by rfl) T.b_range (sx_bin op_addD (sx_var 1) sx_int)) (sg_name (i := 6) sc__law_served.nd rfl (by first | exact Or.inl rfl | exact Or.inr rfl)) (ss_cons (ss_set (i := 7) sc__law_served.nd rfl (by first | exact Or.inl rfl | exact Or.inr rfl) sx_bl)
    (ss_cons (ss_for passesBody rfl (si_seq (sx_ix (U1 hr) (sx_var 2) sx_int (fun _ _ => rfl))) (sg_name (i := 8) sc__law_served.nd rfl (by first | exact Or.inl rfl | exact Or.inr rfl)) (ss_cons (ss_asg (sx_ix (U1 hr) (sx_var 3) (sx_ix (U1 hr) (sx_var 8) sx_int (fun _ _ => rfl)) (fun _ _ => rfl)) (sg_tup rfl (sgs_cons (sg_name (i := 10) sc__law_served.nd rfl (by first | exact Or.inl rfl | exact Or.inr rfl)) (sgs_cons (sg_name (i := 11) sc__law_served.nd rfl (by first | exact Or.inl rfl | exact Or.inr rfl)) sgs_nil))))
    (ss_cons (ss_setLc (i := 9) (own := [("body", 12)]) rfl sc__law_served.nd rfl rfl (sw_true rfl rfl rfl (by decide +kernel)) (si_rng2 (by rfl) T.b_range (sx_var 10) (sx_bin op_addD (sx_var 11) sx_int)) (blkOk_by (N := N__law_served) (sc := (defScope st__law_served)) (own := [("body", 12)]) (by decide +kernel)) (fun _ _ _ _ _ => (sg_name (i := 12) sc__law_served.nd rfl (by first | exact Or.inl rfl | exact Or.inr rfl))) (fun _ _ _ _ _ => sts_nil) (fun _ _ _ _ _ => (sx_def (ok__law_fits T) (by decide) hr hg takesW0 (sg_v (sx_var 0) (sg_v (sx_var 6) (sg_v (sx_var 8) (sg_v (sx_var 12) sg_nil)))))))
    (ss_cons (ss_if (PW.pt (sw_or (PW.pt (sw_and (st_tru (sx_var 4)) (sw_and1 (st_cmp (op_inA (U5 hr)).toOpOk sx_bl (sx_var 9) rfl)))) (sw_or1 (PW.pt (sw_and (st_not (st_tru (sx_var 4))) (sw_and1 (st_cmp (op_ninA (U5 hr)).toOpOk sx_bl (sx_var 9) rfl))))))) (ss_cons (ss_set (i := 7) sc__law_served.nd rfl (by first | exact Or.inl rfl | exact Or.inr rfl) sx_bl)
    ss_nil) ss_nil)
    ss_nil))))
    (ss_cons (ss_if (st_tru (sx_var 7)) (ss_cons (ss_exp (sx_app 5 (sx_var 6)))
    ss_nil) ss_nil)
    ss_nil))))
    (ss_cons (ss_ret (sx_var 5))
    ss_nil)))

abbrev st__law_needs : Stmt := top 35
theorem sc__law_needs : FnScope N__law_needs ["person", "bounds", "which"] (defScope st__law_needs) := ⟨rfl, rfl, rfl, by decide +kernel, rfl, by decide +kernel, by decide +kernel⟩
theorem ok__law_needs (T : Txt K mg) : HasD P w K mg base 1 "_law_needs" ["person", "bounds", "which"] m__law_needs := hasD (N := N__law_needs) T.d__law_needs sc__law_needs fun f cdv A outer s H E hr hg =>
    (ss_cons (ss_set (i := 3) sc__law_needs.nd rfl (by first | exact Or.inl rfl | exact Or.inr rfl) (sx_lst sa_nil))
    (ss_cons (ss_for passesBody rfl (si_seq (sx_ix (U1 hr) (sx_var 0) sx_int (fun _ _ => rfl))) (sg_tup rfl (sgs_cons (sg_name (i := 4) sc__law_needs.nd rfl (by first | exact Or.inl rfl | exact Or.inr rfl)) (sgs_cons (sg_name (i := 5) sc__law_needs.nd rfl (by first | exact Or.inl rfl | exact Or.inr rfl)) (sgs_cons (sg_name (i := 6) sc__law_needs.nd rfl (by first | exact Or.inl rfl | exact Or.inr rfl)) sgs_nil)))) (ss_cons (ss_asg (sx_ix (U1 hr) (sx_var 1) (sx_var 4) (fun _ _ => rfl)) (sg_tup rfl (sgs_cons (sg_name (i := 7) sc__law_needs.nd rfl (by first | exact Or.inl rfl | exact Or.inr rfl)) (sgs_cons (sg_name (i := 8) sc__law_needs.nd rfl (by first | exact Or.inl rfl | exact Or.inr rfl)) sgs_nil))))
    (ss_cons (ss_asg (sx_ix (U1 hr) (sx_lst (sa_cons (sx_tup (sa_cons (sx_bin op_addD (sx_var 5) (sx_var 8)) (sa_cons (sx_bin op_addD (sx_var 6) (sx_var 7)) sa_nil))) (sa_cons (sx_tup (sa_cons (sx_bin op_addD (sx_var 5) (sx_var 7)) (sa_cons (sx_bin op_addD (sx_var 6) (sx_var 8)) sa_nil))) sa_nil))) (sx_var 2) (fun _ _ => rfl)) (sg_tup rfl (sgs_cons (sg_name (i := 9) sc__law_needs.nd rfl (by first | exact Or.inl rfl | exact Or.inr rfl)) (sgs_cons (sg_name (i := 10) sc__law_needs.nd rfl (by first | exact Or.inl rfl | exact Or.inr rfl)) sgs_nil))))
    (ss_cons (ss_if (PW.pt (sw_or (st_cmp (op_eqDD (U hr)).toOpOk (sx_tup (sa_cons (sx_var 5) (sa_cons (sx_var 6) sa_nil))) (sx_tup (sa_cons sx_int (sa_cons sx_int sa_nil))) (nomark _)) (sw_or1 (st_cmp (op_gtD (U hr)).toOpOk (sx_var 9) (sx_var 10) (nomark _))))) (ss_cons (ss_asg (sx_tup (sa_cons sx_int (sa_cons sx_int sa_nil))) (sg_tup rfl (sgs_cons (sg_name (i := 9) sc__law_needs.nd rfl (by first | exact Or.inl rfl | exact Or.inr rfl)) (sgs_cons (sg_name (i := 10) sc__law_needs.nd rfl (by first | exact Or.inl rfl | exact Or.inr rfl)) sgs_nil))))
    ss_nil) ss_nil)
    (ss_cons (ss_exp (sx_app 3 (sx_tup (sa_cons (sx_var 4) (sa_cons (sx_var 9) (sa_cons (sx_var 10) sa_nil))))))
    ss_nil)))))
    (ss_cons (ss_ret (sx_tup (sa_cons (sx_ix (U1 hr) (sx_var 0) sx_int (fun _ _ => rfl)) (sa_cons (sx_callT c_tup (by rfl) T.b_tuple (by decide +kernel) (sx_var 3)) sa_nil))))
    ss_nil)))

abbrev st__law_told : Stmt := top 36
theorem sc__law_told : FnScope N__law_told ["which", "person", "bounds"] (defScope st__law_told) := ⟨rfl, rfl, rfl, by decide +kernel, rfl, by decide +kernel, by decide +kernel⟩
theorem ok__law_told (T : Txt K mg) : HasD P w K mg base 8 "_law_told" ["which", "person", "bounds"] m__law_told := hasD (N := N__law_told) T.d__law_told sc__law_told fun f cdv A outer s H E hr hg =>
    (ss_cons (ss_try rfl rfl takesBody (fun _ _ _ tk po => (ss_cons (ss_ret (sx_def2 (ok_sure_person T) (ok_possible_person T) (by decide) hr hg tk (sx_var 0) (fun _ _ => rfl) (sg_v (sx_var 1) (sg_v (sx_var 2) sg_nil))))
    ss_nil)) (hs_cons T.e_NotRight (T.x_NotRight) (fun _ _ _ => (ss_cons (ss_ret sx_str)
    ss_nil)) (hs_cons T.e_SeamError (T.x_SeamError) (fun _ _ _ => (ss_cons (ss_ret sx_str)
    ss_nil)) .nil)))
    ss_nil)

abbrev st_law : Stmt := top 37
theorem sc_law : FnScope N_law ["script"] (defScope st_law) := ⟨rfl, rfl, rfl, by decide +kernel, rfl, by decide +kernel, by decide +kernel⟩
theorem ok_law (T : Txt K mg) : HasD P w K mg base 9 "law" ["script"] m_law := hasD (N := N_law) T.d_law sc_law fun f cdv A outer s H E hr hg =>
    (ss_cons (ss_set (i := 1) sc_law.nd rfl (by first | exact Or.inl rfl | exact Or.inr rfl) (sx_def (ok__law_draws T) (by decide) hr hg takesBody (sg_v (sx_var 0) sg_nil)))
    (ss_cons (ss_for passesBody rfl (si_rng1 (by rfl) T.b_range sx_int) (sg_name (i := 2) sc_law.nd rfl (by first | exact Or.inl rfl | exact Or.inr rfl)) (ss_cons (ss_asg (sx_def (ok__law_world T) (by decide) hr hg takesBody (sg_r 1 sg_nil)) (sg_tup rfl (sgs_cons (sg_name (i := 10) sc_law.nd rfl (by first | exact Or.inl rfl | exact Or.inr rfl)) (sgs_cons (sg_name (i := 11) sc_law.nd rfl (by first | exact Or.inl rfl | exact Or.inr rfl)) (sgs_cons (sg_name (i := 12) sc_law.nd rfl (by first | exact Or.inl rfl | exact Or.inr rfl)) (sgs_cons (sg_name (i := 13) sc_law.nd rfl (by first | exact Or.inl rfl | exact Or.inr rfl)) sgs_nil))))))
    (ss_cons (ss_set (i := 3) sc_law.nd rfl (by first | exact Or.inl rfl | exact Or.inr rfl) (sx_callB (c_repr hg (U hr)) (by rfl) T.b_repr (by decide +kernel) (sx_lst (sa_cons (sx_var 12) (sa_cons (sx_callB (c_sorted rfl (U hr)) (by rfl) T.b_sorted (by decide +kernel) (sx_litems rfl (sx_var 13) (by rfl) T.b_list)) sa_nil)))))
    (ss_cons (ss_set (i := 4) sc_law.nd rfl (by first | exact Or.inl rfl | exact Or.inr rfl) sx_newD)
    (ss_cons (ss_forD dw_keys passesBody rfl (pi_keys (pe_var (i := 13) rfl (by first | exact Or.inl rfl | exact Or.inr (Or.inl rfl) | exact Or.inr (Or.inr rfl)))) (sg_name (i := 5) sc_law.nd rfl (by first | exact Or.inl rfl | exact Or.inr rfl)) (ss_cons (ss_asg (sx_ix (U1 hr) (sx_var 13) (sx_var 5) (fun _ _ => rfl)) (sg_tup rfl (sgs_cons (sg_name (i := 16) sc_law.nd rfl (by first | exact Or.inl rfl | exact Or.inr rfl)) (sgs_cons (sg_name (i := 17) sc_law.nd rfl (by first | exact Or.inl rfl | exact Or.inr rfl)) sgs_nil))))
    (ss_cons (ss_set (i := 14) sc_law.nd rfl (by first | exact Or.inl rfl | exact Or.inr rfl) (sx_bin op_addD (sx_var 16) (sx_def (ok__law_take T) (by decide) hr hg takesW0 (sg_r 1 (sg_v (sx_bin op_addD (sx_bin op_subD (sx_var 17) (sx_var 16)) sx_int) sg_nil)))))
    (ss_cons (ss_put 4 (U1 hr) (sx_tup (sa_cons (sx_var 14) (sa_cons (sx_bin op_addD (sx_var 14) (sx_def (ok__law_take T) (by decide) hr hg takesW0 (sg_r 1 (sg_v (sx_bin op_addD (sx_bin op_subD (sx_var 17) (sx_var 14)) sx_int) sg_nil)))) sa_nil))) (sx_var 5))
    ss_nil))))
    (ss_cons (ss_set (i := 6) sc_law.nd rfl (by first | exact Or.inl rfl | exact Or.inr rfl) (sx_lst sa_nil))
    (ss_cons (ss_for passesBody rfl (si_seq (sx_lst (sa_cons (sx_var 13) (sa_cons (sx_var 4) sa_nil)))) (sg_name (i := 7) sc_law.nd rfl (by first | exact Or.inl rfl | exact Or.inr rfl)) (ss_cons (ss_for passesBody rfl (si_rng1 (by rfl) T.b_range sx_int) (sg_name (i := 15) sc_law.nd rfl (by first | exact Or.inl rfl | exact Or.inr rfl)) (ss_cons (ss_set (i := 18) sc_law.nd rfl (by first | exact Or.inl rfl | exact Or.inr rfl) (sx_def (ok__law_told T) (by decide) hr hg takesBody (sg_v (sx_var 15) (sg_v (sx_var 12) (sg_v (sx_var 7) sg_nil)))))
    (ss_cons (ss_if (st_cmp (op_neDD (U hr)).toOpOk (sx_callB (c_repr hg (U hr)) (by rfl) T.b_repr (by decide +kernel) (sx_var 18)) (sx_callB (c_repr hg (U hr)) (by rfl) T.b_repr (by decide +kernel) (sx_def (ok__law_needs T) (by decide) hr hg takesBody (sg_v (sx_var 12) (sg_v (sx_var 7) (sg_v (sx_var 15) sg_nil))))) (nomark _)) (ss_cons (ss_ret sx_bl)
    ss_nil) ss_nil)
    (ss_cons (ss_setLc (i := 19) (own := [("size", 20)]) rfl sc_law.nd rfl rfl (sw_true rfl rfl rfl (by decide +kernel)) (si_rng1 (by rfl) T.b_range (sx_bin op_addD (sx_var 11) sx_int)) (blkOk_by (N := N_law) (sc := (defScope st_law)) (own := [("size", 20)]) (by decide +kernel)) (fun _ _ _ _ _ => (sg_name (i := 20) sc_law.nd rfl (by first | exact Or.inl rfl | exact Or.inr rfl))) (fun _ _ _ _ _ => (sts_one (st_cmp op_isS.toOpOk (sx_def (ok_serves T) (by decide) hr hg takesW0 (sg_v (sx_var 10) (sg_v (sx_var 11) (sg_v (sx_var 20) (sg_v (sx_var 18) sg_nil))))) sx_bl (nomark _)))) (fun _ _ _ _ _ => (sx_var 20)))
    (ss_cons (ss_if (st_cmp (op_neDD (U hr)).toOpOk (sx_var 19) (sx_def (ok__law_served T) (by decide) hr hg takesBody (sg_v (sx_var 10) (sg_v (sx_var 11) (sg_v (sx_var 12) (sg_v (sx_var 7) (sg_v (sx_cmp (op_eqDD (U hr)).toOpOk (sx_var 15) sx_int (nomark _)) sg_nil)))))) (nomark _)) (ss_cons (ss_ret sx_bl)
    ss_nil) ss_nil)
    (ss_cons (ss_exp (sx_app 6 (sx_var 19)))
    ss_nil))))))
    ss_nil))
    (ss_cons (ss_if (PW.pt (sw_or (st_cmp (op_neDD (U hr)).toOpOk (sx_lc (own := [("size", 20)]) rfl sc_law.nd (si_seq (sx_ix (U1 hr) (sx_var 6) sx_int (fun _ _ => rfl))) (blkOk_by (N := N_law) (sc := (defScope st_law)) (own := [("size", 20)]) (by decide +kernel)) (fun _ _ _ _ _ => (sg_name (i := 20) sc_law.nd rfl (by first | exact Or.inl rfl | exact Or.inr rfl))) (fun _ _ _ _ _ => (sts_one (st_cmp (op_ninA (U5 hr)).toOpOk (sx_var 20) (sx_ix (U1 hr) (sx_var 6) sx_int (fun _ _ => rfl)) rfl))) (fun _ _ _ _ _ => (sx_var 20))) (sx_lst sa_nil) (nomark _)) (sw_or1 (st_cmp (op_neDD (U hr)).toOpOk (sx_lc (own := [("size", 20)]) rfl sc_law.nd (si_seq (sx_ix (U1 hr) (sx_var 6) sx_int (fun _ _ => rfl))) (blkOk_by (N := N_law) (sc := (defScope st_law)) (own := [("size", 20)]) (by decide +kernel)) (fun _ _ _ _ _ => (sg_name (i := 20) sc_law.nd rfl (by first | exact Or.inl rfl | exact Or.inr rfl))) (fun _ _ _ _ _ => (sts_one (st_cmp (op_ninA (U5 hr)).toOpOk (sx_var 20) (sx_ix (U1 hr) (sx_var 6) sx_int (fun _ _ => rfl)) rfl))) (fun _ _ _ _ _ => (sx_var 20))) (sx_lst sa_nil) (nomark _))))) (ss_cons (ss_ret sx_bl)
    ss_nil) ss_nil)
    (ss_cons (ss_set (i := 5) sc_law.nd rfl (by first | exact Or.inl rfl | exact Or.inr rfl) (sx_ix (U1 hr) (sx_callB (c_sorted rfl (U hr)) (by rfl) T.b_sorted (by decide +kernel) (sx_callT (c_listD rfl) (by rfl) T.b_list (by decide +kernel) (sx_var 13))) sx_int (fun _ _ => rfl)))
    (ss_cons (ss_set (i := 8) sc_law.nd rfl (by first | exact Or.inl rfl | exact Or.inr rfl) (sx_lst (sa_cons sx_non (sa_cons sx_newD (sa_cons (sx_dsp (pps_cons (sv_clo sx_str) (sv_clo (sx_tup (sa_cons sx_int (sa_cons sx_int sa_nil)))) pps_nil)) (sa_cons (sx_callT (c_dict rfl) (by rfl) T.b_dict (by decide +kernel) (sx_bin op_addD (sx_litems rfl (sx_var 13) (by rfl) T.b_list) (sx_lst (sa_cons (sx_tup (sa_cons sx_str (sa_cons (sx_tup (sa_cons sx_int (sa_cons sx_int sa_nil))) sa_nil))) sa_nil)))) (sa_cons (sx_callT (c_dict rfl) (by rfl) T.b_dict (by decide +kernel) (sx_bin op_addD (sx_litems rfl (sx_var 13) (by rfl) T.b_list) (sx_lst (sa_cons (sx_tup (sa_cons (sx_var 5) (sa_cons (sx_tup (sa_cons sx_int (sa_cons sx_int sa_nil))) sa_nil))) sa_nil)))) (sa_cons (sx_callT (c_dict rfl) (by rfl) T.b_dict (by decide +kernel) (sx_bin op_addD (sx_litems rfl (sx_var 13) (by rfl) T.b_list) (sx_lst (sa_cons (sx_tup (sa_cons (sx_var 5) (sa_cons (sx_lst (sa_cons sx_int (sa_cons sx_int sa_nil))) sa_nil))) sa_nil)))) sa_nil))))))))
    (ss_cons (ss_set (i := 9) sc_law.nd rfl (by first | exact Or.inl rfl | exact Or.inr rfl) (sx_def (ok__law_pick T) (by decide) hr hg takesBody (sg_r 1 (sg_v (sx_var 8) sg_nil))))
    (ss_cons (ss_if (st_cmp (op_neDD (U hr)).toOpOk (sx_bin op_addD (sx_lc (own := [("which", 15)]) rfl sc_law.nd (si_seq (sx_lst (sa_cons sx_int (sa_cons sx_int sa_nil)))) (blkOk_by (N := N_law) (sc := (defScope st_law)) (own := [("which", 15)]) (by decide +kernel)) (fun _ _ _ _ _ => (sg_name (i := 15) sc_law.nd rfl (by first | exact Or.inl rfl | exact Or.inr rfl))) (fun _ _ _ _ _ => sts_nil) (fun _ _ _ _ _ => (sx_def (ok__law_told T) (by decide) hr hg takesW0 (sg_v (sx_var 15) (sg_v (sx_var 12) (sg_v (sx_var 9) sg_nil)))))) (sx_lc (own := [("which", 15)]) rfl sc_law.nd (si_seq (sx_lst (sa_cons sx_int (sa_cons sx_int sa_nil)))) (blkOk_by (N := N_law) (sc := (defScope st_law)) (own := [("which", 15)]) (by decide +kernel)) (fun _ _ _ _ _ => (sg_name (i := 15) sc_law.nd rfl (by first | exact Or.inl rfl | exact Or.inr rfl))) (fun _ _ _ _ _ => sts_nil) (fun _ _ _ _ _ => (sx_def (ok__law_told T) (by decide) hr hg takesW0 (sg_v (sx_var 15) (sg_v (sx_tup (sa_cons sx_str (sa_cons (sx_tup sa_nil) sa_nil))) (sg_v sx_newD sg_nil))))))) (sx_rep (sa_cons sx_str sa_nil)) (nomark _)) (ss_cons (ss_ret sx_bl)
    ss_nil) ss_nil)
    (ss_cons (ss_if (st_cmp (op_neDD (U hr)).toOpOk (sx_callB (c_repr hg (U hr)) (by rfl) T.b_repr (by decide +kernel) (sx_lst (sa_cons (sx_var 12) (sa_cons (sx_callB (c_sorted rfl (U hr)) (by rfl) T.b_sorted (by decide +kernel) (sx_litems rfl (sx_var 13) (by rfl) T.b_list)) sa_nil)))) (sx_var 3) (nomark _)) (ss_cons (ss_ret sx_bl)
    ss_nil) ss_nil)
    ss_nil)))))))))))))
    (ss_cons (ss_ret sx_bl)
    ss_nil)))

end

theorem txt_mk {w : World} {K : PySem.W.Frag} {h : Heap} {mg : Str → Option Value} (X : K.In h) (G : h.Ns mainGlobals mg) {od0 an0 : Option Addr} {sl0 : Array (Option Value)} {oc0 kV0 dc0 pm0 cd0 ct0 : Value} {f0 : Addr} {od1 an1 : Option Addr} {sl1 : Array (Option Value)} {oc1 kV1 dc1 pm1 cd1 ct1 : Value} {f1 : Addr} {od2 an2 : Option Addr} {sl2 : Array (Option Value)} {oc2 kV2 dc2 pm2 cd2 ct2 : Value} {f2 : Addr} {od3 an3 : Option Addr} {sl3 : Array (Option Value)} {oc3 kV3 dc3 pm3 cd3 ct3 : Value} {f3 : Addr} {od4 an4 : Option Addr} {sl4 : Array (Option Value)} {oc4 kV4 dc4 pm4 cd4 ct4 : Value} {f4 : Addr} {od5 an5 : Option Addr} {sl5 : Array (Option Value)} {oc5 kV5 dc5 pm5 cd5 ct5 : Value} {f5 : Addr} {od6 an6 : Option Addr} {sl6 : Array (Option Value)} {oc6 kV6 dc6 pm6 cd6 ct6 : Value} {f6 : Addr} {od7 an7 : Option Addr} {sl7 : Array (Option Value)} {oc7 kV7 dc7 pm7 cd7 ct7 : Value} {f7 : Addr} {od8 an8 : Option Addr} {sl8 : Array (Option Value)} {oc8 kV8 dc8 pm8 cd8 ct8 : Value} {f8 : Addr} {od9 an9 : Option Addr} {sl9 : Array (Option Value)} {oc9 kV9 dc9 pm9 cd9 ct9 : Value} {f9 : Addr} {od10 an10 : Option Addr} {sl10 : Array (Option Value)} {oc10 kV10 dc10 pm10 cd10 ct10 : Value} {f10 : Addr} {od11 an11 : Option Addr} {sl11 : Array (Option Value)} {oc11 kV11 dc11 pm11 cd11 ct11 : Value} {f11 : Addr} {od12 an12 : Option Addr} {sl12 : Array (Option Value)} {oc12 kV12 dc12 pm12 cd12 ct12 : Value} {f12 : Addr} {od13 an13 : Option Addr} {sl13 : Array (Option Value)} {oc13 kV13 dc13 pm13 cd13 ct13 : Value} {f13 : Addr} {od14 an14 : Option Addr} {sl14 : Array (Option Value)} {oc14 kV14 dc14 pm14 cd14 ct14 : Value} {f14 : Addr} {od15 an15 : Option Addr} {sl15 : Array (Option Value)} {oc15 kV15 dc15 pm15 cd15 ct15 : Value} {f15 : Addr} {od16 an16 : Option Addr} {sl16 : Array (Option Value)} {oc16 kV16 dc16 pm16 cd16 ct16 : Value} {f16 : Addr} {od17 an17 : Option Addr} {sl17 : Array (Option Value)} {oc17 kV17 dc17 pm17 cd17 ct17 : Value} {f17 : Addr} {od18 an18 : Option Addr} {sl18 : Array (Option Value)} {oc18 kV18 dc18 pm18 cd18 ct18 : Value} {f18 : Addr} {od19 an19 : Option Addr} {sl19 : Array (Option Value)} {oc19 kV19 dc19 pm19 cd19 ct19 : Value} {f19 : Addr} {od20 an20 : Option Addr} {sl20 : Array (Option Value)} {oc20 kV20 dc20 pm20 cd20 ct20 : Value} {f20 : Addr} {od21 an21 : Option Addr} {sl21 : Array (Option Value)} {oc21 kV21 dc21 pm21 cd21 ct21 : Value} {f21 : Addr} {od22 an22 : Option Addr} {sl22 : Array (Option Value)} {oc22 kV22 dc22 pm22 cd22 ct22 : Value} {f22 : Addr} {od23 an23 : Option Addr} {sl23 : Array (Option Value)} {oc23 kV23 dc23 pm23 cd23 ct23 : Value} {f23 : Addr} {od24 an24 : Option Addr} {sl24 : Array (Option Value)} {oc24 kV24 dc24 pm24 cd24 ct24 : Value} {f24 : Addr} {od25 an25 : Option Addr} {sl25 : Array (Option Value)} {oc25 kV25 dc25 pm25 cd25 ct25 : Value} {f25 : Addr} {t_SMALL : Tok} {t_FIGURES : Tok} {t_LONGEST : Tok} {t_MOST_MEASURES : Tok} {a_NO_NEED : Addr} {o_NO_NEED : Option Addr} {n_NO_NEED : Nat} {s_NO_NEED : Array (Option Value)} {t_NO_NEED_0 t_NO_NEED_1 : Tok} {t_TOP_SIZE : Tok} {C_NotRight : Addr} {C_NotThere : Addr} {C_SeamError : Addr}
    (a0 : PySem.W.nsIn K mainGlobals "is_name" = some (some (.ref f0))) (l0 : K.lookup f0 = some ⟨oc0, od0, .func (PySem.W.fnOf "is_name" "is_name" (defArgs st_is_name) (defBody st_is_name) (defScope st_is_name) .none kV0 dc0 pm0 an0 cd0 ct0), sl0⟩) (c0 : PySem.W.codeIn K cd0 "is_name" = true) (k0 : PySem.W.keepIn K (.ref f0) = true)
    (a1 : PySem.W.nsIn K mainGlobals "are_ascending" = some (some (.ref f1))) (l1 : K.lookup f1 = some ⟨oc1, od1, .func (PySem.W.fnOf "are_ascending" "are_ascending" (defArgs st_are_ascending) (defBody st_are_ascending) (defScope st_are_ascending) .none kV1 dc1 pm1 an1 cd1 ct1), sl1⟩) (c1 : PySem.W.codeIn K cd1 "are_ascending" = true) (k1 : PySem.W.keepIn K (.ref f1) = true)
    (a2 : PySem.W.nsIn K mainGlobals "is_within" = some (some (.ref f2))) (l2 : K.lookup f2 = some ⟨oc2, od2, .func (PySem.W.fnOf "is_within" "is_within" (defArgs st_is_within) (defBody st_is_within) (defScope st_is_within) .none kV2 dc2 pm2 an2 cd2 ct2), sl2⟩) (c2 : PySem.W.codeIn K cd2 "is_within" = true) (k2 : PySem.W.keepIn K (.ref f2) = true)
    (a3 : PySem.W.nsIn K mainGlobals "is_part" = some (some (.ref f3))) (l3 : K.lookup f3 = some ⟨oc3, od3, .func (PySem.W.fnOf "is_part" "is_part" (defArgs st_is_part) (defBody st_is_part) (defScope st_is_part) .none kV3 dc3 pm3 an3 cd3 ct3), sl3⟩) (c3 : PySem.W.codeIn K cd3 "is_part" = true) (k3 : PySem.W.keepIn K (.ref f3) = true)
    (a4 : PySem.W.nsIn K mainGlobals "is_garment" = some (some (.ref f4))) (l4 : K.lookup f4 = some ⟨oc4, od4, .func (PySem.W.fnOf "is_garment" "is_garment" (defArgs st_is_garment) (defBody st_is_garment) (defScope st_is_garment) .none kV4 dc4 pm4 an4 cd4 ct4), sl4⟩) (c4 : PySem.W.codeIn K cd4 "is_garment" = true) (k4 : PySem.W.keepIn K (.ref f4) = true)
    (a5 : PySem.W.nsIn K mainGlobals "is_integer" = some (some (.ref f5))) (l5 : K.lookup f5 = some ⟨oc5, od5, .func (PySem.W.fnOf "is_integer" "is_integer" (defArgs st_is_integer) (defBody st_is_integer) (defScope st_is_integer) .none kV5 dc5 pm5 an5 cd5 ct5), sl5⟩) (c5 : PySem.W.codeIn K cd5 "is_integer" = true) (k5 : PySem.W.keepIn K (.ref f5) = true)
    (a6 : PySem.W.nsIn K mainGlobals "is_span" = some (some (.ref f6))) (l6 : K.lookup f6 = some ⟨oc6, od6, .func (PySem.W.fnOf "is_span" "is_span" (defArgs st_is_span) (defBody st_is_span) (defScope st_is_span) .none kV6 dc6 pm6 an6 cd6 ct6), sl6⟩) (c6 : PySem.W.codeIn K cd6 "is_span" = true) (k6 : PySem.W.keepIn K (.ref f6) = true)
    (a7 : PySem.W.nsIn K mainGlobals "is_need" = some (some (.ref f7))) (l7 : K.lookup f7 = some ⟨oc7, od7, .func (PySem.W.fnOf "is_need" "is_need" (defArgs st_is_need) (defBody st_is_need) (defScope st_is_need) .none kV7 dc7 pm7 an7 cd7 ct7), sl7⟩) (c7 : PySem.W.codeIn K cd7 "is_need" = true) (k7 : PySem.W.keepIn K (.ref f7) = true)
    (a8 : PySem.W.nsIn K mainGlobals "is_person" = some (some (.ref f8))) (l8 : K.lookup f8 = some ⟨oc8, od8, .func (PySem.W.fnOf "is_person" "is_person" (defArgs st_is_person) (defBody st_is_person) (defScope st_is_person) .none kV8 dc8 pm8 an8 cd8 ct8), sl8⟩) (c8 : PySem.W.codeIn K cd8 "is_person" = true) (k8 : PySem.W.keepIn K (.ref f8) = true)
    (a9 : PySem.W.nsIn K mainGlobals "check_garment" = some (some (.ref f9))) (l9 : K.lookup f9 = some ⟨oc9, od9, .func (PySem.W.fnOf "check_garment" "check_garment" (defArgs st_check_garment) (defBody st_check_garment) (defScope st_check_garment) .none kV9 dc9 pm9 an9 cd9 ct9), sl9⟩) (c9 : PySem.W.codeIn K cd9 "check_garment" = true) (k9 : PySem.W.keepIn K (.ref f9) = true)
    (a10 : PySem.W.nsIn K mainGlobals "check_person" = some (some (.ref f10))) (l10 : K.lookup f10 = some ⟨oc10, od10, .func (PySem.W.fnOf "check_person" "check_person" (defArgs st_check_person) (defBody st_check_person) (defScope st_check_person) .none kV10 dc10 pm10 an10 cd10 ct10), sl10⟩) (c10 : PySem.W.codeIn K cd10 "check_person" = true) (k10 : PySem.W.keepIn K (.ref f10) = true)
    (a11 : PySem.W.nsIn K mainGlobals "does_serve" = some (some (.ref f11))) (l11 : K.lookup f11 = some ⟨oc11, od11, .func (PySem.W.fnOf "does_serve" "does_serve" (defArgs st_does_serve) (defBody st_does_serve) (defScope st_does_serve) .none kV11 dc11 pm11 an11 cd11 ct11), sl11⟩) (c11 : PySem.W.codeIn K cd11 "does_serve" = true) (k11 : PySem.W.keepIn K (.ref f11) = true)
    (a12 : PySem.W.nsIn K mainGlobals "serves" = some (some (.ref f12))) (l12 : K.lookup f12 = some ⟨oc12, od12, .func (PySem.W.fnOf "serves" "serves" (defArgs st_serves) (defBody st_serves) (defScope st_serves) .none kV12 dc12 pm12 an12 cd12 ct12), sl12⟩) (c12 : PySem.W.codeIn K cd12 "serves" = true) (k12 : PySem.W.keepIn K (.ref f12) = true)
    (a13 : PySem.W.nsIn K mainGlobals "check_bounds" = some (some (.ref f13))) (l13 : K.lookup f13 = some ⟨oc13, od13, .func (PySem.W.fnOf "check_bounds" "check_bounds" (defArgs st_check_bounds) (defBody st_check_bounds) (defScope st_check_bounds) .none kV13 dc13 pm13 an13 cd13 ct13), sl13⟩) (c13 : PySem.W.codeIn K cd13 "check_bounds" = true) (k13 : PySem.W.keepIn K (.ref f13) = true)
    (a14 : PySem.W.nsIn K mainGlobals "moved_person" = some (some (.ref f14))) (l14 : K.lookup f14 = some ⟨oc14, od14, .func (PySem.W.fnOf "moved_person" "moved_person" (defArgs st_moved_person) (defBody st_moved_person) (defScope st_moved_person) .none kV14 dc14 pm14 an14 cd14 ct14), sl14⟩) (c14 : PySem.W.codeIn K cd14 "moved_person" = true) (k14 : PySem.W.keepIn K (.ref f14) = true)
    (a15 : PySem.W.nsIn K mainGlobals "sure_person" = some (some (.ref f15))) (l15 : K.lookup f15 = some ⟨oc15, od15, .func (PySem.W.fnOf "sure_person" "sure_person" (defArgs st_sure_person) (defBody st_sure_person) (defScope st_sure_person) .none kV15 dc15 pm15 an15 cd15 ct15), sl15⟩) (c15 : PySem.W.codeIn K cd15 "sure_person" = true) (k15 : PySem.W.keepIn K (.ref f15) = true)
    (a16 : PySem.W.nsIn K mainGlobals "possible_person" = some (some (.ref f16))) (l16 : K.lookup f16 = some ⟨oc16, od16, .func (PySem.W.fnOf "possible_person" "possible_person" (defArgs st_possible_person) (defBody st_possible_person) (defScope st_possible_person) .none kV16 dc16 pm16 an16 cd16 ct16), sl16⟩) (c16 : PySem.W.codeIn K cd16 "possible_person" = true) (k16 : PySem.W.keepIn K (.ref f16) = true)
    (a17 : PySem.W.nsIn K mainGlobals "_law_draws" = some (some (.ref f17))) (l17 : K.lookup f17 = some ⟨oc17, od17, .func (PySem.W.fnOf "_law_draws" "_law_draws" (defArgs st__law_draws) (defBody st__law_draws) (defScope st__law_draws) .none kV17 dc17 pm17 an17 cd17 ct17), sl17⟩) (c17 : PySem.W.codeIn K cd17 "_law_draws" = true) (k17 : PySem.W.keepIn K (.ref f17) = true)
    (a18 : PySem.W.nsIn K mainGlobals "_law_take" = some (some (.ref f18))) (l18 : K.lookup f18 = some ⟨oc18, od18, .func (PySem.W.fnOf "_law_take" "_law_take" (defArgs st__law_take) (defBody st__law_take) (defScope st__law_take) .none kV18 dc18 pm18 an18 cd18 ct18), sl18⟩) (c18 : PySem.W.codeIn K cd18 "_law_take" = true) (k18 : PySem.W.keepIn K (.ref f18) = true)
    (a19 : PySem.W.nsIn K mainGlobals "_law_pick" = some (some (.ref f19))) (l19 : K.lookup f19 = some ⟨oc19, od19, .func (PySem.W.fnOf "_law_pick" "_law_pick" (defArgs st__law_pick) (defBody st__law_pick) (defScope st__law_pick) .none kV19 dc19 pm19 an19 cd19 ct19), sl19⟩) (c19 : PySem.W.codeIn K cd19 "_law_pick" = true) (k19 : PySem.W.keepIn K (.ref f19) = true)
    (a20 : PySem.W.nsIn K mainGlobals "_law_world" = some (some (.ref f20))) (l20 : K.lookup f20 = some ⟨oc20, od20, .func (PySem.W.fnOf "_law_world" "_law_world" (defArgs st__law_world) (defBody st__law_world) (defScope st__law_world) .none kV20 dc20 pm20 an20 cd20 ct20), sl20⟩) (c20 : PySem.W.codeIn K cd20 "_law_world" = true) (k20 : PySem.W.keepIn K (.ref f20) = true)
    (a21 : PySem.W.nsIn K mainGlobals "_law_fits" = some (some (.ref f21))) (l21 : K.lookup f21 = some ⟨oc21, od21, .func (PySem.W.fnOf "_law_fits" "_law_fits" (defArgs st__law_fits) (defBody st__law_fits) (defScope st__law_fits) .none kV21 dc21 pm21 an21 cd21 ct21), sl21⟩) (c21 : PySem.W.codeIn K cd21 "_law_fits" = true) (k21 : PySem.W.keepIn K (.ref f21) = true)
    (a22 : PySem.W.nsIn K mainGlobals "_law_served" = some (some (.ref f22))) (l22 : K.lookup f22 = some ⟨oc22, od22, .func (PySem.W.fnOf "_law_served" "_law_served" (defArgs st__law_served) (defBody st__law_served) (defScope st__law_served) .none kV22 dc22 pm22 an22 cd22 ct22), sl22⟩) (c22 : PySem.W.codeIn K cd22 "_law_served" = true) (k22 : PySem.W.keepIn K (.ref f22) = true)
    (a23 : PySem.W.nsIn K mainGlobals "_law_needs" = some (some (.ref f23))) (l23 : K.lookup f23 = some ⟨oc23, od23, .func (PySem.W.fnOf "_law_needs" "_law_needs" (defArgs st__law_needs) (defBody st__law_needs) (defScope st__law_needs) .none kV23 dc23 pm23 an23 cd23 ct23), sl23⟩) (c23 : PySem.W.codeIn K cd23 "_law_needs" = true) (k23 : PySem.W.keepIn K (.ref f23) = true)
    (a24 : PySem.W.nsIn K mainGlobals "_law_told" = some (some (.ref f24))) (l24 : K.lookup f24 = some ⟨oc24, od24, .func (PySem.W.fnOf "_law_told" "_law_told" (defArgs st__law_told) (defBody st__law_told) (defScope st__law_told) .none kV24 dc24 pm24 an24 cd24 ct24), sl24⟩) (c24 : PySem.W.codeIn K cd24 "_law_told" = true) (k24 : PySem.W.keepIn K (.ref f24) = true)
    (a25 : PySem.W.nsIn K mainGlobals "law" = some (some (.ref f25))) (l25 : K.lookup f25 = some ⟨oc25, od25, .func (PySem.W.fnOf "law" "law" (defArgs st_law) (defBody st_law) (defScope st_law) .none kV25 dc25 pm25 an25 cd25 ct25), sl25⟩) (c25 : PySem.W.codeIn K cd25 "law" = true) (k25 : PySem.W.keepIn K (.ref f25) = true)
    (z_all : PySem.W.nsIn K mainGlobals "all" = some none)
    (z_len : PySem.W.nsIn K mainGlobals "len" = some none)
    (z_isinstance : PySem.W.nsIn K mainGlobals "isinstance" = some none)
    (z_str : PySem.W.nsIn K mainGlobals "str" = some none)
    (z_zip : PySem.W.nsIn K mainGlobals "zip" = some none)
    (z_bool : PySem.W.nsIn K mainGlobals "bool" = some none)
    (z_int : PySem.W.nsIn K mainGlobals "int" = some none)
    (z_tuple : PySem.W.nsIn K mainGlobals "tuple" = some none)
    (z_sorted : PySem.W.nsIn K mainGlobals "sorted" = some none)
    (z_dict : PySem.W.nsIn K mainGlobals "dict" = some none)
    (z_list : PySem.W.nsIn K mainGlobals "list" = some none)
    (z_reversed : PySem.W.nsIn K mainGlobals "reversed" = some none)
    (z_range : PySem.W.nsIn K mainGlobals "range" = some none)
    (z_abs : PySem.W.nsIn K mainGlobals "abs" = some none)
    (z_repr : PySem.W.nsIn K mainGlobals "repr" = some none)
    (v_SMALL : PySem.W.nsIn K mainGlobals "SMALL" = some (some (.str "abcdefghijklmnopqrstuvwxyz" t_SMALL)))
    (v_FIGURES : PySem.W.nsIn K mainGlobals "FIGURES" = some (some (.str "0123456789" t_FIGURES)))
    (v_LONGEST : PySem.W.nsIn K mainGlobals "LONGEST" = some (some (.int 12 t_LONGEST)))
    (v_MOST_MEASURES : PySem.W.nsIn K mainGlobals "MOST_MEASURES" = some (some (.int 8 t_MOST_MEASURES)))
    (v_NO_NEED : PySem.W.nsIn K mainGlobals "NO_NEED" = some (some (.ref a_NO_NEED))) (w_NO_NEED : K.lookup a_NO_NEED = some ⟨.type "tuple", o_NO_NEED, .seq #[.int 1 t_NO_NEED_0, .int 0 t_NO_NEED_1] n_NO_NEED, s_NO_NEED⟩)
    (v_TOP_SIZE : PySem.W.nsIn K mainGlobals "TOP_SIZE" = some (some (.int 60 t_TOP_SIZE)))
    (e_NotRight : PySem.W.nsIn K mainGlobals "NotRight" = some (some (.ref C_NotRight))) (q_NotRight : PySem.W.excIn K C_NotRight [.type "ValueError", .type "Exception", .type "BaseException", .type "object"] "ValueError.__new__" = true) (r_NotRight : PySem.W.keepIn K (.ref C_NotRight) = true) (s_NotRight : PySem.W.subIn K (.ref C_NotRight) (.type "BaseException") = some true) (u_NotRight : PySem.W.typeIn K (.ref C_NotRight) = some (.type "type"))
    (e_NotThere : PySem.W.nsIn K mainGlobals "NotThere" = some (some (.ref C_NotThere))) (q_NotThere : PySem.W.excIn K C_NotThere [.type "ValueError", .type "Exception", .type "BaseException", .type "object"] "ValueError.__new__" = true) (r_NotThere : PySem.W.keepIn K (.ref C_NotThere) = true) (s_NotThere : PySem.W.subIn K (.ref C_NotThere) (.type "BaseException") = some true) (u_NotThere : PySem.W.typeIn K (.ref C_NotThere) = some (.type "type"))
    (e_SeamError : PySem.W.nsIn K mainGlobals "SeamError" = some (some (.ref C_SeamError))) (q_SeamError : PySem.W.excIn K C_SeamError [.type "ValueError", .type "Exception", .type "BaseException", .type "object"] "ValueError.__new__" = true) (r_SeamError : PySem.W.keepIn K (.ref C_SeamError) = true) (s_SeamError : PySem.W.subIn K (.ref C_SeamError) (.type "BaseException") = some true) (u_SeamError : PySem.W.typeIn K (.ref C_SeamError) = some (.type "type"))
    (i_SeamError : PySem.W.isClsIn K C_SeamError = true)
    (y_NotRight_SeamError : PySem.W.subIn K (.ref C_NotRight) (.ref C_SeamError) = some true)
    (y_NotThere_SeamError : PySem.W.subIn K (.ref C_NotThere) (.ref C_SeamError) = some true)
    (y_SeamError_SeamError : PySem.W.subIn K (.ref C_SeamError) (.ref C_SeamError) = some true)
    (i_NotRight : PySem.W.isClsIn K C_NotRight = true)
    (y_NotRight_NotRight : PySem.W.subIn K (.ref C_NotRight) (.ref C_NotRight) = some true)
    (y_NotThere_NotRight : PySem.W.subIn K (.ref C_NotThere) (.ref C_NotRight) = some false)
    (y_SeamError_NotRight : PySem.W.subIn K (.ref C_SeamError) (.ref C_NotRight) = some false) : Txt K mg := by
  refine ⟨?_,
    ?_,
    ?_,
    ?_,
    ?_,
    ?_,
    ?_,
    ?_,
    ?_,
    ?_,
    ?_,
    ?_,
    ?_,
    ?_,
    ?_,
    ?_,
    ?_,
    ?_,
    ?_,
    ?_,
    ?_,
    ?_,
    ?_,
    ?_,
    ?_,
    ?_,
    ?_,
    ?_,
    ?_,
    ?_,
    ?_,
    ?_,
    ?_,
    ?_,
    ?_,
    ?_,
    ?_,
    ?_,
    ?_,
    ?_,
    ?_,
    ?_,
    ?_,
    ?_,
    ?_,
    ?_,
    ?_,
    ?_,
    ?_,
    ?_,
    ?_,
    ?_⟩
  · exact ⟨_, _, PySem.W.mg_of X G a0, fun_mk (st := st_is_name) l0 c0 k0, (fun_mk (st := st_is_name) l0 c0 k0).binds (ps := ["value"]) fun _ _ _ _ _ _ us hl => match us, hl with | [_], _ => rfl⟩
  · exact ⟨_, _, PySem.W.mg_of X G a1, fun_mk (st := st_are_ascending) l1 c1 k1, (fun_mk (st := st_are_ascending) l1 c1 k1).binds (ps := ["values"]) fun _ _ _ _ _ _ us hl => match us, hl with | [_], _ => rfl⟩
  · exact ⟨_, _, PySem.W.mg_of X G a2, fun_mk (st := st_is_within) l2 c2 k2, (fun_mk (st := st_is_within) l2 c2 k2).binds (ps := ["value", "low", "high"]) fun _ _ _ _ _ _ us hl => match us, hl with | [_, _, _], _ => rfl⟩
  · exact ⟨_, _, PySem.W.mg_of X G a3, fun_mk (st := st_is_part) l3 c3 k3, (fun_mk (st := st_is_part) l3 c3 k3).binds (ps := ["value"]) fun _ _ _ _ _ _ us hl => match us, hl with | [_], _ => rfl⟩
  · exact ⟨_, _, PySem.W.mg_of X G a4, fun_mk (st := st_is_garment) l4 c4 k4, (fun_mk (st := st_is_garment) l4 c4 k4).binds (ps := ["value"]) fun _ _ _ _ _ _ us hl => match us, hl with | [_], _ => rfl⟩
  · exact ⟨_, _, PySem.W.mg_of X G a5, fun_mk (st := st_is_integer) l5 c5 k5, (fun_mk (st := st_is_integer) l5 c5 k5).binds (ps := ["value"]) fun _ _ _ _ _ _ us hl => match us, hl with | [_], _ => rfl⟩
  · exact ⟨_, _, PySem.W.mg_of X G a6, fun_mk (st := st_is_span) l6 c6 k6, (fun_mk (st := st_is_span) l6 c6 k6).binds (ps := ["value"]) fun _ _ _ _ _ _ us hl => match us, hl with | [_], _ => rfl⟩
  · exact ⟨_, _, PySem.W.mg_of X G a7, fun_mk (st := st_is_need) l7 c7 k7, (fun_mk (st := st_is_need) l7 c7 k7).binds (ps := ["value"]) fun _ _ _ _ _ _ us hl => match us, hl with | [_], _ => rfl⟩
  · exact ⟨_, _, PySem.W.mg_of X G a8, fun_mk (st := st_is_person) l8 c8 k8, (fun_mk (st := st_is_person) l8 c8 k8).binds (ps := ["value"]) fun _ _ _ _ _ _ us hl => match us, hl with | [_], _ => rfl⟩
  · exact ⟨_, _, PySem.W.mg_of X G a9, fun_mk (st := st_check_garment) l9 c9 k9, (fun_mk (st := st_check_garment) l9 c9 k9).binds (ps := ["garment", "top"]) fun _ _ _ _ _ _ us hl => match us, hl with | [_, _], _ => rfl⟩
  · exact ⟨_, _, PySem.W.mg_of X G a10, fun_mk (st := st_check_person) l10 c10 k10, (fun_mk (st := st_check_person) l10 c10 k10).binds (ps := ["person"]) fun _ _ _ _ _ _ us hl => match us, hl with | [_], _ => rfl⟩
  · exact ⟨_, _, PySem.W.mg_of X G a11, fun_mk (st := st_does_serve) l11 c11 k11, (fun_mk (st := st_does_serve) l11 c11 k11).binds (ps := ["garment", "size", "person"]) fun _ _ _ _ _ _ us hl => match us, hl with | [_, _, _], _ => rfl⟩
  · exact ⟨_, _, PySem.W.mg_of X G a12, fun_mk (st := st_serves) l12 c12 k12, (fun_mk (st := st_serves) l12 c12 k12).binds (ps := ["garment", "top", "size", "person"]) fun _ _ _ _ _ _ us hl => match us, hl with | [_, _, _, _], _ => rfl⟩
  · exact ⟨_, _, PySem.W.mg_of X G a13, fun_mk (st := st_check_bounds) l13 c13 k13, (fun_mk (st := st_check_bounds) l13 c13 k13).binds (ps := ["person", "bounds"]) fun _ _ _ _ _ _ us hl => match us, hl with | [_, _], _ => rfl⟩
  · exact ⟨_, _, PySem.W.mg_of X G a14, fun_mk (st := st_moved_person) l14 c14 k14, (fun_mk (st := st_moved_person) l14 c14 k14).binds (ps := ["person", "more"]) fun _ _ _ _ _ _ us hl => match us, hl with | [_, _], _ => rfl⟩
  · exact ⟨_, _, PySem.W.mg_of X G a15, fun_mk (st := st_sure_person) l15 c15 k15, (fun_mk (st := st_sure_person) l15 c15 k15).binds (ps := ["person", "bounds"]) fun _ _ _ _ _ _ us hl => match us, hl with | [_, _], _ => rfl⟩
  · exact ⟨_, _, PySem.W.mg_of X G a16, fun_mk (st := st_possible_person) l16 c16 k16, (fun_mk (st := st_possible_person) l16 c16 k16).binds (ps := ["person", "bounds"]) fun _ _ _ _ _ _ us hl => match us, hl with | [_, _], _ => rfl⟩
  · exact ⟨_, _, PySem.W.mg_of X G a17, fun_mk (st := st__law_draws) l17 c17 k17, (fun_mk (st := st__law_draws) l17 c17 k17).binds (ps := ["script"]) fun _ _ _ _ _ _ us hl => match us, hl with | [_], _ => rfl⟩
  · exact ⟨_, _, PySem.W.mg_of X G a18, fun_mk (st := st__law_take) l18 c18 k18, (fun_mk (st := st__law_take) l18 c18 k18).binds (ps := ["draws", "bound"]) fun _ _ _ _ _ _ us hl => match us, hl with | [_, _], _ => rfl⟩
  · exact ⟨_, _, PySem.W.mg_of X G a19, fun_mk (st := st__law_pick) l19 c19 k19, (fun_mk (st := st__law_pick) l19 c19 k19).binds (ps := ["draws", "some"]) fun _ _ _ _ _ _ us hl => match us, hl with | [_, _], _ => rfl⟩
  · exact ⟨_, _, PySem.W.mg_of X G a20, fun_mk (st := st__law_world) l20 c20 k20, (fun_mk (st := st__law_world) l20 c20 k20).binds (ps := ["draws"]) fun _ _ _ _ _ _ us hl => match us, hl with | [_], _ => rfl⟩
  · exact ⟨_, _, PySem.W.mg_of X G a21, fun_mk (st := st__law_fits) l21 c21 k21, (fun_mk (st := st__law_fits) l21 c21 k21).binds (ps := ["garment", "size", "need", "body"]) fun _ _ _ _ _ _ us hl => match us, hl with | [_, _, _, _], _ => rfl⟩
  · exact ⟨_, _, PySem.W.mg_of X G a22, fun_mk (st := st__law_served) l22 c22 k22, (fun_mk (st := st__law_served) l22 c22 k22).binds (ps := ["garment", "top", "person", "bounds", "all_bodies"]) fun _ _ _ _ _ _ us hl => match us, hl with | [_, _, _, _, _], _ => rfl⟩
  · exact ⟨_, _, PySem.W.mg_of X G a23, fun_mk (st := st__law_needs) l23 c23 k23, (fun_mk (st := st__law_needs) l23 c23 k23).binds (ps := ["person", "bounds", "which"]) fun _ _ _ _ _ _ us hl => match us, hl with | [_, _, _], _ => rfl⟩
  · exact ⟨_, _, PySem.W.mg_of X G a24, fun_mk (st := st__law_told) l24 c24 k24, (fun_mk (st := st__law_told) l24 c24 k24).binds (ps := ["which", "person", "bounds"]) fun _ _ _ _ _ _ us hl => match us, hl with | [_, _, _], _ => rfl⟩
  · exact ⟨_, _, PySem.W.mg_of X G a25, fun_mk (st := st_law) l25 c25 k25, (fun_mk (st := st_law) l25 c25 k25).binds (ps := ["script"]) fun _ _ _ _ _ _ us hl => match us, hl with | [_], _ => rfl⟩
  · exact PySem.W.mg_none_of X G z_all
  · exact PySem.W.mg_none_of X G z_len
  · exact PySem.W.mg_none_of X G z_isinstance
  · exact PySem.W.mg_none_of X G z_str
  · exact PySem.W.mg_none_of X G z_zip
  · exact PySem.W.mg_none_of X G z_bool
  · exact PySem.W.mg_none_of X G z_int
  · exact PySem.W.mg_none_of X G z_tuple
  · exact PySem.W.mg_none_of X G z_sorted
  · exact PySem.W.mg_none_of X G z_dict
  · exact PySem.W.mg_none_of X G z_list
  · exact PySem.W.mg_none_of X G z_reversed
  · exact PySem.W.mg_none_of X G z_range
  · exact PySem.W.mg_none_of X G z_abs
  · exact PySem.W.mg_none_of X G z_repr
  · exact ⟨_, PySem.W.mg_of X G v_SMALL⟩
  · exact ⟨_, PySem.W.mg_of X G v_FIGURES⟩
  · exact ⟨_, PySem.W.mg_of X G v_LONGEST⟩
  · exact ⟨_, PySem.W.mg_of X G v_MOST_MEASURES⟩
  · exact ⟨_, PySem.W.mg_of X G v_NO_NEED, rp_tupI (its := [.int 1 t_NO_NEED_0, .int 0 t_NO_NEED_1]) (ns := [1, 0]) w_NO_NEED rfl rfl (by simp) (.cons _ _ (.cons _ _ .nil))⟩
  · exact ⟨_, PySem.W.mg_of X G v_TOP_SIZE⟩
  · exact ⟨_, PySem.W.mg_of X G e_NotRight, q_NotRight, r_NotRight, s_NotRight, u_NotRight⟩
  · exact ⟨_, PySem.W.mg_of X G e_NotThere, q_NotThere, r_NotThere, s_NotThere, u_NotThere⟩
  · exact ⟨_, PySem.W.mg_of X G e_SeamError, q_SeamError, r_SeamError, s_SeamError, u_SeamError⟩
  · exact fun c cls C b hC hc hs => by
      have eC : C = C_SeamError := by have z := (PySem.W.mg_of X G e_SeamError).symm.trans hC; cases z; rfl
      subst eC
      unfold sub at hs
      split at hs
      · rename_i hh
        obtain ⟨rfl, _⟩ := hh
        cases hs
        have z := (PySem.W.mg_of X G e_NotRight).symm.trans hc
        cases z
        exact exm_mk s_SeamError i_SeamError u_SeamError y_NotRight_SeamError
      split at hs
      · rename_i hh
        obtain ⟨rfl, _⟩ := hh
        cases hs
        have z := (PySem.W.mg_of X G e_NotThere).symm.trans hc
        cases z
        exact exm_mk s_SeamError i_SeamError u_SeamError y_NotThere_SeamError
      split at hs
      · rename_i hh
        obtain ⟨rfl, _⟩ := hh
        cases hs
        have z := (PySem.W.mg_of X G e_SeamError).symm.trans hc
        cases z
        exact exm_mk s_SeamError i_SeamError u_SeamError y_SeamError_SeamError
      split at hs
      · rename_i hh
        exact absurd hh.2 (by decide +kernel)
      split at hs
      · rename_i hh
        exact absurd hh.2 (by decide +kernel)
      split at hs
      · rename_i hh
        exact absurd hh.2 (by decide +kernel)
      cases hs
  · exact fun c cls C b hC hc hs => by
      have eC : C = C_NotRight := by have z := (PySem.W.mg_of X G e_NotRight).symm.trans hC; cases z; rfl
      subst eC
      unfold sub at hs
      split at hs
      · rename_i hh
        exact absurd hh.2 (by decide +kernel)
      split at hs
      · rename_i hh
        exact absurd hh.2 (by decide +kernel)
      split at hs
      · rename_i hh
        exact absurd hh.2 (by decide +kernel)
      split at hs
      · rename_i hh
        obtain ⟨rfl, _⟩ := hh
        cases hs
        have z := (PySem.W.mg_of X G e_NotRight).symm.trans hc
        cases z
        exact exm_mk s_NotRight i_NotRight u_NotRight y_NotRight_NotRight
      split at hs
      · rename_i hh
        obtain ⟨rfl, _⟩ := hh
        cases hs
        have z := (PySem.W.mg_of X G e_NotThere).symm.trans hc
        cases z
        exact exm_mk s_NotRight i_NotRight u_NotRight y_NotThere_NotRight
      split at hs
      · rename_i hh
        obtain ⟨rfl, _⟩ := hh
        cases hs
        have z := (PySem.W.mg_of X G e_SeamError).symm.trans hc
        cases z
        exact exm_mk s_NotRight i_NotRight u_NotRight y_SeamError_NotRight
      cases hs

theorem law_mk {P : Program} {w : World} {K : PySem.W.Frag} {h : Heap} {mg : Str → Option Value} {fa : Addr} (X : K.In h) (G : h.Ns mainGlobals mg) (hfa : mg "law" = some (.ref fa)) {od0 an0 : Option Addr} {sl0 : Array (Option Value)} {oc0 kV0 dc0 pm0 cd0 ct0 : Value} {f0 : Addr} {od1 an1 : Option Addr} {sl1 : Array (Option Value)} {oc1 kV1 dc1 pm1 cd1 ct1 : Value} {f1 : Addr} {od2 an2 : Option Addr} {sl2 : Array (Option Value)} {oc2 kV2 dc2 pm2 cd2 ct2 : Value} {f2 : Addr} {od3 an3 : Option Addr} {sl3 : Array (Option Value)} {oc3 kV3 dc3 pm3 cd3 ct3 : Value} {f3 : Addr} {od4 an4 : Option Addr} {sl4 : Array (Option Value)} {oc4 kV4 dc4 pm4 cd4 ct4 : Value} {f4 : Addr} {od5 an5 : Option Addr} {sl5 : Array (Option Value)} {oc5 kV5 dc5 pm5 cd5 ct5 : Value} {f5 : Addr} {od6 an6 : Option Addr} {sl6 : Array (Option Value)} {oc6 kV6 dc6 pm6 cd6 ct6 : Value} {f6 : Addr} {od7 an7 : Option Addr} {sl7 : Array (Option Value)} {oc7 kV7 dc7 pm7 cd7 ct7 : Value} {f7 : Addr} {od8 an8 : Option Addr} {sl8 : Array (Option Value)} {oc8 kV8 dc8 pm8 cd8 ct8 : Value} {f8 : Addr} {od9 an9 : Option Addr} {sl9 : Array (Option Value)} {oc9 kV9 dc9 pm9 cd9 ct9 : Value} {f9 : Addr} {od10 an10 : Option Addr} {sl10 : Array (Option Value)} {oc10 kV10 dc10 pm10 cd10 ct10 : Value} {f10 : Addr} {od11 an11 : Option Addr} {sl11 : Array (Option Value)} {oc11 kV11 dc11 pm11 cd11 ct11 : Value} {f11 : Addr} {od12 an12 : Option Addr} {sl12 : Array (Option Value)} {oc12 kV12 dc12 pm12 cd12 ct12 : Value} {f12 : Addr} {od13 an13 : Option Addr} {sl13 : Array (Option Value)} {oc13 kV13 dc13 pm13 cd13 ct13 : Value} {f13 : Addr} {od14 an14 : Option Addr} {sl14 : Array (Option Value)} {oc14 kV14 dc14 pm14 cd14 ct14 : Value} {f14 : Addr} {od15 an15 : Option Addr} {sl15 : Array (Option Value)} {oc15 kV15 dc15 pm15 cd15 ct15 : Value} {f15 : Addr} {od16 an16 : Option Addr} {sl16 : Array (Option Value)} {oc16 kV16 dc16 pm16 cd16 ct16 : Value} {f16 : Addr} {od17 an17 : Option Addr} {sl17 : Array (Option Value)} {oc17 kV17 dc17 pm17 cd17 ct17 : Value} {f17 : Addr} {od18 an18 : Option Addr} {sl18 : Array (Option Value)} {oc18 kV18 dc18 pm18 cd18 ct18 : Value} {f18 : Addr} {od19 an19 : Option Addr} {sl19 : Array (Option Value)} {oc19 kV19 dc19 pm19 cd19 ct19 : Value} {f19 : Addr} {od20 an20 : Option Addr} {sl20 : Array (Option Value)} {oc20 kV20 dc20 pm20 cd20 ct20 : Value} {f20 : Addr} {od21 an21 : Option Addr} {sl21 : Array (Option Value)} {oc21 kV21 dc21 pm21 cd21 ct21 : Value} {f21 : Addr} {od22 an22 : Option Addr} {sl22 : Array (Option Value)} {oc22 kV22 dc22 pm22 cd22 ct22 : Value} {f22 : Addr} {od23 an23 : Option Addr} {sl23 : Array (Option Value)} {oc23 kV23 dc23 pm23 cd23 ct23 : Value} {f23 : Addr} {od24 an24 : Option Addr} {sl24 : Array (Option Value)} {oc24 kV24 dc24 pm24 cd24 ct24 : Value} {f24 : Addr} {od25 an25 : Option Addr} {sl25 : Array (Option Value)} {oc25 kV25 dc25 pm25 cd25 ct25 : Value} {f25 : Addr} {t_SMALL : Tok} {t_FIGURES : Tok} {t_LONGEST : Tok} {t_MOST_MEASURES : Tok} {a_NO_NEED : Addr} {o_NO_NEED : Option Addr} {n_NO_NEED : Nat} {s_NO_NEED : Array (Option Value)} {t_NO_NEED_0 t_NO_NEED_1 : Tok} {t_TOP_SIZE : Tok} {C_NotRight : Addr} {C_NotThere : Addr} {C_SeamError : Addr}
    (a0 : PySem.W.nsIn K mainGlobals "is_name" = some (some (.ref f0))) (l0 : K.lookup f0 = some ⟨oc0, od0, .func (PySem.W.fnOf "is_name" "is_name" (defArgs st_is_name) (defBody st_is_name) (defScope st_is_name) .none kV0 dc0 pm0 an0 cd0 ct0), sl0⟩) (c0 : PySem.W.codeIn K cd0 "is_name" = true) (k0 : PySem.W.keepIn K (.ref f0) = true)
    (a1 : PySem.W.nsIn K mainGlobals "are_ascending" = some (some (.ref f1))) (l1 : K.lookup f1 = some ⟨oc1, od1, .func (PySem.W.fnOf "are_ascending" "are_ascending" (defArgs st_are_ascending) (defBody st_are_ascending) (defScope st_are_ascending) .none kV1 dc1 pm1 an1 cd1 ct1), sl1⟩) (c1 : PySem.W.codeIn K cd1 "are_ascending" = true) (k1 : PySem.W.keepIn K (.ref f1) = true)
    (a2 : PySem.W.nsIn K mainGlobals "is_within" = some (some (.ref f2))) (l2 : K.lookup f2 = some ⟨oc2, od2, .func (PySem.W.fnOf "is_within" "is_within" (defArgs st_is_within) (defBody st_is_within) (defScope st_is_within) .none kV2 dc2 pm2 an2 cd2 ct2), sl2⟩) (c2 : PySem.W.codeIn K cd2 "is_within" = true) (k2 : PySem.W.keepIn K (.ref f2) = true)
    (a3 : PySem.W.nsIn K mainGlobals "is_part" = some (some (.ref f3))) (l3 : K.lookup f3 = some ⟨oc3, od3, .func (PySem.W.fnOf "is_part" "is_part" (defArgs st_is_part) (defBody st_is_part) (defScope st_is_part) .none kV3 dc3 pm3 an3 cd3 ct3), sl3⟩) (c3 : PySem.W.codeIn K cd3 "is_part" = true) (k3 : PySem.W.keepIn K (.ref f3) = true)
    (a4 : PySem.W.nsIn K mainGlobals "is_garment" = some (some (.ref f4))) (l4 : K.lookup f4 = some ⟨oc4, od4, .func (PySem.W.fnOf "is_garment" "is_garment" (defArgs st_is_garment) (defBody st_is_garment) (defScope st_is_garment) .none kV4 dc4 pm4 an4 cd4 ct4), sl4⟩) (c4 : PySem.W.codeIn K cd4 "is_garment" = true) (k4 : PySem.W.keepIn K (.ref f4) = true)
    (a5 : PySem.W.nsIn K mainGlobals "is_integer" = some (some (.ref f5))) (l5 : K.lookup f5 = some ⟨oc5, od5, .func (PySem.W.fnOf "is_integer" "is_integer" (defArgs st_is_integer) (defBody st_is_integer) (defScope st_is_integer) .none kV5 dc5 pm5 an5 cd5 ct5), sl5⟩) (c5 : PySem.W.codeIn K cd5 "is_integer" = true) (k5 : PySem.W.keepIn K (.ref f5) = true)
    (a6 : PySem.W.nsIn K mainGlobals "is_span" = some (some (.ref f6))) (l6 : K.lookup f6 = some ⟨oc6, od6, .func (PySem.W.fnOf "is_span" "is_span" (defArgs st_is_span) (defBody st_is_span) (defScope st_is_span) .none kV6 dc6 pm6 an6 cd6 ct6), sl6⟩) (c6 : PySem.W.codeIn K cd6 "is_span" = true) (k6 : PySem.W.keepIn K (.ref f6) = true)
    (a7 : PySem.W.nsIn K mainGlobals "is_need" = some (some (.ref f7))) (l7 : K.lookup f7 = some ⟨oc7, od7, .func (PySem.W.fnOf "is_need" "is_need" (defArgs st_is_need) (defBody st_is_need) (defScope st_is_need) .none kV7 dc7 pm7 an7 cd7 ct7), sl7⟩) (c7 : PySem.W.codeIn K cd7 "is_need" = true) (k7 : PySem.W.keepIn K (.ref f7) = true)
    (a8 : PySem.W.nsIn K mainGlobals "is_person" = some (some (.ref f8))) (l8 : K.lookup f8 = some ⟨oc8, od8, .func (PySem.W.fnOf "is_person" "is_person" (defArgs st_is_person) (defBody st_is_person) (defScope st_is_person) .none kV8 dc8 pm8 an8 cd8 ct8), sl8⟩) (c8 : PySem.W.codeIn K cd8 "is_person" = true) (k8 : PySem.W.keepIn K (.ref f8) = true)
    (a9 : PySem.W.nsIn K mainGlobals "check_garment" = some (some (.ref f9))) (l9 : K.lookup f9 = some ⟨oc9, od9, .func (PySem.W.fnOf "check_garment" "check_garment" (defArgs st_check_garment) (defBody st_check_garment) (defScope st_check_garment) .none kV9 dc9 pm9 an9 cd9 ct9), sl9⟩) (c9 : PySem.W.codeIn K cd9 "check_garment" = true) (k9 : PySem.W.keepIn K (.ref f9) = true)
    (a10 : PySem.W.nsIn K mainGlobals "check_person" = some (some (.ref f10))) (l10 : K.lookup f10 = some ⟨oc10, od10, .func (PySem.W.fnOf "check_person" "check_person" (defArgs st_check_person) (defBody st_check_person) (defScope st_check_person) .none kV10 dc10 pm10 an10 cd10 ct10), sl10⟩) (c10 : PySem.W.codeIn K cd10 "check_person" = true) (k10 : PySem.W.keepIn K (.ref f10) = true)
    (a11 : PySem.W.nsIn K mainGlobals "does_serve" = some (some (.ref f11))) (l11 : K.lookup f11 = some ⟨oc11, od11, .func (PySem.W.fnOf "does_serve" "does_serve" (defArgs st_does_serve) (defBody st_does_serve) (defScope st_does_serve) .none kV11 dc11 pm11 an11 cd11 ct11), sl11⟩) (c11 : PySem.W.codeIn K cd11 "does_serve" = true) (k11 : PySem.W.keepIn K (.ref f11) = true)
    (a12 : PySem.W.nsIn K mainGlobals "serves" = some (some (.ref f12))) (l12 : K.lookup f12 = some ⟨oc12, od12, .func (PySem.W.fnOf "serves" "serves" (defArgs st_serves) (defBody st_serves) (defScope st_serves) .none kV12 dc12 pm12 an12 cd12 ct12), sl12⟩) (c12 : PySem.W.codeIn K cd12 "serves" = true) (k12 : PySem.W.keepIn K (.ref f12) = true)
    (a13 : PySem.W.nsIn K mainGlobals "check_bounds" = some (some (.ref f13))) (l13 : K.lookup f13 = some ⟨oc13, od13, .func (PySem.W.fnOf "check_bounds" "check_bounds" (defArgs st_check_bounds) (defBody st_check_bounds) (defScope st_check_bounds) .none kV13 dc13 pm13 an13 cd13 ct13), sl13⟩) (c13 : PySem.W.codeIn K cd13 "check_bounds" = true) (k13 : PySem.W.keepIn K (.ref f13) = true)
    (a14 : PySem.W.nsIn K mainGlobals "moved_person" = some (some (.ref f14))) (l14 : K.lookup f14 = some ⟨oc14, od14, .func (PySem.W.fnOf "moved_person" "moved_person" (defArgs st_moved_person) (defBody st_moved_person) (defScope st_moved_person) .none kV14 dc14 pm14 an14 cd14 ct14), sl14⟩) (c14 : PySem.W.codeIn K cd14 "moved_person" = true) (k14 : PySem.W.keepIn K (.ref f14) = true)
    (a15 : PySem.W.nsIn K mainGlobals "sure_person" = some (some (.ref f15))) (l15 : K.lookup f15 = some ⟨oc15, od15, .func (PySem.W.fnOf "sure_person" "sure_person" (defArgs st_sure_person) (defBody st_sure_person) (defScope st_sure_person) .none kV15 dc15 pm15 an15 cd15 ct15), sl15⟩) (c15 : PySem.W.codeIn K cd15 "sure_person" = true) (k15 : PySem.W.keepIn K (.ref f15) = true)
    (a16 : PySem.W.nsIn K mainGlobals "possible_person" = some (some (.ref f16))) (l16 : K.lookup f16 = some ⟨oc16, od16, .func (PySem.W.fnOf "possible_person" "possible_person" (defArgs st_possible_person) (defBody st_possible_person) (defScope st_possible_person) .none kV16 dc16 pm16 an16 cd16 ct16), sl16⟩) (c16 : PySem.W.codeIn K cd16 "possible_person" = true) (k16 : PySem.W.keepIn K (.ref f16) = true)
    (a17 : PySem.W.nsIn K mainGlobals "_law_draws" = some (some (.ref f17))) (l17 : K.lookup f17 = some ⟨oc17, od17, .func (PySem.W.fnOf "_law_draws" "_law_draws" (defArgs st__law_draws) (defBody st__law_draws) (defScope st__law_draws) .none kV17 dc17 pm17 an17 cd17 ct17), sl17⟩) (c17 : PySem.W.codeIn K cd17 "_law_draws" = true) (k17 : PySem.W.keepIn K (.ref f17) = true)
    (a18 : PySem.W.nsIn K mainGlobals "_law_take" = some (some (.ref f18))) (l18 : K.lookup f18 = some ⟨oc18, od18, .func (PySem.W.fnOf "_law_take" "_law_take" (defArgs st__law_take) (defBody st__law_take) (defScope st__law_take) .none kV18 dc18 pm18 an18 cd18 ct18), sl18⟩) (c18 : PySem.W.codeIn K cd18 "_law_take" = true) (k18 : PySem.W.keepIn K (.ref f18) = true)
    (a19 : PySem.W.nsIn K mainGlobals "_law_pick" = some (some (.ref f19))) (l19 : K.lookup f19 = some ⟨oc19, od19, .func (PySem.W.fnOf "_law_pick" "_law_pick" (defArgs st__law_pick) (defBody st__law_pick) (defScope st__law_pick) .none kV19 dc19 pm19 an19 cd19 ct19), sl19⟩) (c19 : PySem.W.codeIn K cd19 "_law_pick" = true) (k19 : PySem.W.keepIn K (.ref f19) = true)
    (a20 : PySem.W.nsIn K mainGlobals "_law_world" = some (some (.ref f20))) (l20 : K.lookup f20 = some ⟨oc20, od20, .func (PySem.W.fnOf "_law_world" "_law_world" (defArgs st__law_world) (defBody st__law_world) (defScope st__law_world) .none kV20 dc20 pm20 an20 cd20 ct20), sl20⟩) (c20 : PySem.W.codeIn K cd20 "_law_world" = true) (k20 : PySem.W.keepIn K (.ref f20) = true)
    (a21 : PySem.W.nsIn K mainGlobals "_law_fits" = some (some (.ref f21))) (l21 : K.lookup f21 = some ⟨oc21, od21, .func (PySem.W.fnOf "_law_fits" "_law_fits" (defArgs st__law_fits) (defBody st__law_fits) (defScope st__law_fits) .none kV21 dc21 pm21 an21 cd21 ct21), sl21⟩) (c21 : PySem.W.codeIn K cd21 "_law_fits" = true) (k21 : PySem.W.keepIn K (.ref f21) = true)
    (a22 : PySem.W.nsIn K mainGlobals "_law_served" = some (some (.ref f22))) (l22 : K.lookup f22 = some ⟨oc22, od22, .func (PySem.W.fnOf "_law_served" "_law_served" (defArgs st__law_served) (defBody st__law_served) (defScope st__law_served) .none kV22 dc22 pm22 an22 cd22 ct22), sl22⟩) (c22 : PySem.W.codeIn K cd22 "_law_served" = true) (k22 : PySem.W.keepIn K (.ref f22) = true)
    (a23 : PySem.W.nsIn K mainGlobals "_law_needs" = some (some (.ref f23))) (l23 : K.lookup f23 = some ⟨oc23, od23, .func (PySem.W.fnOf "_law_needs" "_law_needs" (defArgs st__law_needs) (defBody st__law_needs) (defScope st__law_needs) .none kV23 dc23 pm23 an23 cd23 ct23), sl23⟩) (c23 : PySem.W.codeIn K cd23 "_law_needs" = true) (k23 : PySem.W.keepIn K (.ref f23) = true)
    (a24 : PySem.W.nsIn K mainGlobals "_law_told" = some (some (.ref f24))) (l24 : K.lookup f24 = some ⟨oc24, od24, .func (PySem.W.fnOf "_law_told" "_law_told" (defArgs st__law_told) (defBody st__law_told) (defScope st__law_told) .none kV24 dc24 pm24 an24 cd24 ct24), sl24⟩) (c24 : PySem.W.codeIn K cd24 "_law_told" = true) (k24 : PySem.W.keepIn K (.ref f24) = true)
    (a25 : PySem.W.nsIn K mainGlobals "law" = some (some (.ref f25))) (l25 : K.lookup f25 = some ⟨oc25, od25, .func (PySem.W.fnOf "law" "law" (defArgs st_law) (defBody st_law) (defScope st_law) .none kV25 dc25 pm25 an25 cd25 ct25), sl25⟩) (c25 : PySem.W.codeIn K cd25 "law" = true) (k25 : PySem.W.keepIn K (.ref f25) = true)
    (z_all : PySem.W.nsIn K mainGlobals "all" = some none)
    (z_len : PySem.W.nsIn K mainGlobals "len" = some none)
    (z_isinstance : PySem.W.nsIn K mainGlobals "isinstance" = some none)
    (z_str : PySem.W.nsIn K mainGlobals "str" = some none)
    (z_zip : PySem.W.nsIn K mainGlobals "zip" = some none)
    (z_bool : PySem.W.nsIn K mainGlobals "bool" = some none)
    (z_int : PySem.W.nsIn K mainGlobals "int" = some none)
    (z_tuple : PySem.W.nsIn K mainGlobals "tuple" = some none)
    (z_sorted : PySem.W.nsIn K mainGlobals "sorted" = some none)
    (z_dict : PySem.W.nsIn K mainGlobals "dict" = some none)
    (z_list : PySem.W.nsIn K mainGlobals "list" = some none)
    (z_reversed : PySem.W.nsIn K mainGlobals "reversed" = some none)
    (z_range : PySem.W.nsIn K mainGlobals "range" = some none)
    (z_abs : PySem.W.nsIn K mainGlobals "abs" = some none)
    (z_repr : PySem.W.nsIn K mainGlobals "repr" = some none)
    (v_SMALL : PySem.W.nsIn K mainGlobals "SMALL" = some (some (.str "abcdefghijklmnopqrstuvwxyz" t_SMALL)))
    (v_FIGURES : PySem.W.nsIn K mainGlobals "FIGURES" = some (some (.str "0123456789" t_FIGURES)))
    (v_LONGEST : PySem.W.nsIn K mainGlobals "LONGEST" = some (some (.int 12 t_LONGEST)))
    (v_MOST_MEASURES : PySem.W.nsIn K mainGlobals "MOST_MEASURES" = some (some (.int 8 t_MOST_MEASURES)))
    (v_NO_NEED : PySem.W.nsIn K mainGlobals "NO_NEED" = some (some (.ref a_NO_NEED))) (w_NO_NEED : K.lookup a_NO_NEED = some ⟨.type "tuple", o_NO_NEED, .seq #[.int 1 t_NO_NEED_0, .int 0 t_NO_NEED_1] n_NO_NEED, s_NO_NEED⟩)
    (v_TOP_SIZE : PySem.W.nsIn K mainGlobals "TOP_SIZE" = some (some (.int 60 t_TOP_SIZE)))
    (e_NotRight : PySem.W.nsIn K mainGlobals "NotRight" = some (some (.ref C_NotRight))) (q_NotRight : PySem.W.excIn K C_NotRight [.type "ValueError", .type "Exception", .type "BaseException", .type "object"] "ValueError.__new__" = true) (r_NotRight : PySem.W.keepIn K (.ref C_NotRight) = true) (s_NotRight : PySem.W.subIn K (.ref C_NotRight) (.type "BaseException") = some true) (u_NotRight : PySem.W.typeIn K (.ref C_NotRight) = some (.type "type"))
    (e_NotThere : PySem.W.nsIn K mainGlobals "NotThere" = some (some (.ref C_NotThere))) (q_NotThere : PySem.W.excIn K C_NotThere [.type "ValueError", .type "Exception", .type "BaseException", .type "object"] "ValueError.__new__" = true) (r_NotThere : PySem.W.keepIn K (.ref C_NotThere) = true) (s_NotThere : PySem.W.subIn K (.ref C_NotThere) (.type "BaseException") = some true) (u_NotThere : PySem.W.typeIn K (.ref C_NotThere) = some (.type "type"))
    (e_SeamError : PySem.W.nsIn K mainGlobals "SeamError" = some (some (.ref C_SeamError))) (q_SeamError : PySem.W.excIn K C_SeamError [.type "ValueError", .type "Exception", .type "BaseException", .type "object"] "ValueError.__new__" = true) (r_SeamError : PySem.W.keepIn K (.ref C_SeamError) = true) (s_SeamError : PySem.W.subIn K (.ref C_SeamError) (.type "BaseException") = some true) (u_SeamError : PySem.W.typeIn K (.ref C_SeamError) = some (.type "type"))
    (i_SeamError : PySem.W.isClsIn K C_SeamError = true)
    (y_NotRight_SeamError : PySem.W.subIn K (.ref C_NotRight) (.ref C_SeamError) = some true)
    (y_NotThere_SeamError : PySem.W.subIn K (.ref C_NotThere) (.ref C_SeamError) = some true)
    (y_SeamError_SeamError : PySem.W.subIn K (.ref C_SeamError) (.ref C_SeamError) = some true)
    (i_NotRight : PySem.W.isClsIn K C_NotRight = true)
    (y_NotRight_NotRight : PySem.W.subIn K (.ref C_NotRight) (.ref C_NotRight) = some true)
    (y_NotThere_NotRight : PySem.W.subIn K (.ref C_NotThere) (.ref C_NotRight) = some false)
    (y_SeamError_NotRight : PySem.W.subIn K (.ref C_SeamError) (.ref C_NotRight) = some false) :
    ∃ fd : FuncData, (∀ (s : Shared) (v : Value), BindsTo s fd ⟨[v], []⟩ [("script", v)]) ∧ ∀ base : Heap, K.In base → base.Ns mainGlobals mg → FnG P w K mg base 9 fa fd ["script"] m_law := by
  have T : Txt K mg := txt_mk (w := w) X G a0 l0 c0 k0 a1 l1 c1 k1 a2 l2 c2 k2 a3 l3 c3 k3 a4 l4 c4 k4 a5 l5 c5 k5 a6 l6 c6 k6 a7 l7 c7 k7 a8 l8 c8 k8 a9 l9 c9 k9 a10 l10 c10 k10 a11 l11 c11 k11 a12 l12 c12 k12 a13 l13 c13 k13 a14 l14 c14 k14 a15 l15 c15 k15 a16 l16 c16 k16 a17 l17 c17 k17 a18 l18 c18 k18 a19 l19 c19 k19 a20 l20 c20 k20 a21 l21 c21 k21 a22 l22 c22 k22 a23 l23 c23 k23 a24 l24 c24 k24 a25 l25 c25 k25 z_all z_len z_isinstance z_str z_zip z_bool z_int z_tuple z_sorted z_dict z_list z_reversed z_range z_abs z_repr v_SMALL v_FIGURES v_LONGEST v_MOST_MEASURES v_NO_NEED w_NO_NEED v_TOP_SIZE e_NotRight q_NotRight r_NotRight s_NotRight u_NotRight e_NotThere q_NotThere r_NotThere s_NotThere u_NotThere e_SeamError q_SeamError r_SeamError s_SeamError u_SeamError i_SeamError y_NotRight_SeamError y_NotThere_SeamError y_SeamError_SeamError i_NotRight y_NotRight_NotRight y_NotThere_NotRight y_SeamError_NotRight
  have e := hfa.symm.trans (PySem.W.mg_of X G a25)
  cases e
  refine ⟨PySem.W.fnOf "law" "law" (defArgs st_law) (defBody st_law) (defScope st_law) .none kV25 dc25 pm25 an25 cd25 ct25, fun s v => .of_eq rfl, fun base Kb nb => ?_⟩
  exact has_fn (ok_law (P := P) (w := w) (base := base) T) (PySem.W.mg_of X G a25) l25
end Ev

set_option Elab.async false
set_option linter.all false
set_option maxRecDepth 100000
set_option maxHeartbeats 2000000
/-! K41C: the checks of garments, persons, bounds at the law's own inputs. -/
namespace Ev
open PySem
/-- a measure: its name, base and step, the least and most that are needed, the bounds -/
structure Ms where
  n : Str
  b : Int
  s : Int
  l : Int
  m : Int
  lo : Int
  hi : Int
def eG (r : Ms) : D := .tuple [.str r.n, .int r.b, .int r.s]
def eN (r : Ms) : D := .tuple [.str r.n, .int r.l, .int r.m]
def eP (r : Ms) : D := .tuple [.int r.lo, .int r.hi]
def gar (ws : List Ms) : D := .tuple (ws.map eG)
def per (ws : List Ms) : D := .tuple [.str "ann", .tuple (ws.map eN)]
def bnd (ws : List Ms) : D := .dict (ws.map fun r => (.str r.n, eP r))
inductive NL : List Str → Prop
  | one : NL ["arm"]
  | two : NL ["arm", "chest"]
  | three : NL ["arm", "chest", "hip"]
theorem NL.len {l : List Str} (h : NL l) : 1 ≤ l.length ∧ l.length ≤ 3 := by cases h <;> decide
def Nm (ws : List Ms) : Prop := NL (ws.map (·.n))
theorem Nm.len {ws : List Ms} (h : Nm ws) : 1 ≤ ws.length ∧ ws.length ≤ 3 := by
  have := NL.len h
  rwa [List.length_map] at this
theorem is_integer_int (i : Int) : m_is_integer [.val (.int i)] = .rt (.val (.bool true)) [] := by
  simp [m_is_integer, g_is_integer]
theorem is_within_int (v lo hi : Int) : m_is_within [.val (.int v), .val (.int lo), .val (.int hi)] = .rt (.val (.bool (decide (lo ≤ v ∧ v ≤ hi)))) [] := by
  simp [m_is_within, g_is_within]
  split
  · simp_all
  · simp
    omega
theorem nm_arm : m_is_name [.val (.str "arm")] = .rt (.val (.bool true)) [] := by kernel_rfl
theorem nm_chest : m_is_name [.val (.str "chest")] = .rt (.val (.bool true)) [] := by kernel_rfl
theorem nm_hip : m_is_name [.val (.str "hip")] = .rt (.val (.bool true)) [] := by kernel_rfl
theorem nm_ann : m_is_name [.val (.str "ann")] = .rt (.val (.bool true)) [] := by kernel_rfl
theorem nm_Ann : m_is_name [.val (.str "Ann")] = .rt (.val (.bool false)) [] := by kernel_rfl
theorem NL.name {l : List Str} (h : NL l) : ∀ n ∈ l, m_is_name [.val (.str n)] = .rt (.val (.bool true)) [] := by
  cases h <;> simp [nm_arm, nm_chest, nm_hip]
theorem NL.asc {l : List Str} (h : NL l) : m_are_ascending [.val (.list (l.map .str))] = .rt (.val (.bool true)) [] := by
  cases h <;> kernel_rfl
theorem Nm.name {ws : List Ms} (h : Nm ws) {r : Ms} (hr : r ∈ ws) : m_is_name [.val (.str r.n)] = .rt (.val (.bool true)) [] := NL.name h _ (List.mem_map.mpr ⟨r, hr, rfl⟩)
theorem Nm.asc {ws : List Ms} (h : Nm ws) : m_are_ascending [.val (.list (ws.map fun r => .str r.n))] = .rt (.val (.bool true)) [] := by
  have := NL.asc h
  rw [List.map_map] at this
  exact this
theorem all_true {α : Type} (rs : List α) : dAll (.list (rs.map fun _ => .bool true)) = some (.val (.bool true)) := by
  rw [e_all_map (fun _ => true)]
  simp
theorem is_part_ok {r : Ms} (hn : m_is_name [.val (.str r.n)] = .rt (.val (.bool true)) []) (h1 : 1 ≤ r.b ∧ r.b ≤ 10000) (h2 : 0 ≤ r.s ∧ r.s ≤ 200) : m_is_part [.val (eG r)] = .rt (.val (.bool true)) [] := by
  simp [m_is_part, g_is_part, eG, hn, is_within_int, h1, h2]
theorem is_garment_ok {ws : List Ms} (hl : Nm ws) (h : ∀ r ∈ ws, (1 ≤ r.b ∧ r.b ≤ 10000) ∧ (0 ≤ r.s ∧ r.s ≤ 200)) : m_is_garment [.val (gar ws)] = .rt (.val (.bool true)) [] := by
  have hlen := hl.len
  have a1 : lcE [3] (itSeq (var 0)) (stI 3) yesT (calE m_is_part [.v (var 3)]) [.val (.tuple (ws.map eG)), .no, .no, .no] = .ok (.frs (.list (ws.map fun _ => .bool true))) [.val (.tuple (ws.map eG)), .no, .no, .no] :=
    map_lc eG _ (by simp) (by rfl) (by omega) fun r hr => by simp [lcTurn, is_part_ok (hl.name hr) (h r hr).1 (h r hr).2]
  have a2 : lcE [1, 2] (itSeq (var 0)) (stT [(stI 1), (stI 2), (stI 2)]) yesT (var 1) [.val (.tuple (ws.map eG)), .no, .no, .no] = .ok (.frs (.list (ws.map fun r => .str r.n))) [.val (.tuple (ws.map eG)), .no, .no, .no] :=
    map_lc eG _ (by simp) (by rfl) (by omega) fun r hr => by simp [lcTurn, eG]
  have b1 : 1 ≤ (ws.length : Int) := by omega
  have b2 : ¬ 8 < (ws.length : Int) := by omega
  simp [m_is_garment, g_is_garment, gar, a1, a2, all_true, hl.asc, b1, b2]
theorem two_true : dAll (.list [.bool true, .bool true]) = some (.val (.bool true)) := rfl
theorem is_span_int (a b : Int) : m_is_span [.val (.tuple [.int a, .int b])] = .rt (.val (.bool (decide (a ≤ b)))) [] := by
  have a1 : lcE [1] (itSeq (var 0)) (stI 1) yesT (calE m_is_integer [.v (var 1)]) [.val (.tuple [.int a, .int b]), .no] = .ok (.frs (.list ([a, b].map fun _ => .bool true))) [.val (.tuple [.int a, .int b]), .no] :=
    map_lc (rs := [a, b]) PyData.int _ (by simp) (by rfl) (by simp) fun r hr => by simp [lcTurn, is_integer_int]
  simp [m_is_span, g_is_span, a1, two_true]
theorem is_need_int (n : Str) (a b : Int) (hn : m_is_name [.val (.str n)] = .rt (.val (.bool true)) []) : m_is_need [.val (.tuple [.str n, .int a, .int b])] = .rt (.val (.bool (decide (a ≤ b ∨ (a = 1 ∧ b = 0))))) [] := by
  have a1 : lcE [1] (itSeq (slE (var 0) (some (cst (.int 1))) none)) (stI 1) yesT (calE m_is_integer [.v (var 1)]) [.val (.tuple [.str n, .int a, .int b]), .no] = .ok (.frs (.list ([a, b].map fun _ => .bool true))) [.val (.tuple [.str n, .int a, .int b]), .no] :=
    map_lc (rs := [a, b]) PyData.int _ (by simp) (by rfl) (by simp) fun r hr => by simp [lcTurn, is_integer_int]
  simp [m_is_need, g_is_need, hn, is_span_int, a1, two_true, dEq_t2]
  split <;> simp_all
  omega
theorem is_person_ok {ws : List Ms} (hl : Nm ws) (h : ∀ r ∈ ws, r.l ≤ r.m ∨ (r.l = 1 ∧ r.m = 0)) : m_is_person [.val (per ws)] = .rt (.val (.bool true)) [] := by
  have hlen := hl.len
  have a1 : lcE [1] (itSeq (op2 dIdx (var 0) (cst (.int 1)))) (stI 1) yesT (calE m_is_need [.v (var 1)]) [.val (per ws), .no] = .ok (.frs (.list (ws.map fun _ => .bool true))) [.val (per ws), .no] :=
    map_lc eN _ (by simp [per]) (by rfl) (by omega) fun r hr => by simp [lcTurn, eN, is_need_int _ _ _ (hl.name hr), h r hr]
  have a2 : lcE [1] (itSeq (op2 dIdx (var 0) (cst (.int 1)))) (stI 1) yesT (op2 dIdx (var 1) (cst (.int 0))) [.val (per ws), .no] = .ok (.frs (.list (ws.map fun r => .str r.n))) [.val (per ws), .no] :=
    map_lc eN _ (by simp [per]) (by rfl) (by omega) fun r hr => by simp [lcTurn, eN]
  unfold per at a1 a2 ⊢
  simp [m_is_person, g_is_person, nm_ann, a1, a2, all_true, hl.asc]
theorem check_garment_ok {ws : List Ms} {top : Int} (hl : Nm ws) (h : ∀ r ∈ ws, (1 ≤ r.b ∧ r.b ≤ 10000) ∧ (0 ≤ r.s ∧ r.s ≤ 200)) (ht : 0 ≤ top ∧ top ≤ 60) : m_check_garment [.val (gar ws), .val (.int top)] = .rt (.val .none) [] := by
  simp [m_check_garment, g_check_garment, is_garment_ok hl h, is_within_int, ht]
theorem check_person_ok {ws : List Ms} (hl : Nm ws) (h : ∀ r ∈ ws, r.l ≤ r.m ∨ (r.l = 1 ∧ r.m = 0)) : m_check_person [.val (per ws)] = .rt (.val .none) [] := by
  simp [m_check_person, g_check_person, is_person_ok hl h]
theorem Nm.cases {ws : List Ms} (h : Nm ws) : (∃ x, ws = [x] ∧ x.n = "arm") ∨ (∃ x y, ws = [x, y] ∧ x.n = "arm" ∧ y.n = "chest") ∨ (∃ x y z, ws = [x, y, z] ∧ x.n = "arm" ∧ y.n = "chest" ∧ z.n = "hip") := by
  unfold Nm at h
  generalize hl : ws.map (·.n) = l at h
  rcases ws with _ | ⟨x, _ | ⟨y, _ | ⟨z, _ | ⟨w, t⟩⟩⟩⟩
  · cases h <;> simp at hl
  · cases h <;> simp at hl
    exact .inl ⟨x, rfl, hl⟩
  · cases h <;> simp at hl
    exact .inr (.inl ⟨x, y, rfl, hl⟩)
  · cases h <;> simp at hl
    exact .inr (.inr ⟨x, y, z, rfl, hl⟩)
  · cases h <;> simp at hl
theorem n12 : ¬ (("arm" : Str) = "chest") := by decide +kernel
theorem n13 : ¬ (("arm" : Str) = "hip") := by decide +kernel
theorem n23 : ¬ (("chest" : Str) = "hip") := by decide +kernel
theorem n21 : ¬ (("chest" : Str) = "arm") := by decide +kernel
theorem n31 : ¬ (("hip" : Str) = "arm") := by decide +kernel
theorem n32 : ¬ (("hip" : Str) = "chest") := by decide +kernel
theorem dmerge_ok {ws : List Ms} (h : Nm ws) (F : Ms → D) : dmerge (ws.map fun r => (.str r.n, F r)) [] = ws.map fun r => (.str r.n, F r) := by
  rcases h.cases with ⟨x, rfl, h1⟩ | ⟨x, y, rfl, h1, h2⟩ | ⟨x, y, z, rfl, h1, h2, h3⟩
  · simp [dmerge, dput]
  · simp [dmerge, dput, keq, h1, h2, n12]
  · simp [dmerge, dput, keq, h1, h2, h3, n12, n13, n23]
theorem dget_ok' {ws : List Ms} (h : Nm ws) (F : Ms → D) {r : Ms} (hr : r ∈ ws) : dget (ws.map fun r => (.str r.n, F r)) (.str r.n) = some (F r) := by
  rcases h.cases with ⟨x, rfl, h1⟩ | ⟨x, y, rfl, h1, h2⟩ | ⟨x, y, z, rfl, h1, h2, h3⟩
  · simp at hr; subst hr; simp [dget, keq]
  · simp at hr
    rcases hr with rfl | rfl
    · simp [dget, keq]
    · simp [dget, keq, h1, h2, n12]
  · simp at hr
    rcases hr with rfl | rfl | rfl
    · simp [dget, keq]
    · simp [dget, keq, h1, h2, n12]
    · simp [dget, keq, h1, h2, h3, n13, n23]
theorem flat_ok {ws : List Ms} (F : Ms → D) : (ws.map fun r => ((.str r.n : D), F r)).all (fun p => flatK p.1) = true := by simp [flatK]
theorem ask_ok {ws : List Ms} (F : Ms → D) (n : Str) : askK (ws.map fun r => (.str r.n, F r)) (.str n) = true := by
  unfold askK
  rw [flat_ok]
  rfl
end Ev

set_option Elab.async false
set_option linter.all false
set_option maxRecDepth 100000
set_option maxHeartbeats 2000000
/-! K41D: who is served, moved persons, the law's own reckoning. -/
namespace Ev
open PySem
/-- the inputs' limits -/
structure Ok (w : Ms) : Prop where
  fb : 1 ≤ w.b ∧ w.b ≤ 100
  fs : 0 ≤ w.s ∧ w.s ≤ 10
  fn : w.l ≤ w.m ∨ (w.l = 1 ∧ w.m = 0)
  fr : -1000 ≤ w.l ∧ w.l ≤ 1000 ∧ -1000 ≤ w.m ∧ w.m ≤ 1000
  fo : w.lo ≤ w.hi
  fq : 0 ≤ w.lo ∧ w.hi ≤ 100
def at_ (r : Ms) (z : Int) : Int := r.b + z * r.s
theorem dIn_dict {ws : List Ms} (h : Nm ws) (F : Ms → D) {r : Ms} (hr : r ∈ ws) : dIn false (.str r.n) (.dict (ws.map fun r => (.str r.n, F r))) = some (.val (.bool true)) := by
  simp [dIn, dIn0, flatK, ask_ok, dget_ok' h F hr]
theorem dIdx_dict {ws : List Ms} (h : Nm ws) (F : Ms → D) {r : Ms} (hr : r ∈ ws) : dIdx (.dict (ws.map fun r => (.str r.n, F r))) (.str r.n) = some (.val (F r)) := by
  simp [dIdx, flatK, ask_ok, dget_ok' h F hr]
theorem does_serve_ok {ws : List Ms} {z : Int} (hl : Nm ws) (hz : 0 ≤ z ∧ z ≤ 60) :
    m_does_serve [.val (gar ws), .val (.int z), .val (per ws)] = .rt (.val (.bool (ws.all fun r => decide (r.l ≤ at_ r z ∧ at_ r z ≤ r.m)))) [] := by
  have hlen := hl.len
  have a1 : dcE [4, 5, 6] (itSeq (var 0)) (stT [(stI 4), (stI 5), (stI 6)]) yesT (var 4) (op2 dAdd (var 5) (op2 dMul (var 1) (var 6))) [.val (gar ws), .val (.int z), .val (per ws), .no, .no, .no, .no, .no, .no] =
      .ok (.frs (.dict (dmerge (ws.map fun r => (.str r.n, .int (at_ r z))) []))) [.val (gar ws), .val (.int z), .val (per ws), .no, .no, .no, .no, .no, .no] :=
    map_dc eG _ _ (by simp [gar]) (by rfl) (by omega) fun r hr => by
      simp [dcTurn, eG, at_, flatK, mul_small (i := z) (by omega)]
  rw [dmerge_ok hl] at a1
  have a2 : lcE [4, 7, 8] (itSeq (op2 dIdx (var 2) (cst (.int 1)))) (stT [(stI 4), (stI 7), (stI 8)]) yesT (andE (op2 (dIn false) (var 4) (var 3)) (chnE dLe dLe (var 7) (op2 dIdx (var 3) (var 4)) (var 8)))
      [.val (gar ws), .val (.int z), .val (per ws), .own (.dict (ws.map fun r => (.str r.n, .int (at_ r z)))), .no, .no, .no, .no, .no] =
      .ok (.frs (.list (ws.map fun r => .bool (decide (r.l ≤ at_ r z ∧ at_ r z ≤ r.m))))) [.val (gar ws), .val (.int z), .val (per ws), .own (.dict (ws.map fun r => (.str r.n, .int (at_ r z)))), .no, .no, .no, .no, .no] :=
    map_lc eN _ (by simp [per]) (by rfl) (by omega) fun r hr => by
      simp [lcTurn, eN, dIn_dict hl _ hr, dIdx_dict hl _ hr]
      by_cases h1 : r.l ≤ at_ r z <;> simp [h1]
  simp [m_does_serve, g_does_serve, a1, a2]
theorem serves_ok {ws : List Ms} {z top : Int} (hl : Nm ws) (hz : 0 ≤ z ∧ z ≤ top) (ht : top ≤ 60) (ho : ∀ r ∈ ws, (1 ≤ r.b ∧ r.b ≤ 100) ∧ (0 ≤ r.s ∧ r.s ≤ 10) ∧ (r.l ≤ r.m ∨ (r.l = 1 ∧ r.m = 0))) :
    m_serves [.val (gar ws), .val (.int top), .val (.int z), .val (per ws)] = .rt (.val (.bool (ws.all fun r => decide (r.l ≤ at_ r z ∧ at_ r z ≤ r.m)))) [] := by
  have b1 : 0 ≤ z := hz.1
  have b2 : z ≤ top := hz.2
  simp [m_serves, g_serves, check_garment_ok (top := top) hl (fun r hr => ⟨by have := (ho r hr).1; omega, by have := (ho r hr).2.1; omega⟩) ⟨by omega, ht⟩, check_person_ok hl (fun r hr => (ho r hr).2.2), is_within_int, b1, b2, does_serve_ok hl ⟨b1, by omega⟩]
/-! ### the bounds are checked -/
theorem keys_sorted {ws : List Ms} (h : Nm ws) (F : Ms → D) : dSorted (.dict (ws.map fun r => (.str r.n, F r))) = some (.frs (.list (ws.map fun r => .str r.n))) := by
  have k2 : (["arm", "chest"] : List Str).mergeSort sleS = (["arm", "chest"] : List Str) := (sorted_uniq (.refl _) (by decide +kernel)).symm
  have k3 : (["arm", "chest", "hip"] : List Str).mergeSort sleS = (["arm", "chest", "hip"] : List Str) := (sorted_uniq (.refl _) (by decide +kernel)).symm
  rcases h.cases with ⟨x, rfl, h1⟩ | ⟨x, y, rfl, h1, h2⟩ | ⟨x, y, z, rfl, h1, h2, h3⟩
  · simp [dSorted, strsO, h1]
  · simp [dSorted, strsO, h1, h2, k2]
  · simp [dSorted, strsO, h1, h2, h3, k3]
theorem shaped_names {ws : List Ms} (h : Nm ws) : SeqAt.shaped (.list (ws.map fun r => .str r.n)) = true := by
  rcases h.cases with ⟨x, rfl, h1⟩ | ⟨x, y, rfl, h1, h2⟩ | ⟨x, y, z, rfl, h1, h2, h3⟩
  · simp only [List.map_cons, List.map_nil, h1]; decide +kernel
  · simp only [List.map_cons, List.map_nil, h1, h2]; decide +kernel
  · simp only [List.map_cons, List.map_nil, h1, h2, h3]; decide +kernel
theorem check_bounds_ok {ws : List Ms} (hl : Nm ws) (ho : ∀ r ∈ ws, Ok r) : m_check_bounds [.val (per ws), .val (bnd ws)] = .rt (.val .none) [] := by
  have hlen := hl.len
  have a1 : lcE [2] (itSeq (op2 dIdx (var 0) (cst (.int 1)))) (stI 2) yesT (op2 dIdx (var 2) (cst (.int 0))) [.val (per ws), .val (bnd ws), .no, .no] = .ok (.frs (.list (ws.map fun r => .str r.n))) [.val (per ws), .val (bnd ws), .no, .no] :=
    map_lc eN _ (by simp [per]) (by rfl) (by omega) fun r hr => by simp [lcTurn, eN]
  have a2 : lcE [3] (itVals (var 1)) (stI 3) yesT (calE m_is_span [.v (var 3)]) [.val (per ws), .val (bnd ws), .no, .no] = .ok (.frs (.list (ws.map fun _ => .bool true))) [.val (per ws), .val (bnd ws), .no, .no] :=
    map_lc eP _ (by simp [itVals, itDict, bnd]) (by rfl) (by omega) fun r hr => by
      have := (ho r hr).fo
      simp [lcTurn, eP, is_span_int, this]
  have a3 : dIsi "dict" (bnd ws) = some (.val (.bool true)) := by
    unfold bnd dIsi
    simp only
    rw [flat_ok]
    simp
  have a4 : dSorted (bnd ws) = _ := keys_sorted hl eP
  simp [m_check_bounds, g_check_bounds, check_person_ok hl (fun r hr => (ho r hr).fn), a1, a2, a3, a4, all_true, dNe_self (shaped_names hl)]
/-! ### moved persons -/
def mvS (r : Ms) : Ms := if (r.l ≠ 1 ∨ r.m ≠ 0) ∧ r.l + r.hi ≤ r.m + r.lo then { r with l := r.l + r.hi, m := r.m + r.lo } else { r with l := 1, m := 0 }
def mvP (r : Ms) : Ms := if (r.l ≠ 1 ∨ r.m ≠ 0) ∧ r.l + r.lo ≤ r.m + r.hi then { r with l := r.l + r.lo, m := r.m + r.hi } else { r with l := 1, m := 0 }
/-- a turn of the moving loop: x, y are added -/
def mvXY (r : Ms) (x y : Int) : D := if (r.l ≠ 1 ∨ r.m ≠ 0) ∧ r.l + x ≤ r.m + y then .tuple [.str r.n, .int (r.l + x), .int (r.m + y)] else .tuple [.str r.n, .int 1, .int 0]
abbrev bMove : Sm := (seqS [(asgS (stT [(stI 7), (stI 8)]) (op2 dIdx (var 1) (var 3))),
    (setS 6 (andE (op2 dNe (tupE [(var 4), (var 5)]) (cst (.tuple [.int 1, .int 0]))) (op2 dLe (op2 dAdd (var 4) (var 7)) (op2 dAdd (var 5) (var 8))))),
    (expS (appE 2 (iteE (truT (var 6)) (tupE [(var 3), (op2 dAdd (var 4) (var 7)), (op2 dAdd (var 5) (var 8))]) (tupS [.one (var 3), .all (cst (.tuple [.int 1, .int 0]))]))))])
theorem move_turn {ws : List Ms} (hl : Nm ws) (X Y : Ms → Int) {r : Ms} (hr : r ∈ ws) (P : D) (acc : List D) (hz : acc.length ≤ 1000) (s3 s4 s5 s6 s7 s8 : Sl) :
    ∃ t6 t7 t8, bMove [.val P, .val (.dict (ws.map fun r => (.str r.n, .tuple [.int (X r), .int (Y r)]))), .own (.list acc), .val (.str r.n), .val (.int r.l), .val (.int r.m), s6, s7, s8] =
      .nx [.val P, .val (.dict (ws.map fun r => (.str r.n, .tuple [.int (X r), .int (Y r)]))), .own (.list (acc ++ [mvXY r (X r) (Y r)])), .val (.str r.n), .val (.int r.l), .val (.int r.m), t6, t7, t8] := by
  have hz' : acc.length < sizeLine := small_lt hz
  have h3 : 3 ≤ sizeLine := by decide
  by_cases c1 : r.l = 1 ∧ r.m = 0
  · exact ⟨.val (.bool false), _, _, by simp [bMove, dIdx_dict hl _ hr, dNe_t2, c1, hz', h3, mvXY]; exact ⟨rfl, rfl⟩⟩
  · by_cases c2 : r.l + X r ≤ r.m + Y r
    · exact ⟨.val (.bool true), _, _, by simp [bMove, dIdx_dict hl _ hr, dNe_t2, c1, c2, hz', h3, mvXY]; exact ⟨rfl, rfl⟩⟩
    · exact ⟨.val (.bool false), _, _, by simp [bMove, dIdx_dict hl _ hr, dNe_t2, c1, c2, hz', h3, mvXY]; exact ⟨rfl, rfl⟩⟩
end Ev

set_option Elab.async false
set_option linter.all false
set_option maxRecDepth 100000
set_option maxHeartbeats 2000000
/-! K41E: moved persons. -/
namespace Ev
open PySem
theorem move_loop {ws : List Ms} (hl : Nm ws) (X Y : Ms → Int) (P : D) : ∀ (rs : List Ms) (acc : List D), (∀ r ∈ rs, r ∈ ws) → acc.length + rs.length ≤ 1000 → ∀ (s3 s4 s5 s6 s7 s8 : Sl),
    ∃ t3 t4 t5 t6 t7 t8, forLoop (stT [(stI 3), (stI 4), (stI 5)]) bMove (rs.map eN) [.val P, .val (.dict (ws.map fun r => (.str r.n, .tuple [.int (X r), .int (Y r)]))), .own (.list acc), s3, s4, s5, s6, s7, s8] =
      .nx [.val P, .val (.dict (ws.map fun r => (.str r.n, .tuple [.int (X r), .int (Y r)]))), .own (.list (acc ++ rs.map fun r => mvXY r (X r) (Y r))), t3, t4, t5, t6, t7, t8]
  | [], acc, _, _, s3, s4, s5, s6, s7, s8 => ⟨s3, s4, s5, s6, s7, s8, by simp⟩
  | r :: rs, acc, hm, hz, s3, s4, s5, s6, s7, s8 => by
    rw [List.length_cons] at hz
    obtain ⟨u6, u7, u8, h1⟩ := move_turn hl X Y (hm r List.mem_cons_self) P acc (by omega) s3 s4 s5 s6 s7 s8
    obtain ⟨t3, t4, t5, t6, t7, t8, h2⟩ := move_loop hl X Y P rs (acc ++ [mvXY r (X r) (Y r)]) (fun q hq => hm q (List.mem_cons_of_mem _ hq)) (by rw [List.length_append, List.length_singleton]; omega) (.val (.str r.n)) (.val (.int r.l)) (.val (.int r.m)) u6 u7 u8
    refine ⟨t3, t4, t5, t6, t7, t8, ?_⟩
    rw [List.map_cons, e_for_cons]
    simp only [eN, e_stT_tup, e_stAll_cons, e_stI, e_stAll_nil, List.set_cons_succ, List.set_cons_zero]
    rw [h1, turnR_nx, h2]
    simp
theorem moved_ok {ws : List Ms} (hl : Nm ws) (X Y : Ms → Int) : m_moved_person [.val (per ws), .val (.dict (ws.map fun r => (.str r.n, .tuple [.int (X r), .int (Y r)])))] = .rt (.val (.tuple [.str "ann", .tuple (ws.map fun r => mvXY r (X r) (Y r))])) [] := by
  have hlen := hl.len
  obtain ⟨t3, t4, t5, t6, t7, t8, h⟩ := move_loop hl X Y (per ws) ws [] (fun _ h => h) (by simp; omega) .no .no .no .no .no .no
  unfold per at h ⊢
  unfold m_moved_person g_moved_person
  simp [h]
theorem eN_mvS (r : Ms) : mvXY r r.hi r.lo = eN (mvS r) := by
  unfold mvXY mvS
  split <;> rfl
theorem eN_mvP (r : Ms) : mvXY r r.lo r.hi = eN (mvP r) := by
  unfold mvXY mvP
  split <;> rfl
theorem per_map (ws : List Ms) (f : Ms → Ms) : per (ws.map f) = .tuple [.str "ann", .tuple (ws.map fun r => eN (f r))] := by
  unfold per
  rw [List.map_map]
  rfl
theorem sure_ok {ws : List Ms} (hl : Nm ws) (ho : ∀ r ∈ ws, Ok r) : m_sure_person [.val (per ws), .val (bnd ws)] = .rt (.val (per (ws.map mvS))) [] := by
  have hlen := hl.len
  have a1 : dcE [2, 3, 4] (itItems (var 1)) (stT [(stI 2), (stT [(stI 3), (stI 4)])]) yesT (var 2) (tupE [(var 4), (var 3)]) [.val (per ws), .val (bnd ws), .no, .no, .no] =
      .ok (.frs (.dict (dmerge (ws.map fun r => (.str r.n, .tuple [.int r.hi, .int r.lo])) []))) [.val (per ws), .val (bnd ws), .no, .no, .no] :=
    map_dc (fun r => .tuple [.str r.n, eP r]) _ _ (by simp [itItems, itDict, bnd]) (by rfl) (by omega) fun r hr => by simp [dcTurn, eP, flatK]
  rw [dmerge_ok hl] at a1
  have a2 := moved_ok hl (·.hi) (·.lo)
  simp only [eN_mvS] at a2
  rw [per_map]
  simp [m_sure_person, g_sure_person, check_bounds_ok hl ho, a1, a2]
theorem possible_ok {ws : List Ms} (hl : Nm ws) (ho : ∀ r ∈ ws, Ok r) : m_possible_person [.val (per ws), .val (bnd ws)] = .rt (.val (per (ws.map mvP))) [] := by
  have a2 := moved_ok hl (·.lo) (·.hi)
  simp only [eN_mvP] at a2
  have a2 : m_moved_person [.val (per ws), .val (bnd ws)] = .rt (.val (.tuple [.str "ann", .tuple (ws.map fun r => eN (mvP r))])) [] := a2
  rw [per_map]
  simp [m_possible_person, g_possible_person, check_bounds_ok hl ho, a2]
def mv (w : Bool) (r : Ms) : Ms := if w = true then mvP r else mvS r
def wh (w : Bool) : Int := if w = true then 1 else 0
theorem told_ok {ws : List Ms} (hl : Nm ws) (ho : ∀ r ∈ ws, Ok r) (w : Bool) : m__law_told [.val (.int (wh w)), .val (per ws), .val (bnd ws)] = .rt (.val (per (ws.map (mv w)))) [] := by
  cases w
  · simp [m__law_told, g__law_told, tryS, catE, wh, sure_ok hl ho]
    rfl
  · simp [m__law_told, g__law_told, tryS, catE, wh, possible_ok hl ho]
    rfl
/-! ### the law's needs -/
abbrev bNeeds : Sm := (seqS [(asgS (stT [(stI 7), (stI 8)]) (op2 dIdx (var 1) (var 4))),
    (asgS (stT [(stI 9), (stI 10)]) (op2 dIdx (lstE [(tupE [(op2 dAdd (var 5) (var 8)), (op2 dAdd (var 6) (var 7))]), (tupE [(op2 dAdd (var 5) (var 7)), (op2 dAdd (var 6) (var 8))])]) (var 2))),
    (ifS (orT (blT (op2 dEq (tupE [(var 5), (var 6)]) (tupE [(cst (.int 1)), (cst (.int 0))]))) (blT (op2 dGt (var 9) (var 10)))) (seqS [(asgS (stT [(stI 9), (stI 10)]) (tupE [(cst (.int 1)), (cst (.int 0))]))]) (seqS [])),
    (expS (appE 3 (tupE [(var 4), (var 9), (var 10)])))])
theorem needs_turn {ws : List Ms} (hl : Nm ws) {r : Ms} (hr : r ∈ ws) (w : Bool) (P : D) (acc : List D) (hz : acc.length ≤ 1000) (s7 s8 s9 s10 : Sl) :
    bNeeds [.val P, .val (bnd ws), .val (.int (wh w)), .own (.list acc), .val (.str r.n), .val (.int r.l), .val (.int r.m), s7, s8, s9, s10] =
      .nx [.val P, .val (bnd ws), .val (.int (wh w)), .own (.list (acc ++ [eN (mv w r)])), .val (.str r.n), .val (.int r.l), .val (.int r.m), .val (.int r.lo), .val (.int r.hi), .val (.int (mv w r).l), .val (.int (mv w r).m)] := by
  have hz' : acc.length < sizeLine := small_lt hz
  have hd : dIdx (bnd ws) (.str r.n) = some (.val (.tuple [.int r.lo, .int r.hi])) := dIdx_dict hl eP hr
  cases w
  · by_cases c1 : r.l = 1 ∧ r.m = 0
    · simp [bNeeds, hd, wh, dEq_t2, c1, hz', mv, mvS, eN]
    · have c1' : ¬r.l = 1 ∨ ¬r.m = 0 := by omega
      by_cases c2 : r.l + r.hi ≤ r.m + r.lo
      · simp [bNeeds, hd, wh, dEq_t2, c1, c1', c2, Int.not_lt.mpr c2, hz', mv, mvS, eN]
      · simp [bNeeds, hd, wh, dEq_t2, c1, c2, Int.not_le.mp c2, hz', mv, mvS, eN]
  · by_cases c1 : r.l = 1 ∧ r.m = 0
    · simp [bNeeds, hd, wh, dEq_t2, c1, hz', mv, mvP, eN]
    · have c1' : ¬r.l = 1 ∨ ¬r.m = 0 := by omega
      by_cases c2 : r.l + r.lo ≤ r.m + r.hi
      · simp [bNeeds, hd, wh, dEq_t2, c1, c1', c2, Int.not_lt.mpr c2, hz', mv, mvP, eN]
      · simp [bNeeds, hd, wh, dEq_t2, c1, c2, Int.not_le.mp c2, hz', mv, mvP, eN]
theorem needs_loop {ws : List Ms} (hl : Nm ws) (w : Bool) (P : D) : ∀ (rs : List Ms) (acc : List D), (∀ r ∈ rs, r ∈ ws) → acc.length + rs.length ≤ 1000 → ∀ (s4 s5 s6 s7 s8 s9 s10 : Sl),
    ∃ t4 t5 t6 t7 t8 t9 t10, forLoop (stT [(stI 4), (stI 5), (stI 6)]) bNeeds (rs.map eN) [.val P, .val (bnd ws), .val (.int (wh w)), .own (.list acc), s4, s5, s6, s7, s8, s9, s10] =
      .nx [.val P, .val (bnd ws), .val (.int (wh w)), .own (.list (acc ++ rs.map fun r => eN (mv w r))), t4, t5, t6, t7, t8, t9, t10]
  | [], acc, _, _, s4, s5, s6, s7, s8, s9, s10 => ⟨s4, s5, s6, s7, s8, s9, s10, by simp⟩
  | r :: rs, acc, hm, hz, s4, s5, s6, s7, s8, s9, s10 => by
    rw [List.length_cons] at hz
    have h1 := needs_turn hl (hm r List.mem_cons_self) w P acc (by omega) s7 s8 s9 s10
    obtain ⟨t4, t5, t6, t7, t8, t9, t10, h2⟩ := needs_loop hl w P rs (acc ++ [eN (mv w r)]) (fun q hq => hm q (List.mem_cons_of_mem _ hq)) (by rw [List.length_append, List.length_singleton]; omega) (.val (.str r.n)) (.val (.int r.l)) (.val (.int r.m)) (.val (.int r.lo)) (.val (.int r.hi)) (.val (.int (mv w r).l)) (.val (.int (mv w r).m))
    refine ⟨t4, t5, t6, t7, t8, t9, t10, ?_⟩
    rw [List.map_cons, e_for_cons]
    simp only [show eN r = .tuple [.str r.n, .int r.l, .int r.m] from rfl, e_stT_tup, e_stAll_cons, e_stI, e_stAll_nil, List.set_cons_succ, List.set_cons_zero]
    rw [h1, turnR_nx, h2]
    simp
theorem needs_ok {ws : List Ms} (hl : Nm ws) (w : Bool) : m__law_needs [.val (per ws), .val (bnd ws), .val (.int (wh w))] = .rt (.val (per (ws.map (mv w)))) [] := by
  have hlen := hl.len
  obtain ⟨t4, t5, t6, t7, t8, t9, t10, h⟩ := needs_loop hl w (per ws) ws [] (fun _ h => h) (by simp; omega) .no .no .no .no .no .no .no
  unfold m__law_needs g__law_needs
  rw [per_map]
  unfold per at h ⊢
  simp [h]
end Ev

set_option Elab.async false
set_option linter.all false
set_option maxRecDepth 100000
set_option maxHeartbeats 2000000
/-! K41F: the law's own way: body by body. -/
namespace Ev
open PySem
def fit (r : Ms) (z y : Int) : Bool := decide (r.l ≤ at_ r z - y) && decide (at_ r z - y ≤ r.m)
theorem if_and {A B : Prop} [Decidable A] [Decidable B] : (if A then RF.rt (.val (.bool (decide B))) [] else RF.rt (.val (.bool false)) []) = RF.rt (.val (.bool (decide A && decide B))) [] := by
  by_cases h : A <;> simp [h]
theorem fits_ok {ws : List Ms} (hl : Nm ws) {r : Ms} (hr : r ∈ ws) {z y : Int} (hz : 0 ≤ z ∧ z ≤ 60) : m__law_fits [.val (gar ws), .val (.int z), .val (eN r), .val (.int y)] = .rt (.val (.bool (fit r z y))) [] := by
  have hm : ∀ j, dMul (.int z) (.int j) = some (.val (.int (z * j))) := fun j => mul_small (by omega)
  have key : ∀ b : Bool, (RF.rt (.val (.bool b)) []) = .rt (.val (.bool b)) [] := fun _ => rfl
  rcases hl.cases with ⟨x, rfl, h1⟩ | ⟨x, y', rfl, h1, h2⟩ | ⟨x, y', z', rfl, h1, h2, h3⟩
  · simp at hr
    subst hr
    simp [m__law_fits, g__law_fits, gar, eG, eN, e_for_cons, h1, dEq_str, hm, fit, at_, if_and]; rfl
  · simp at hr
    rcases hr with rfl | rfl
    · simp [m__law_fits, g__law_fits, gar, eG, eN, e_for_cons, h1, dEq_str, hm, fit, at_, if_and]; rfl
    · simp [m__law_fits, g__law_fits, gar, eG, eN, e_for_cons, h1, h2, dEq_str, n12, hm, fit, at_, if_and]; rfl
  · simp at hr
    rcases hr with rfl | rfl | rfl
    · simp [m__law_fits, g__law_fits, gar, eG, eN, e_for_cons, h1, dEq_str, hm, fit, at_, if_and]; rfl
    · simp [m__law_fits, g__law_fits, gar, eG, eN, e_for_cons, h1, h2, dEq_str, n12, hm, fit, at_, if_and]; rfl
    · simp [m__law_fits, g__law_fits, gar, eG, eN, e_for_cons, h1, h2, h3, dEq_str, n13, n23, hm, fit, at_, if_and]; rfl
/-- the bodies of a measure -/
def bodies (r : Ms) : List Int := (List.range (r.hi + 1 - r.lo).toNat).map fun (i : Nat) => r.lo + (i : Int)
def fine1 (w : Bool) (r : Ms) (z : Int) : Bool := if w = true then (bodies r).all (fit r z) else (bodies r).any (fit r z)
theorem rng_bodies (r : Ms) : rng r.lo (r.hi + 1) = (bodies r).map .int := by
  unfold rng bodies
  rw [List.map_map]
  rfl
theorem shaped_boolF {α : Type} (p : α → Bool) (xs : List α) : SeqAt.shaped (.list (xs.map fun x => PyData.bool (p x))) = true := by
  have := shaped_bools (xs.map p)
  rw [List.map_map] at this
  exact this
theorem in_false {α : Type} (p : α → Bool) (xs : List α) : dIn false (.bool false) (.list (xs.map fun x => PyData.bool (p x))) = some (.val (.bool (!xs.all p))) := by
  unfold dIn dIn0
  simp only
  rw [if_pos ⟨shaped_bool _, shaped_boolF p xs⟩]
  simp only [Option.map_some, List.any_map]
  congr 3
  induction xs with
  | nil => rfl
  | cons x xs ih =>
    simp only [List.any_cons, List.all_cons, Function.comp, PyData.eqv] at ih ⊢
    cases p x <;> simp_all
theorem nin_true {α : Type} (p : α → Bool) (xs : List α) : dIn true (.bool true) (.list (xs.map fun x => PyData.bool (p x))) = some (.val (.bool (!xs.any p))) := by
  unfold dIn dIn0
  simp only
  rw [if_pos ⟨shaped_bool _, shaped_boolF p xs⟩]
  simp only [Option.map_some, List.any_map]
  congr 3
  induction xs with
  | nil => rfl
  | cons x xs ih =>
    simp only [List.any_cons, Function.comp, PyData.eqv] at ih ⊢
    cases p x <;> simp_all
abbrev bServed : Sm := (seqS [(asgS (stT [(stI 10), (stI 11)]) (op2 dIdx (var 3) (op2 dIdx (var 8) (cst (.int 0))))),
    (setS 9 (lcE [12] (itRng2 (var 10) (op2 dAdd (var 11) (cst (.int 1)))) (stI 12) yesT (calE m__law_fits [.v (var 0), .v (var 6), .v (var 8), .v (var 12)]))),
    (ifS (orT (andT (truT (var 4)) (blT (op2 (dIn false) (cst (.bool false)) (var 9)))) (andT (notT (truT (var 4))) (blT (op2 (dIn true) (cst (.bool true)) (var 9))))) (seqS [(setS 7 (cst (.bool false)))]) (seqS []))])
theorem served_turn {ws : List Ms} (hl : Nm ws) (ho : ∀ r ∈ ws, Ok r) {r : Ms} (hr : r ∈ ws) (w : Bool) {z : Int} (hz : 0 ≤ z ∧ z ≤ 60) (t p : D) (F : D) (fn : Bool) (s9 s10 s11 : Sl) :
    bServed [.val (gar ws), .val t, .val p, .val (bnd ws), .val (.bool w), .own F, .val (.int z), .val (.bool fn), .val (eN r), s9, s10, s11, .no] =
      .nx [.val (gar ws), .val t, .val p, .val (bnd ws), .val (.bool w), .own F, .val (.int z), .val (.bool (fn && fine1 w r z)), .val (eN r), .own (.list ((bodies r).map fun y => .bool (fit r z y))), .val (.int r.lo), .val (.int r.hi), .no] := by
  have hd : dIdx (bnd ws) (.str r.n) = some (.val (.tuple [.int r.lo, .int r.hi])) := dIdx_dict hl eP hr
  have hk := ho r hr
  have h1 : inR r.lo = true := inR_ok (by have := hk.fq; have := hk.fo; omega)
  have h2 : inR (r.hi + 1) = true := inR_ok (by have := hk.fq; have := hk.fo; omega)
  have hb : (bodies r).length ≤ 1000 := by
    unfold bodies
    rw [List.length_map, List.length_range]
    have := hk.fq; omega
  have a1 : lcE [12] (itRng2 (var 10) (op2 dAdd (var 11) (cst (.int 1)))) (stI 12) yesT (calE m__law_fits [.v (var 0), .v (var 6), .v (var 8), .v (var 12)])
      [.val (gar ws), .val t, .val p, .val (bnd ws), .val (.bool w), .own F, .val (.int z), .val (.bool fn), .val (eN r), s9, .val (.int r.lo), .val (.int r.hi), .no] =
      .ok (.frs (.list ((bodies r).map fun y => .bool (fit r z y)))) [.val (gar ws), .val t, .val p, .val (bnd ws), .val (.bool w), .own F, .val (.int z), .val (.bool fn), .val (eN r), s9, .val (.int r.lo), .val (.int r.hi), .no] :=
    map_lc PyData.int _ (by simp [h1, h2, rng_bodies]) (by rfl) hb fun y hy => by simp [lcTurn, fits_ok hl hr hz]
  have e0 : dIdx (eN r) (.int 0) = some (.val (.str r.n)) := by simp [eN]
  cases w
  · cases q : (bodies r).any (fit r z) <;> simp [bServed, e0, hd, a1, nin_true, fine1, q]
  · cases q : (bodies r).all (fit r z) <;> simp [bServed, e0, hd, a1, in_false, fine1, q]
end Ev

set_option Elab.async false
set_option linter.all false
set_option maxRecDepth 100000
set_option maxHeartbeats 2000000
/-! K41G: served sizes, the arithmetic, what is drawn. -/
namespace Ev
open PySem
theorem served_inner {ws : List Ms} (hl : Nm ws) (ho : ∀ r ∈ ws, Ok r) (w : Bool) {z : Int} (hz : 0 ≤ z ∧ z ≤ 60) (t p F : D) : ∀ (rs : List Ms), (∀ r ∈ rs, r ∈ ws) → ∀ (fn : Bool) (s8 s9 s10 s11 : Sl),
    ∃ t8 t9 t10 t11, forLoop (stI 8) bServed (rs.map eN) [.val (gar ws), .val t, .val p, .val (bnd ws), .val (.bool w), .own F, .val (.int z), .val (.bool fn), s8, s9, s10, s11, .no] =
      .nx [.val (gar ws), .val t, .val p, .val (bnd ws), .val (.bool w), .own F, .val (.int z), .val (.bool (fn && rs.all fun r => fine1 w r z)), t8, t9, t10, t11, .no]
  | [], _, fn, s8, s9, s10, s11 => ⟨s8, s9, s10, s11, by simp⟩
  | r :: rs, hm, fn, s8, s9, s10, s11 => by
    have h1 := served_turn hl ho (hm r List.mem_cons_self) w hz t p F fn s9 s10 s11
    obtain ⟨t8, t9, t10, t11, h2⟩ := served_inner hl ho w hz t p F rs (fun q hq => hm q (List.mem_cons_of_mem _ hq)) (fn && fine1 w r z) (.val (eN r)) (.own (.list ((bodies r).map fun y => .bool (fit r z y)))) (.val (.int r.lo)) (.val (.int r.hi))
    refine ⟨t8, t9, t10, t11, ?_⟩
    rw [List.map_cons, e_for_cons]
    simp only [e_stI, List.set_cons_succ, List.set_cons_zero]
    rw [h1, turnR_nx, h2]
    simp [Bool.and_assoc]
def fine (w : Bool) (ws : List Ms) (z : Int) : Bool := ws.all fun r => fine1 w r z
/-- the sizes -/
def szs (n : Nat) : List Int := (List.range n).map fun (i : Nat) => (i : Int)
abbrev bSize : Sm := (seqS [(setS 7 (cst (.bool true))),
    (forS (stI 8) (itSeq (op2 dIdx (var 2) (cst (.int 1)))) bServed),
    (ifS (truT (var 7)) (seqS [(expS (appE 5 (var 6)))]) (seqS []))])
theorem size_loop {ws : List Ms} (hl : Nm ws) (ho : ∀ r ∈ ws, Ok r) (w : Bool) (t : D) : ∀ (zs : List Int), (∀ z ∈ zs, 0 ≤ z ∧ z ≤ 60) → ∀ (F : List D), F.length + zs.length ≤ 1000 → ∀ (s6 s7 s8 s9 s10 s11 : Sl),
    ∃ t6 t7 t8 t9 t10 t11, forLoop (stI 6) bSize (zs.map PyData.int) [.val (gar ws), .val t, .val (per ws), .val (bnd ws), .val (.bool w), .own (.list F), s6, s7, s8, s9, s10, s11, .no] =
      .nx [.val (gar ws), .val t, .val (per ws), .val (bnd ws), .val (.bool w), .own (.list (F ++ (zs.filter (fine w ws)).map PyData.int)), t6, t7, t8, t9, t10, t11, .no]
  | [], _, F, _, s6, s7, s8, s9, s10, s11 => ⟨s6, s7, s8, s9, s10, s11, by simp⟩
  | z :: zs, hm, F, hz, s6, s7, s8, s9, s10, s11 => by
    rw [List.length_cons] at hz
    have hF : F.length < sizeLine := small_lt (by omega)
    obtain ⟨t8, t9, t10, t11, h1⟩ := served_inner hl ho w (hm z List.mem_cons_self) t (per ws) (.list F) ws (fun _ h => h) true s8 s9 s10 s11
    have e1 : dIdx (per ws) (.int 1) = some (.val (.tuple (ws.map eN))) := by simp [per]
    have hm' : ∀ z ∈ zs, 0 ≤ z ∧ z ≤ 60 := fun q hq => hm q (List.mem_cons_of_mem _ hq)
    rw [List.map_cons, e_for_cons]
    cases q : fine w ws z with
    | true =>
      obtain ⟨u6, u7, u8, u9, u10, u11, h2⟩ := size_loop hl ho w t zs hm' (F ++ [.int z]) (by rw [List.length_append, List.length_singleton]; omega) (.val (.int z)) (.val (.bool true)) t8 t9 t10 t11
      refine ⟨u6, u7, u8, u9, u10, u11, ?_⟩
      have q' : (ws.all fun r => fine1 w r z) = true := q
      rw [q', Bool.and_self] at h1
      simp [e1, h1, hF, h2, q]
    | false =>
      obtain ⟨u6, u7, u8, u9, u10, u11, h2⟩ := size_loop hl ho w t zs hm' F (by omega) (.val (.int z)) (.val (.bool false)) t8 t9 t10 t11
      refine ⟨u6, u7, u8, u9, u10, u11, ?_⟩
      have q' : (ws.all fun r => fine1 w r z) = false := q
      rw [q', Bool.and_false] at h1
      simp [e1, h1, h2, q]
theorem szs_rng {top : Int} (h : 0 ≤ top) : rng 0 (top + 1) = (szs (top + 1).toNat).map .int := by
  unfold rng szs
  rw [List.map_map]
  have e : (top + 1 - 0).toNat = (top + 1).toNat := by rw [Int.sub_zero]
  rw [e]
  apply List.map_congr_left
  intro i _
  simp
theorem szs_mem {n : Nat} {z : Int} (h : z ∈ szs n) : 0 ≤ z ∧ z < n := by
  unfold szs at h
  obtain ⟨i, hi, rfl⟩ := List.mem_map.mp h
  have := List.mem_range.mp hi
  omega
theorem served_ok {ws : List Ms} (hl : Nm ws) (ho : ∀ r ∈ ws, Ok r) (w : Bool) {top : Int} (ht : 0 ≤ top ∧ top ≤ 60) :
    m__law_served [.val (gar ws), .val (.int top), .val (per ws), .val (bnd ws), .val (.bool w)] = .rt (.frs (.list (((szs (top + 1).toNat).filter (fine w ws)).map PyData.int))) [] := by
  have hi : inR (top + 1) = true := inR_ok (by omega)
  obtain ⟨t6, t7, t8, t9, t10, t11, h⟩ := size_loop hl ho w (.int top) (szs (top + 1).toNat) (fun z hz => by have := szs_mem hz; omega) [] (by simp [szs]; omega) .no .no .no .no .no .no
  simp [m__law_served, g__law_served, hi, szs_rng ht.1, h]
/-! ### the arithmetic -/
theorem mem_bodies {r : Ms} {y : Int} : y ∈ bodies r ↔ r.lo ≤ y ∧ y ≤ r.hi := by
  unfold bodies
  rw [List.mem_map]
  constructor
  · rintro ⟨i, hi, rfl⟩
    have := List.mem_range.mp hi
    omega
  · intro h
    refine ⟨(y - r.lo).toNat, List.mem_range.mpr (by omega), by omega⟩
def reach (r : Ms) (z : Int) : Bool := decide (r.l ≤ at_ r z ∧ at_ r z ≤ r.m)
theorem at_mv (w : Bool) (r : Ms) (z : Int) : at_ (mv w r) z = at_ r z := by
  unfold mv mvP mvS
  cases w <;> simp only [Bool.false_eq_true, if_true, if_false] <;> split <;> rfl
/-- sure: for all bodies -/
theorem sure_law {r : Ms} (h : Ok r) (z : Int) : reach (mv false r) z = fine1 true r z := by
  unfold reach fine1
  rw [if_pos rfl, at_mv]
  generalize hA : at_ r z = A
  rw [Bool.eq_iff_iff, decide_eq_true_iff, List.all_eq_true]
  have fit_iff : ∀ y, fit r z y = true ↔ r.l ≤ A - y ∧ A - y ≤ r.m := fun y => by unfold fit; rw [hA]; simp
  have h1 := h.fo
  constructor
  · intro q y hy
    rw [fit_iff]
    have hy := mem_bodies.mp hy
    unfold mv mvS at q
    simp only [Bool.false_eq_true, if_false] at q
    split at q
    · simp only at q; omega
    · simp only at q; omega
  · intro q
    have a1 := (fit_iff r.lo).mp (q r.lo (mem_bodies.mpr ⟨by omega, h1⟩))
    have a2 := (fit_iff r.hi).mp (q r.hi (mem_bodies.mpr ⟨h1, by omega⟩))
    unfold mv mvS
    simp only [Bool.false_eq_true, if_false]
    have := h.fn
    split
    · simp only; omega
    · simp only; omega
theorem possible_law {r : Ms} (h : Ok r) (z : Int) : reach (mv true r) z = fine1 false r z := by
  unfold reach fine1
  rw [if_neg Bool.false_ne_true, at_mv]
  generalize hA : at_ r z = A
  rw [Bool.eq_iff_iff, decide_eq_true_iff, List.any_eq_true]
  have fit_iff : ∀ y, fit r z y = true ↔ r.l ≤ A - y ∧ A - y ≤ r.m := fun y => by unfold fit; rw [hA]; simp
  have h1 := h.fo
  have h2 := h.fn
  constructor
  · intro q
    unfold mv mvP at q
    simp only [if_true] at q
    split at q
    · simp only at q
      by_cases c : r.lo ≤ A - r.m
      · exact ⟨A - r.m, mem_bodies.mpr (by omega), (fit_iff _).mpr (by omega)⟩
      · exact ⟨r.lo, mem_bodies.mpr (by omega), (fit_iff _).mpr (by omega)⟩
    · simp only at q; omega
  · rintro ⟨y, hy, q⟩
    have hy := mem_bodies.mp hy
    have q := (fit_iff y).mp q
    unfold mv mvP
    simp only [if_true]
    split
    · simp only; omega
    · simp only; omega
theorem mv_law {r : Ms} (h : Ok r) (w : Bool) (z : Int) : reach (mv w r) z = fine1 (!w) r z := by
  cases w
  · exact sure_law h z
  · exact possible_law h z
theorem fine_law {ws : List Ms} (ho : ∀ r ∈ ws, Ok r) (w : Bool) (z : Int) : ((ws.map (mv w)).all fun r => decide (r.l ≤ at_ r z ∧ at_ r z ≤ r.m)) = fine (!w) ws z := by
  rw [List.all_map]
  unfold fine
  rw [Bool.eq_iff_iff, List.all_eq_true, List.all_eq_true]
  exact ⟨fun h r hr => by rw [← mv_law (ho r hr)]; exact h r hr, fun h r hr => by have := h r hr; rw [← mv_law (ho r hr)] at this; exact this⟩
/-- narrower bounds -/
structure Narrow (r q : Ms) : Prop where
  fn : q.n = r.n
  fb : q.b = r.b
  fs : q.s = r.s
  fl : q.l = r.l
  fm : q.m = r.m
  flo : r.lo ≤ q.lo
  fhi : q.hi ≤ r.hi
theorem fine_narrow {r s : Ms} (h : Narrow r s) (z : Int) : (fine1 true r z = true → fine1 true s z = true) ∧ (fine1 false s z = true → fine1 false r z = true) := by
  have ef : ∀ y, fit s z y = fit r z y := fun y => by unfold fit at_; rw [h.fb, h.fs, h.fl, h.fm]
  have hlo := h.flo
  have hhi := h.fhi
  unfold fine1
  simp only [if_true, Bool.false_eq_true, if_false, List.all_eq_true, List.any_eq_true]
  constructor
  · intro q y hy
    rw [ef]
    have := mem_bodies.mp hy
    exact q y (mem_bodies.mpr (by omega))
  · rintro ⟨y, hy, q⟩
    rw [ef] at q
    have := mem_bodies.mp hy
    exact ⟨y, mem_bodies.mpr (by omega), q⟩
end Ev

set_option Elab.async false
set_option linter.all false
set_option maxRecDepth 100000
set_option maxHeartbeats 2000000
/-! K41H: what is drawn, the world. -/
namespace Ev
open PySem
abbrev iL (ns : List Int) : D := .list (ns.map .int)
theorem take_ok (ds : List Int) (b : Int) (hb : 0 < b) : ∃ r ds', m__law_take [.byr (iL ds), .val (.int b)] = .rt (.val (.int r)) [iL ds'] ∧ 0 ≤ r ∧ r < b := by
  rcases List.eq_nil_or_concat ds with rfl | ⟨l, x, rfl⟩
  · exact ⟨0, [], by simp [m__law_take, g__law_take, iL], by omega, hb⟩
  · have h1 : ((l.length : Int) + 1 = 0) = False := by simp; omega
    refine ⟨x % b, l, ?_, Int.emod_nonneg _ (by omega), Int.emod_lt_of_pos _ hb⟩
    simp [m__law_take, g__law_take, iL, mod_pos hb, h1]
theorem dAbs_int (i : Int) : ∃ j, dAbs (.int i) = some (.val (.int j)) := ⟨_, rfl⟩
theorem dPow_18 : dPow (.int 10) (.int 18) = some (.val (.int (10 ^ 18))) := by
  unfold dPow dInt
  simp only
  rw [if_pos (by unfold L2.CPow; decide)]
  rfl
theorem mul_right {i j : Int} (h : 0 ≤ j ∧ j ≤ 1000000) : dMul (.int i) (.int j) = some (.val (.int (i * j))) := by
  unfold dMul dInt
  simp only
  rw [if_pos (by unfold L2.CMul; omega)]
theorem fdiv_ok {i j : Int} (h : 0 < j ∧ j ≤ 1000000) : dFdiv (.int i) (.int j) = some (.val (.int (i / j))) := by
  unfold dFdiv dInt
  simp only
  rw [if_pos (by unfold L2.CDiv; omega)]
abbrev bK : Sm := (seqS [(ifS (blT (op2 dGt (var 5) (cst (.int 0)))) (seqS [(expS (appE 1 (op2 dMod (op1 dIntOf (var 5)) (cst (.int 997))))),
    (setS 5 (op2 dFdiv (var 5) (cst (.int 997))))]) (seqS []))])
theorem k_loop (s0 s2 s3 s6 : Sl) : ∀ (xs : List D) (acc : List Int) (n : Int) (s4 : Sl), acc.length + xs.length ≤ 10000000 →
    ∃ acc' n' t4, forLoop (stI 4) bK xs [s0, .own (iL acc), s2, s3, s4, .val (.int n), s6] = .nx [s0, .own (iL acc'), s2, s3, t4, .val (.int n'), s6] ∧ acc'.length ≤ acc.length + xs.length
  | [], acc, n, s4, _ => ⟨acc, n, s4, by simp, by simp⟩
  | x :: xs, acc, n, s4, hz => by
    rw [List.length_cons] at hz
    have hF : acc.length < sizeLine := Nat.lt_of_le_of_lt (show acc.length ≤ 10000000 by omega) (by decide)
    rw [e_for_cons]
    by_cases c : 0 < n
    · obtain ⟨acc', n', t4, h, hl⟩ := k_loop s0 s2 s3 s6 xs (acc ++ [n % 997]) (n / 997) (.val x) (by rw [List.length_append, List.length_singleton]; omega)
      refine ⟨acc', n', t4, ?_, by rw [List.length_append, List.length_singleton] at hl; rw [List.length_cons]; omega⟩
      rw [← h]
      simp [bK, c, iL, hF, mod_pos (show (0 : Int) < 997 by decide), fdiv_ok (show (0 : Int) < 997 ∧ (997 : Int) ≤ 1000000 by decide)]
    · obtain ⟨acc', n', t4, h, hl⟩ := k_loop s0 s2 s3 s6 xs acc n (.val x) (by omega)
      refine ⟨acc', n', t4, ?_, by rw [List.length_cons]; omega⟩
      rw [← h]
      simp [bK, c, iL]
theorem rng1_ok (n : Nat) (h : n ≤ 1000000) : inR (n : Int) = true := inR_ok (by omega)
abbrev bCell : Sm := (seqS [(setS 5 (op1 dAbs (var 2))),
    (ifS (blT (op2 dLt (var 5) (op2 dPow (cst (.int 10)) (cst (.int 18))))) (seqS [(setS 6 (op2 dMod (op1 dIntOf (op2 dAdd (op2 dMul (var 5) (cst (.int 48271))) (cst (.int 11)))) (cst (.int 2147483647)))),
    (expS (appE 1 (op2 dMod (op1 dIntOf (op2 dAdd (op2 dMul (var 6) (cst (.int 69621))) (var 5))) (cst (.int 2147483629))))),
    (expS (appE 1 (op2 dMod (op1 dIntOf (op2 dAdd (var 6) (op2 dFdiv (var 5) (cst (.int 7))))) (cst (.int 1000003))))),
    (setS 5 (cst (.int 0)))]) (seqS [])),
    (forS (stI 4) (itRng1 (cst (.int 60))) bK)])
theorem in60 : inR 60 = true := by decide +kernel
theorem in3000 : inR 3000 = true := by decide +kernel
theorem in6 : inR 6 = true := by decide +kernel
theorem cell_loop (s0 s3 : Sl) : ∀ (cs : List Int) (acc : List Int) (s2 s4 s5 s6 : Sl), acc.length + 62 * cs.length ≤ 1000000 →
    ∃ acc' t2 t4 t5 t6, forLoop (stI 2) bCell (cs.map .int) [s0, .own (iL acc), s2, s3, s4, s5, s6] = .nx [s0, .own (iL acc'), t2, s3, t4, t5, t6] ∧ acc'.length ≤ acc.length + 62 * cs.length
  | [], acc, s2, s4, s5, s6, _ => ⟨acc, s2, s4, s5, s6, by simp, by simp⟩
  | c :: cs, acc, s2, s4, s5, s6, hz => by
    rw [List.length_cons] at hz
    have r60 : (rng 0 60).length = 60 := by simp [rng_len]
    have hF : acc.length < sizeLine := Nat.lt_of_le_of_lt (show acc.length ≤ 10000000 by omega) (by decide)
    have hF2 : acc.length + 1 < sizeLine := Nat.lt_of_le_of_lt (show acc.length + 1 ≤ 10000000 by omega) (by decide)
    rw [List.map_cons, e_for_cons]
    obtain ⟨n, hn⟩ := dAbs_int c
    by_cases q : n < 1000000000000000000
    · obtain ⟨acc1, n1, t4, h1, l1⟩ := k_loop s0 (.val (.int c)) s3 (.val (.int ((n * 48271 + 11) % 2147483647))) (rng 0 60) (acc ++ [(((n * 48271 + 11) % 2147483647) * 69621 + n) % 2147483629] ++ [((n * 48271 + 11) % 2147483647 + n / 7) % 1000003]) 0 s4 (by simp [r60]; omega)
      obtain ⟨acc2, t2, u4, u5, u6, h2, l2⟩ := cell_loop s0 s3 cs acc1 (.val (.int c)) t4 (.val (.int n1)) (.val (.int ((n * 48271 + 11) % 2147483647))) (by simp [r60] at l1; omega)
      refine ⟨acc2, t2, u4, u5, u6, ?_, by simp [r60] at l1; rw [List.length_cons]; omega⟩
      rw [← h2]
      have e1 := h1
      simp only [List.append_assoc, List.map_append, List.map_cons, List.map_nil, iL, List.cons_append, List.nil_append] at e1
      simp [bCell, hn, dPow_18, q, mul_right (show (0 : Int) ≤ 48271 ∧ (48271 : Int) ≤ 1000000 by decide), mul_right (show (0 : Int) ≤ 69621 ∧ (69621 : Int) ≤ 1000000 by decide), mod_pos (show (0 : Int) < 2147483647 by decide), mod_pos (show (0 : Int) < 2147483629 by decide), mod_pos (show (0 : Int) < 1000003 by decide),
        fdiv_ok (show (0 : Int) < 7 ∧ (7 : Int) ≤ 1000000 by decide), iL, hF, hF2, in60]
      rw [e1]
      simp [iL]
    · obtain ⟨acc1, n1, t4, h1, l1⟩ := k_loop s0 (.val (.int c)) s3 s6 (rng 0 60) acc n s4 (by simp [r60]; omega)
      obtain ⟨acc2, t2, u4, u5, u6, h2, l2⟩ := cell_loop s0 s3 cs acc1 (.val (.int c)) t4 (.val (.int n1)) s6 (by simp [r60] at l1; omega)
      refine ⟨acc2, t2, u4, u5, u6, ?_, by simp [r60] at l1; rw [List.length_cons]; omega⟩
      rw [← h2]
      have e1 := h1
      simp [bCell, hn, dPow_18, q, in60]
      simp only [iL] at e1
      rw [e1]
      simp
abbrev bSeed : Sm := (seqS [(setS 3 (op2 dMod (op1 dIntOf (op2 dAdd (op2 dMul (var 3) (cst (.int 48271))) (cst (.int 69621)))) (cst (.int 2147483647)))),
    (expS (appE 1 (op2 dFdiv (var 3) (cst (.int 5)))))])
theorem seed_loop (s0 s2 s5 s6 : Sl) : ∀ (xs : List D) (acc : List Int) (n : Int) (s4 : Sl), acc.length + xs.length ≤ 10000000 →
    ∃ acc' n' t4, forLoop (stI 4) bSeed xs [s0, .own (iL acc), s2, .val (.int n), s4, s5, s6] = .nx [s0, .own (iL acc'), s2, .val (.int n'), t4, s5, s6]
  | [], acc, n, s4, _ => ⟨acc, n, s4, by simp⟩
  | x :: xs, acc, n, s4, hz => by
    rw [List.length_cons] at hz
    have hF : acc.length < sizeLine := Nat.lt_of_le_of_lt (show acc.length ≤ 10000000 by omega) (by decide)
    rw [e_for_cons]
    obtain ⟨acc', n', t4, h⟩ := seed_loop s0 s2 s5 s6 xs (acc ++ [(n * 48271 + 69621) % 2147483647 / 5]) ((n * 48271 + 69621) % 2147483647) (.val x) (by rw [List.length_append, List.length_singleton]; omega)
    refine ⟨acc', n', t4, ?_⟩
    rw [← h]
    simp [bSeed, iL, hF, mul_right (show (0 : Int) ≤ 48271 ∧ (48271 : Int) ≤ 1000000 by decide), mod_pos (show (0 : Int) < 2147483647 by decide), fdiv_ok (show (0 : Int) < 5 ∧ (5 : Int) ≤ 1000000 by decide)]
theorem draws_ok (ns : List Int) (h : ns.length ≤ 63) : ∃ ds, m__law_draws [.val (iL ns)] = .rt (.frs (iL ds)) [] := by
  obtain ⟨xs, hX⟩ : ∃ xs, rng 0 3000 = xs := ⟨_, rfl⟩
  have r3 : xs.length = 3000 := by rw [← hX, rng_len]; decide
  obtain ⟨a1, t2, t4, t5, t6, h1, l1⟩ := cell_loop (.val (iL ns)) .no ns [] .no .no .no .no (by simp; omega)
  have e1 : ∀ n : Int, ∃ a2 n' u4, forLoop (stI 4) bSeed xs [.val (iL ns), .own (iL a1), t2, .val (.int n), t4, t5, t6] = .nx [.val (iL ns), .own (iL a2), t2, .val (.int n'), u4, t5, t6] := fun n => seed_loop (.val (iL ns)) t2 t5 t6 xs a1 n t4 (by simp at l1; omega)
  simp only [iL, List.map_nil] at h1
  by_cases c0 : (0 : Int) < (ns.length : Int)
  · obtain ⟨c, cs, rfl⟩ : ∃ c cs, ns = c :: cs := by
      cases ns with
      | nil => simp at c0
      | cons c cs => exact ⟨c, cs, rfl⟩
    obtain ⟨n, hn⟩ := dAbs_int c
    obtain ⟨a2, n', u4, h2⟩ := e1 (1 + n)
    simp only [iL] at h2
    refine ⟨a2.reverse, ?_⟩
    have c0 : (0 : Int) < (cs.length : Int) + 1 := by omega
    simp at h1 h2
    simp [m__law_draws, g__law_draws, iL, dRevL, in3000, hX, h1, hn, c0, h2]
  · obtain ⟨a2, n', u4, h2⟩ := e1 1
    simp only [iL] at h2
    refine ⟨a2.reverse, ?_⟩
    have c0' : ¬ 0 < ns.length := by omega
    simp only [m__law_draws, g__law_draws, iL]
    simp [dRevL, in3000, hX, h1, c0', h2]
theorem pick_ok (ds : List Int) (x : D) (xs : List D) : ∃ y ds', y ∈ x :: xs ∧ m__law_pick [.byr (iL ds), .val (.list (x :: xs))] = .rt (.val y) [iL ds'] := by
  obtain ⟨r, ds', h, h1, h2⟩ := take_ok ds ((x :: xs).length) (by simp only [List.length_cons]; omega)
  have hi : L2.ixN (x :: xs).length r = some r.toNat := by
    unfold L2.ixN
    rw [if_pos h1, if_pos h2]
  have hl : r.toNat < (x :: xs).length := by omega
  refine ⟨(x :: xs)[r.toNat], ds', List.getElem_mem hl, ?_⟩
  have ha : L2.atI (x :: xs) r = some (x :: xs)[r.toNat] := by
    unfold L2.atI
    rw [hi]
    show (x :: xs)[r.toNat]? = _
    exact List.getElem?_eq_getElem hl
  simp only [iL, List.length_cons] at h
  simp at h
  simp [m__law_pick, g__law_pick, iL, h, ha]
end Ev

set_option Elab.async false
set_option linter.all false
set_option maxRecDepth 100000
set_option maxHeartbeats 2000000
/-! K41I: the law's world. -/
namespace Ev
open PySem
abbrev R2' := Int × Int
def z3 (q : Str × R2') : D := .tuple [.str q.1, .int q.2.1, .int q.2.2]
def zP (q : Str × R2') : D × D := (.str q.1, .tuple [.int q.2.1, .int q.2.2])
abbrev eGar : Ex := (tupE [(var 4), (op2 dAdd (cst (.int 20)) (calE m__law_take [.r 0, .v (cst (.int 20))])), (calE m__law_take [.r 0, .v (cst (.int 5))])])
theorem gar_loop (N : D) : ∀ (l : List Str) (ds : List Int) (acc : List D), ∃ (rows : List R2') (ds' : List Int), rows.length = l.length ∧ (∀ p ∈ rows, 20 ≤ p.1 ∧ p.1 < 40 ∧ 0 ≤ p.2 ∧ p.2 < 5) ∧
    lcLoop [4] (stI 4) yesT eGar (l.map .str) [.byr (iL ds), .val N, .no, .no, .no, .no, .no, .no] acc = .ok (acc ++ (l.zip rows).map z3) [.byr (iL ds'), .val N, .no, .no, .no, .no, .no, .no]
  | [], ds, acc => ⟨[], ds, rfl, by simp, by simp [lcLoop]⟩
  | n :: l, ds, acc => by
    obtain ⟨b, d1, h1, b1, b2⟩ := take_ok ds 20 (by decide)
    obtain ⟨s, d2, h2, s1, s2⟩ := take_ok d1 5 (by decide)
    obtain ⟨rows, d3, hl, hr, h⟩ := gar_loop N l d2 (acc ++ [z3 (n, 20 + b, s)])
    refine ⟨(20 + b, s) :: rows, d3, by simp [hl], ?_, ?_⟩
    · intro p hp
      rcases List.mem_cons.mp hp with rfl | hp
      · exact ⟨by simp only; omega, by simp only; omega, s1, s2⟩
      · exact hr p hp
    · rw [List.map_cons, lcLoop_eq]
      have t : lcTurn [4] (stI 4) yesT eGar (.str n) [.byr (iL ds), .val N, .no, .no, .no, .no, .no, .no] = some (some (z3 (n, 20 + b, s)), [.byr (iL d2), .val N, .no, .no, .no, .no, .no, .no]) := by
        simp [lcTurn, eGar, h1, h2, z3]
      rw [t]
      simp only
      rw [h]
      simp
abbrev bNeed : Sm := (seqS [(setS 6 (op2 dSub (calE m__law_take [.r 0, .v (cst (.int 10))]) (cst (.int 3)))),
    (expS (appE 3 (tupE [(var 4), (var 6), (op2 dAdd (var 6) (calE m__law_take [.r 0, .v (cst (.int 12))]))])))])
theorem need_loop (s1 s2 s5 s7 : Sl) : ∀ (l : List Str) (ds : List Int) (acc : List D) (s4 s6 : Sl), acc.length + l.length ≤ 1000 → ∃ (rows : List R2') (ds' : List Int) (t4 t6 : Sl), rows.length = l.length ∧ (∀ p ∈ rows, -3 ≤ p.1 ∧ p.1 < 7 ∧ p.1 ≤ p.2 ∧ p.2 < p.1 + 12) ∧ (t4 = s4 ∨ ∃ d, t4 = .val d) ∧
    forLoop (stI 4) bNeed (l.map .str) [.byr (iL ds), s1, s2, .own (.list acc), s4, s5, s6, s7] = .nx [.byr (iL ds'), s1, s2, .own (.list (acc ++ (l.zip rows).map z3)), t4, s5, t6, s7]
  | [], ds, acc, s4, s6, _ => ⟨[], ds, s4, s6, rfl, by simp, .inl rfl, by simp⟩
  | n :: l, ds, acc, s4, s6, hz => by
    rw [List.length_cons] at hz
    have hF : acc.length < sizeLine := small_lt (by omega)
    obtain ⟨b, d1, h1, b1, b2⟩ := take_ok ds 10 (by decide)
    obtain ⟨s, d2, h2, s1', s2'⟩ := take_ok d1 12 (by decide)
    obtain ⟨rows, d3, t4, t6, hl, hr, ht, h⟩ := need_loop s1 s2 s5 s7 l d2 (acc ++ [z3 (n, b - 3, b - 3 + s)]) (.val (.str n)) (.val (.int (b - 3))) (by rw [List.length_append, List.length_singleton]; omega)
    refine ⟨(b - 3, b - 3 + s) :: rows, d3, t4, t6, by simp [hl], ?_, ?_, ?_⟩
    · intro p hp
      rcases List.mem_cons.mp hp with rfl | hp
      · exact ⟨by simp only; omega, by simp only; omega, by simp only; omega, by simp only; omega⟩
      · exact hr p hp
    · rcases ht with rfl | ht
      · exact .inr ⟨_, rfl⟩
      · exact .inr ht
    · rw [List.map_cons, e_for_cons]
      have t : bNeed [.byr (iL ds), s1, s2, .own (.list acc), .val (.str n), s5, s6, s7] = .nx [.byr (iL d2), s1, s2, .own (.list (acc ++ [z3 (n, b - 3, b - 3 + s)])), .val (.str n), s5, .val (.int (b - 3)), s7] := by
        simp [bNeed, h1, h2, z3, hF]
      simp only [e_stI, List.set_cons_succ, List.set_cons_zero]
      rw [t, turnR_nx, h]
      simp
abbrev bBnd : Sm := (seqS [(setS 7 (op2 dAdd (cst (.int 15)) (calE m__law_take [.r 0, .v (cst (.int 40))]))),
    (putS 5 (var 4) (tupE [(var 7), (op2 dAdd (var 7) (calE m__law_take [.r 0, .v (cst (.int 7))]))]))])
theorem ask_str {kvs : List (D × D)} (h : kvs.all (fun p => flatK p.1) = true) (n : Str) : askK kvs (.str n) = true := by
  unfold askK
  rw [h]
  rfl
theorem dput_flat {kvs : List (D × D)} (h : kvs.all (fun p => flatK p.1) = true) (n : Str) (v : D) : (dput kvs (.str n) v).all (fun p => flatK p.1) = true := by
  unfold dput
  split
  · rw [List.all_map]
    rw [List.all_eq_true] at h ⊢
    intro p hp
    simp only [Function.comp]
    split <;> exact h p hp
  · rw [List.all_append, h]
    rfl
theorem bnd_loop (s1 s2 s3 s6 : Sl) : ∀ (l : List Str) (ds : List Int) (acc : List (D × D)) (s4 s7 : Sl), acc.length + l.length ≤ 1000 → acc.all (fun p => flatK p.1) = true → ∃ (rows : List R2') (ds' : List Int) (t4 t7 : Sl), rows.length = l.length ∧ (∀ p ∈ rows, 15 ≤ p.1 ∧ p.1 < 55 ∧ p.1 ≤ p.2 ∧ p.2 < p.1 + 7) ∧
    forLoop (stI 4) bBnd (l.map .str) [.byr (iL ds), s1, s2, s3, s4, .own (.dict acc), s6, s7] = .nx [.byr (iL ds'), s1, s2, s3, t4, .own (.dict (dmerge ((l.zip rows).map zP) acc)), s6, t7]
  | [], ds, acc, s4, s7, _, _ => ⟨[], ds, s4, s7, rfl, by simp, by simp [dmerge]⟩
  | n :: l, ds, acc, s4, s7, hz, hf => by
    rw [List.length_cons] at hz
    have hF : acc.length < sizeLine := small_lt (by omega)
    obtain ⟨b, d1, h1, b1, b2⟩ := take_ok ds 40 (by decide)
    obtain ⟨s, d2, h2, s1', s2'⟩ := take_ok d1 7 (by decide)
    obtain ⟨rows, d3, t4, t7, hl, hr, h⟩ := bnd_loop s1 s2 s3 s6 l d2 (dput acc (.str n) (.tuple [.int (15 + b), .int (15 + b + s)])) (.val (.str n)) (.val (.int (15 + b))) (by have := dput_len acc (.str n) (.tuple [.int (15 + b), .int (15 + b + s)]); omega) (dput_flat hf _ _)
    refine ⟨(15 + b, 15 + b + s) :: rows, d3, t4, t7, by simp [hl], ?_, ?_⟩
    · intro p hp
      rcases List.mem_cons.mp hp with rfl | hp
      · exact ⟨by simp only; omega, by simp only; omega, by simp only; omega, by simp only; omega⟩
      · exact hr p hp
    · rw [List.map_cons, e_for_cons]
      have t : bBnd [.byr (iL ds), s1, s2, s3, .val (.str n), .own (.dict acc), s6, s7] = .nx [.byr (iL d2), s1, s2, s3, .val (.str n), .own (.dict (dput acc (.str n) (.tuple [.int (15 + b), .int (15 + b + s)]))), s6, .val (.int (15 + b))] := by
        simp [bBnd, h1, h2, putD, flatK, ask_str hf, hF]
      simp only [e_stI, List.set_cons_succ, List.set_cons_zero]
      rw [t, turnR_nx, h]
      rfl
end Ev

set_option Elab.async false
set_option linter.all false
set_option maxRecDepth 100000
set_option maxHeartbeats 4000000
/-! K41J: the world as a whole. -/
namespace Ev
open PySem
def build : List Str → List R2' → List R2' → List R2' → List Ms
  | n :: l, g :: gs, q :: qs, b :: bs => ⟨n, g.1, g.2, q.1, q.2, b.1, b.2⟩ :: build l gs qs bs
  | _, _, _, _ => []
theorem build_all : ∀ {l : List Str} {gs qs bs : List R2'}, gs.length = l.length → qs.length = l.length → bs.length = l.length →
    (build l gs qs bs).map (·.n) = l ∧ (build l gs qs bs).map eG = (l.zip gs).map z3 ∧ (build l gs qs bs).map eN = (l.zip qs).map z3 ∧ (build l gs qs bs).map (fun r => ((.str r.n : D), eP r)) = (l.zip bs).map zP ∧
      ∀ r ∈ build l gs qs bs, (r.b, r.s) ∈ gs ∧ (r.l, r.m) ∈ qs ∧ (r.lo, r.hi) ∈ bs
  | [], gs, qs, bs, _, _, _ => by simp [build]
  | n :: l, [], qs, bs, h, _, _ => by simp at h
  | n :: l, g :: gs, [], bs, _, h, _ => by simp at h
  | n :: l, g :: gs, q :: qs, [], _, _, h => by simp at h
  | n :: l, g :: gs, q :: qs, b :: bs, h1, h2, h3 => by
    obtain ⟨e1, e2, e3, e4, e5⟩ := build_all (l := l) (gs := gs) (qs := qs) (bs := bs) (by simpa using h1) (by simpa using h2) (by simpa using h3)
    refine ⟨by simp [build, e1], by simp [build, e2, eG, z3], by simp [build, e3, eN, z3], by rw [build, List.map_cons, e4]; rfl, ?_⟩
    intro r hr
    simp only [build] at hr
    rcases List.mem_cons.mp hr with rfl | hr
    · simp
    · obtain ⟨a1, a2, a3⟩ := e5 r hr
      exact ⟨List.mem_cons_of_mem _ a1, List.mem_cons_of_mem _ a2, List.mem_cons_of_mem _ a3⟩
theorem names_cut (r : Int) (h0 : 0 ≤ r) (h1 : r < 3) : ∃ l : List Str, NL l ∧ dSl (.list [.str "arm", .str "chest", .str "hip"]) none (some (1 + r)) = some (.frs (.list (l.map .str))) := by
  have : r = 0 ∨ r = 1 ∨ r = 2 := by omega
  rcases this with rfl | rfl | rfl
  · exact ⟨_, .one, rfl⟩
  · exact ⟨_, .two, rfl⟩
  · exact ⟨_, .three, rfl⟩
theorem gar_comp (l : List Str) (hl : l.length ≤ 3) (ds : List Int) : ∃ (rows : List R2') (ds' : List Int), rows.length = l.length ∧ (∀ p ∈ rows, 20 ≤ p.1 ∧ p.1 < 40 ∧ 0 ≤ p.2 ∧ p.2 < 5) ∧
    lcE [4] (itSeq (var 1)) (stI 4) yesT eGar [.byr (iL ds), .own (.list (l.map .str)), .no, .no, .no, .no, .no, .no] = .ok (.frs (.list ((l.zip rows).map z3))) [.byr (iL ds'), .val (.list (l.map .str)), .no, .no, .no, .no, .no, .no] := by
  obtain ⟨rows, ds', h1, h2, h3⟩ := gar_loop (.list (l.map .str)) l ds []
  refine ⟨rows, ds', h1, h2, ?_⟩
  have e1 : itSeq (var 1) [.byr (iL ds), .own (.list (l.map .str)), .no, .no, .no, .no, .no, .no] = .ok (l.map .str) [.byr (iL ds), .val (.list (l.map .str)), .no, .no, .no, .no, .no, .no] := by simp
  unfold lcE
  rw [e1]
  simp only [RE.bind_ok]
  rw [if_pos ⟨rfl, by rw [List.length_map]; exact small_line (by omega)⟩]
  have e2 : wipeE [.byr (iL ds), .val (.list (l.map .str)), .no, .no, .no, .no, .no, .no] [4] = [.byr (iL ds), .val (.list (l.map .str)), .no, .no, .no, .no, .no, .no] := rfl
  rw [e2, h3]
  rfl
theorem dmerge_NL {l : List Str} (h : NL l) {rows : List R2'} (hr : rows.length = l.length) : dmerge ((l.zip rows).map zP) [] = (l.zip rows).map zP := by
  have hb := build_all (l := l) (gs := rows) (qs := rows) (bs := rows) hr hr hr
  have hn : Nm (build l rows rows rows) := by unfold Nm; rw [hb.1]; exact h
  rw [← hb.2.2.2.1]
  exact dmerge_ok hn eP
theorem world_ok (ds : List Int) : ∃ (ws : List Ms) (top : Int) (ds' : List Int), Nm ws ∧ (∀ r ∈ ws, Ok r) ∧ 0 ≤ top ∧ top ≤ 60 ∧ m__law_world [.byr (iL ds)] = .rt (.val (.tuple [gar ws, .int top, per ws, bnd ws])) [iL ds'] := by
  obtain ⟨r, d1, h1, r0, r3⟩ := take_ok ds 3 (by decide)
  obtain ⟨l, hl, hcut⟩ := names_cut r r0 r3
  have hlen := hl.len
  obtain ⟨gs, d2, lg, hg, h2⟩ := gar_comp l hlen.2 d1
  obtain ⟨qs, d3, t4, t6, lq, hq, ht4, h3⟩ := need_loop (.val (.list (l.map .str))) (.val (.tuple ((l.zip gs).map z3))) .no .no l d2 [] .no .no (by simp; omega)
  obtain ⟨k, d4, h4, k0, k8⟩ := take_ok d3 8 (by decide)
  -- the needs as they stand behind the test
  have hneed : ∃ qs' : List R2', qs'.length = l.length ∧ (∀ p ∈ qs', -3 ≤ p.1 ∧ p.1 < 7 ∧ (p.1 ≤ p.2 ∨ (p.1 = 1 ∧ p.2 = 0)) ∧ p.2 < 20) ∧
      ifS (blT (op2 dEq (calE m__law_take [.r 0, .v (cst (.int 8))]) (cst (.int 0)))) (seqS [(putS 3 (cst (.int 0)) (tupE [(op2 dIdx (op2 dIdx (var 3) (cst (.int 0))) (cst (.int 0))), (cst (.int 1)), (cst (.int 0))]))]) (seqS [])
        [.byr (iL d3), .val (.list (l.map .str)), .val (.tuple ((l.zip gs).map z3)), .own (.list ((l.zip qs).map z3)), t4, .no, t6, .no] =
      .nx [.byr (iL d4), .val (.list (l.map .str)), .val (.tuple ((l.zip gs).map z3)), .own (.list ((l.zip qs').map z3)), t4, .no, t6, .no] := by
    by_cases c : k = 0
    · match l, qs, lq, hlen with
      | [], _, _, h => simp at h
      | n :: l, [], h, _ => simp at h
      | n :: l, q :: qs, lq, _ =>
        refine ⟨(1, 0) :: qs, by simpa using lq, ?_, ?_⟩
        · intro p hp
          rcases List.mem_cons.mp hp with rfl | hp
          · simp
          · have := hq p (List.mem_cons_of_mem _ hp); omega
        · have hz : L2.ixN (List.map z3 (l.zip qs)).length.succ 0 = some 0 := by
            unfold L2.ixN
            rw [if_pos (by omega), if_pos (by simp only [Nat.succ_eq_add_one]; omega)]; rfl
          have hp : ∀ v : D, putD (.list (z3 (n, q) :: List.map z3 (l.zip qs))) (.int 0) v = some (.list (v :: List.map z3 (l.zip qs))) := fun v => by
            unfold putD
            simp only [List.length_cons]
            rw [show L2.ixN ((List.map z3 (l.zip qs)).length + 1) 0 = some 0 from hz]
            rfl
          have e0 : dIdx (z3 (n, q)) (.int 0) = some (.val (.str n)) := by simp [z3]
          simp [h4, c, hp, e0]
          simp [z3]
    · refine ⟨qs, lq, fun p hp => by have := hq p hp; omega, ?_⟩
      simp [h4, c]
  obtain ⟨qs', lq', hq', h5⟩ := hneed
  obtain ⟨bs, d5, u4, u7, lb, hb, h6⟩ := bnd_loop (.val (.list (l.map .str))) (.val (.tuple ((l.zip gs).map z3))) (.own (.list ((l.zip qs').map z3))) t6 l d4 [] t4 .no (by simp; omega) rfl
  rw [dmerge_NL hl lb] at h6
  obtain ⟨top, d6, h7, t0, t10⟩ := take_ok d5 10 (by decide)
  obtain ⟨e1, e2, e3, e4, e5⟩ := build_all (l := l) (gs := gs) (qs := qs') (bs := bs) lg lq' lb
  refine ⟨build l gs qs' bs, top, d6, by unfold Nm; rw [e1]; exact hl, fun r hr => ?_, t0, by omega, ?_⟩
  · obtain ⟨a1, a2, a3⟩ := e5 r hr
    have b1 := hg _ a1
    have b2 := hq' _ a2
    have b3 := hb _ a3
    simp only at b1 b2 b3
    exact ⟨by omega, by omega, by omega, by omega, by omega, by omega⟩
  · unfold gar per bnd
    rw [e2, e3, e4]
    simp only [List.nil_append] at h3
    simp only [m__law_world, g__law_world]
    simp [-e_ifS, h1, hcut, h2, h3, h5, h6, h7]
end Ev

set_option Elab.async false
set_option linter.all false
set_option maxRecDepth 100000
set_option maxHeartbeats 4000000
/-! K41K: bounds that are none. -/
namespace Ev
open PySem
abbrev NR : Str := "not right"
theorem check_bad {P o : D} {b : Bool} (h : m_check_bounds [.val P, .val o] = .exc "NotRight" []) (w : Bool) : m__law_told [.val (.int (wh w)), .val P, .val o] = .rt (.val (.str NR)) [] := by
  have hs : m_sure_person [.val P, .val o] = .exc "NotRight" [] := by simp [m_sure_person, g_sure_person, h]
  have hp : m_possible_person [.val P, .val o] = .exc "NotRight" [] := by simp [m_possible_person, g_possible_person, h]
  have hsub : sub "NotRight" "NotRight" = some true := by decide +kernel
  cases w
  · simp [m__law_told, g__law_told, tryS, catE, wh, hs, hndS, hsub]
  · simp [m__law_told, g__law_told, tryS, catE, wh, hp, hndS, hsub]
theorem bad_Ann (o : D) : m_check_bounds [.val (.tuple [.str "Ann", .tuple []]), .val o] = .exc "NotRight" [] := by
  have h1 : m_is_person [.val (.tuple [.str "Ann", .tuple []])] = .rt (.val (.bool false)) [] := by
    simp [m_is_person, g_is_person, nm_Ann]
  have h2 : m_check_person [.val (.tuple [.str "Ann", .tuple []])] = .exc "NotRight" [] := by
    simp [m_check_person, g_check_person, h1]
  simp [m_check_bounds, g_check_bounds, h2]
theorem needs_comp {ws : List Ms} (hl : Nm ws) (o : D) : lcE [2] (itSeq (op2 dIdx (var 0) (cst (.int 1)))) (stI 2) yesT (op2 dIdx (var 2) (cst (.int 0))) [.val (per ws), .val o, .no, .no] = .ok (.frs (.list (ws.map fun r => .str r.n))) [.val (per ws), .val o, .no, .no] := by
  have hlen := hl.len
  exact map_lc eN _ (by simp [per]) (by rfl) (by omega) fun r hr => by simp [lcTurn, eN]
theorem bad_none {ws : List Ms} (hl : Nm ws) (ho : ∀ r ∈ ws, Ok r) : m_check_bounds [.val (per ws), .val .none] = .exc "NotRight" [] := by
  simp [m_check_bounds, g_check_bounds, check_person_ok hl (fun r hr => (ho r hr).fn)]
/-- another set of keys -/
theorem bad_keys {ws : List Ms} (hl : Nm ws) (ho : ∀ r ∈ ws, Ok r) {kvs : List (D × D)} {ks : List D} (hf : kvs.all (fun p => flatK p.1) = true) (hs : dSorted (.dict kvs) = some (.frs (.list ks))) (hn : dNe (.list ks) (.list (ws.map fun r => .str r.n)) = some (.val (.bool true))) :
    m_check_bounds [.val (per ws), .val (.dict kvs)] = .exc "NotRight" [] := by
  have a3 : dIsi "dict" (.dict kvs) = some (.val (.bool true)) := by
    unfold dIsi
    simp only
    rw [hf]
    simp
  simp [m_check_bounds, g_check_bounds, check_person_ok hl (fun r hr => (ho r hr).fn), needs_comp hl, a3, hs, hn]
/-- a pair that is no span -/
theorem bad_val {ws : List Ms} (hl : Nm ws) (ho : ∀ r ∈ ws, Ok r) (F : Ms → D) (p : Ms → Bool) (hp : ∀ r ∈ ws, m_is_span [.val (F r)] = .rt (.val (.bool (p r))) []) {q : Ms} (hq : q ∈ ws) (hb : p q = false) :
    m_check_bounds [.val (per ws), .val (.dict (ws.map fun r => (.str r.n, F r)))] = .exc "NotRight" [] := by
  have hlen := hl.len
  have a2 : lcE [3] (itVals (var 1)) (stI 3) yesT (calE m_is_span [.v (var 3)]) [.val (per ws), .val (.dict (ws.map fun r => (.str r.n, F r))), .no, .no] = .ok (.frs (.list (ws.map fun r => .bool (p r)))) [.val (per ws), .val (.dict (ws.map fun r => (.str r.n, F r))), .no, .no] :=
    map_lc F _ (by simp [itVals, itDict]) (by rfl) (by omega) fun r hr => by
      simp [lcTurn, hp r hr]
  have a3 : dIsi "dict" (.dict (ws.map fun r => (.str r.n, F r))) = some (.val (.bool true)) := by
    unfold dIsi
    simp only
    rw [flat_ok]
    simp
  have a5 : ws.all p = false := by
    cases c : ws.all p with
    | false => rfl
    | true => rw [List.all_eq_true] at c; rw [c q hq] at hb; cases hb
  have a6 : dAll (.list (ws.map fun r => .bool (p r))) = some (.val (.bool false)) := by rw [e_all_map, a5]
  simp [m_check_bounds, g_check_bounds, check_person_ok hl (fun r hr => (ho r hr).fn), needs_comp hl, a2, a3, a6, keys_sorted hl F, dNe_self (shaped_names hl)]
theorem span_21 : m_is_span [.val (.tuple [.int 2, .int 1])] = .rt (.val (.bool false)) [] := by rw [is_span_int]; rfl
theorem span_list : m_is_span [.val (.list [.int 1, .int 2])] = .rt (.val (.bool false)) [] := by simp [m_is_span, g_is_span]
end Ev

set_option Elab.async false
set_option linter.all false
set_option maxRecDepth 100000
set_option maxHeartbeats 4000000
/-! K41L: narrower bounds, wrong bounds. -/
namespace Ev
open PySem
/-- rows narrowed, one by one -/
inductive NAll : List Ms → List Ms → Prop
  | nil : NAll [] []
  | cons {r q : Ms} {rs qs : List Ms} : Narrow r q → q.lo ≤ q.hi → NAll rs qs → NAll (r :: rs) (q :: qs)
theorem NAll.maps {rs qs : List Ms} (h : NAll rs qs) : qs.map (·.n) = rs.map (·.n) ∧ qs.map eG = rs.map eG ∧ qs.map eN = rs.map eN := by
  induction h with
  | nil => simp
  | cons n _ _ ih =>
    obtain ⟨h1, h2, h3⟩ := ih
    refine ⟨by simp [h1, n.fn], ?_, ?_⟩
    · rw [List.map_cons, List.map_cons, h2]; unfold eG; rw [n.fn, n.fb, n.fs]
    · rw [List.map_cons, List.map_cons, h3]; unfold eN; rw [n.fn, n.fl, n.fm]
theorem NAll.ok {rs qs : List Ms} (h : NAll rs qs) (ho : ∀ r ∈ rs, Ok r) : ∀ q ∈ qs, Ok q := by
  induction h with
  | nil => intro q hq; cases hq
  | @cons r q rs qs n l t ih =>
    intro x hx
    rcases List.mem_cons.mp hx with rfl | hx
    · have k := ho r List.mem_cons_self
      have k1 := k.fb
      have k2 := k.fs
      have k3 := k.fn
      have k4 := k.fr
      have k5 := k.fq
      have n6 := n.flo
      have n7 := n.fhi
      exact ⟨by rw [n.fb]; exact k1, by rw [n.fs]; exact k2, by rw [n.fl, n.fm]; exact k3, by rw [n.fl, n.fm]; exact k4, l, by omega⟩
    · exact ih (fun r hr => ho r (List.mem_cons_of_mem _ hr)) x hx
theorem NAll.fine {rs qs : List Ms} (h : NAll rs qs) (z : Int) : (fine true rs z = true → fine true qs z = true) ∧ (fine false qs z = true → fine false rs z = true) := by
  induction h with
  | nil => simp [Ev.fine]
  | cons n _ _ ih =>
    unfold Ev.fine at ih ⊢
    simp only [List.all_cons, Bool.and_eq_true]
    have := fine_narrow n z
    exact ⟨fun h => ⟨this.1 h.1, ih.1 h.2⟩, fun h => ⟨this.2 h.1, ih.2 h.2⟩⟩
abbrev bNar : Sm := (seqS [(asgS (stT [(stI 16), (stI 17)]) (op2 dIdx (var 13) (var 5))),
    (setS 14 (op2 dAdd (var 16) (calE m__law_take [.r 1, .v (op2 dAdd (op2 dSub (var 17) (var 16)) (cst (.int 1)))]))),
    (putS 4 (var 5) (tupE [(var 14), (op2 dAdd (var 14) (calE m__law_take [.r 1, .v (op2 dAdd (op2 dSub (var 17) (var 14)) (cst (.int 1)))]))]))])
theorem nar_loop {ws : List Ms} (hl : Nm ws) (ho : ∀ r ∈ ws, Ok r) (s0 s2 s3 s6 s7 s8 s9 s10 s11 s12 s15 s18 s19 s20 : Sl) : ∀ (rs : List Ms), (∀ r ∈ rs, r ∈ ws) → ∀ (ds : List Int) (acc : List (D × D)) (s5 s14 s16 s17 : Sl), acc.length + rs.length ≤ 1000 → acc.all (fun p => flatK p.1) = true →
    ∃ (qs : List Ms) (ds' : List Int) (t5 t14 t16 t17 : Sl), NAll rs qs ∧ forLoop (stI 5) bNar (rs.map fun r => .str r.n) [s0, .own (iL ds), s2, s3, .own (.dict acc), s5, s6, s7, s8, s9, s10, s11, s12, .val (bnd ws), s14, s15, s16, s17, s18, s19, s20] =
      .nx [s0, .own (iL ds'), s2, s3, .own (.dict (dmerge (qs.map fun r => (.str r.n, eP r)) acc)), t5, s6, s7, s8, s9, s10, s11, s12, .val (bnd ws), t14, s15, t16, t17, s18, s19, s20]
  | [], _, ds, acc, s5, s14, s16, s17, _, _ => ⟨[], ds, s5, s14, s16, s17, .nil, by simp [dmerge]⟩
  | r :: rs, hm, ds, acc, s5, s14, s16, s17, hz, hf => by
    rw [List.length_cons] at hz
    have hr := hm r List.mem_cons_self
    have hF : acc.length < sizeLine := small_lt (by omega)
    have hd : dIdx (bnd ws) (.str r.n) = some (.val (.tuple [.int r.lo, .int r.hi])) := dIdx_dict hl eP hr
    have lh := (ho r hr).fo
    obtain ⟨a, d1, h1, a0, a1⟩ := take_ok ds (r.hi - r.lo + 1) (by omega)
    obtain ⟨c, d2, h2, c0, c1⟩ := take_ok d1 (r.hi - (r.lo + a) + 1) (by omega)
    obtain ⟨qs, d3, t5, t14, t16, t17, hn, h⟩ := nar_loop hl ho s0 s2 s3 s6 s7 s8 s9 s10 s11 s12 s15 s18 s19 s20 rs (fun q hq => hm q (List.mem_cons_of_mem _ hq)) d2 (dput acc (.str r.n) (.tuple [.int (r.lo + a), .int (r.lo + a + c)])) (.val (.str r.n)) (.val (.int (r.lo + a))) (.val (.int r.lo)) (.val (.int r.hi))
      (by have := dput_len acc (.str r.n) (.tuple [.int (r.lo + a), .int (r.lo + a + c)]); omega) (dput_flat hf _ _)
    refine ⟨{ r with lo := r.lo + a, hi := r.lo + a + c } :: qs, d3, t5, t14, t16, t17, .cons ⟨rfl, rfl, rfl, rfl, rfl, by simp only; omega, by simp only; omega⟩ (by simp only; omega) hn, ?_⟩
    rw [List.map_cons, e_for_cons]
    have t : bNar [s0, .own (iL ds), s2, s3, .own (.dict acc), .val (.str r.n), s6, s7, s8, s9, s10, s11, s12, .val (bnd ws), s14, s15, s16, s17, s18, s19, s20] =
        .nx [s0, .own (iL d2), s2, s3, .own (.dict (dput acc (.str r.n) (.tuple [.int (r.lo + a), .int (r.lo + a + c)]))), .val (.str r.n), s6, s7, s8, s9, s10, s11, s12, .val (bnd ws), .val (.int (r.lo + a)), s15, .val (.int r.lo), .val (.int r.hi), s18, s19, s20] := by
      simp [bNar, hd, h1, h2, putD, flatK, ask_str hf, hF]
    simp only [e_stI, List.set_cons_succ, List.set_cons_zero]
    rw [t, turnR_nx, h]
    rfl
/-! ### wrong bounds -/
theorem pairsO_ok {ws : List Ms} (F : Ms → D) (n : Str) (v : D) : pairsO ((ws.map fun r => .tuple [.str r.n, F r]) ++ [.tuple [.str n, v]]) = some ((ws.map fun r => (.str r.n, F r)) ++ [(.str n, v)]) := by
  induction ws with
  | nil => simp [pairsO, flatK]
  | cons r rs ih => simp [pairsO, flatK, ih]
theorem dmerge_app (a b kvs : List (D × D)) : dmerge (a ++ b) kvs = dmerge b (dmerge a kvs) := by
  unfold dmerge
  rw [List.foldl_append]
theorem z1 : ¬ (("arm" : Str) = "zoe") := by decide +kernel
theorem z2 : ¬ (("chest" : Str) = "zoe") := by decide +kernel
theorem z4 : ¬ (("hip" : Str) = "zoe") := by decide +kernel
theorem zoe_new {ws : List Ms} (hl : Nm ws) (F : Ms → D) (v : D) : dput (ws.map fun r => (.str r.n, F r)) (.str "zoe") v = (ws.map fun r => (.str r.n, F r)) ++ [(.str "zoe", v)] := by
  rcases hl.cases with ⟨x, rfl, h1⟩ | ⟨x, y, rfl, h1, h2⟩ | ⟨x, y, z, rfl, h1, h2, h3⟩
  · simp [dput, keq, h1, z1]
  · simp [dput, keq, h1, h2, z1, z2]
  · simp [dput, keq, h1, h2, h3, z1, z2, z4]
theorem dput_old {ws : List Ms} {q : Ms} (hq : q ∈ ws) (F : Ms → D) (v : D) : dput (ws.map fun r => (.str r.n, F r)) (.str q.n) v = ws.map fun r => (.str r.n, if r.n = q.n then v else F r) := by
  unfold dput
  rw [if_pos]
  · rw [List.map_map]
    apply List.map_congr_left
    intro r _
    simp only [Function.comp, keq]
    by_cases c : r.n = q.n
    · simp [c]
    · simp [c]
  · rw [List.any_map, List.any_eq_true]
    exact ⟨q, hq, by simp [keq]⟩
theorem canLayA_strs : ∀ {ks : List Str}, (∀ k ∈ ks, PyData.strOk k = true) → PyData.canLayAll0 (ks.map PyData.str) = true
  | [], _ => by simp [PyData.canLayAll0]
  | k :: ks, h => by simp [PyData.canLayAll0, PyData.canLay0, h k List.mem_cons_self, canLayA_strs fun x hx => h x (List.mem_cons_of_mem _ hx)]
theorem depthA_strs (ks : List Str) : PyData.depthAll (ks.map PyData.str) = 0 := by
  induction ks with
  | nil => simp [PyData.depthAll]
  | cons k ks ih => simp [PyData.depthAll, PyData.depth, ih]
theorem shaped_strs {ks : List Str} (h : ∀ k ∈ ks, PyData.strOk k = true) : SeqAt.shaped (.list (ks.map PyData.str)) = true := by
  simp [SeqAt.shaped, PyData.canLay0, PyData.depth, canLayA_strs h, depthA_strs]
theorem dNe_lens {xs : List D} {ys : List D} (h1 : SeqAt.shaped (.list xs) = true) (h2 : SeqAt.shaped (.list ys) = true) (h : xs.length ≠ ys.length) : dNe (.list xs) (.list ys) = some (.val (.bool true)) := by
  unfold dNe
  rw [if_pos (.inr ⟨h1, h2⟩)]
  simp only [PyData.eqv, eqvAll_len h]
  rfl
theorem okZ : PyData.strOk "zoe" = true := by decide +kernel
theorem s1 : PyData.strOk "arm" = true := by decide +kernel
theorem s2 : PyData.strOk "chest" = true := by decide +kernel
theorem s3 : PyData.strOk "hip" = true := by decide +kernel
theorem Nm.strOk {ws : List Ms} (hl : Nm ws) {r : Ms} (hr : r ∈ ws) : PyData.strOk r.n = true := by
  rcases hl.cases with ⟨x, rfl, h1⟩ | ⟨x, y, rfl, h1, h2⟩ | ⟨x, y, z, rfl, h1, h2, h3⟩ <;> simp at hr
  · subst hr; rw [h1]; exact s1
  · rcases hr with rfl | rfl
    · rw [h1]; exact s1
    · rw [h2]; exact s2
  · rcases hr with rfl | rfl | rfl
    · rw [h1]; exact s1
    · rw [h2]; exact s2
    · rw [h3]; exact s3
theorem sortedK {ks : List Str} {kvs : List (D × D)} (h : strsO kvs = some ks) (hz : ks.length < 64) : dSorted (.dict kvs) = some (.frs (.list ((ks.mergeSort sleS).map .str))) := by
  simp [dSorted, h, hz]
theorem strsO_app {ws : List Ms} (F : Ms → D) (n : Str) (v : D) : strsO ((ws.map fun r => (.str r.n, F r)) ++ [(.str n, v)]) = some (ws.map (·.n) ++ [n]) := by
  induction ws with
  | nil => rfl
  | cons r rs ih => simp [strsO, ih]
def pair12 : D := .tuple [.int 1, .int 2]
def pair21 : D := .tuple [.int 2, .int 1]
def list12 : D := .list [.int 1, .int 2]
def wrongs (ws : List Ms) (n : Str) : List D :=
  [.none, .dict [], .dict [(.str "zoe", pair12)], .dict (dmerge ((ws.map fun r => (.str r.n, eP r)) ++ [(.str "zoe", pair12)]) []), .dict (dmerge ((ws.map fun r => (.str r.n, eP r)) ++ [(.str n, pair21)]) []), .dict (dmerge ((ws.map fun r => (.str r.n, eP r)) ++ [(.str n, list12)]) [])]
theorem wrong_bad {ws : List Ms} (hl : Nm ws) (ho : ∀ r ∈ ws, Ok r) {q : Ms} (hq : q ∈ ws) {o : D} (h : o ∈ wrongs ws q.n) : m_check_bounds [.val (per ws), .val o] = .exc "NotRight" [] := by
  have hlen := hl.len
  have sh := shaped_names hl
  have hname : (ws.map fun r => (.str r.n : D)) = (ws.map (·.n)).map .str := by rw [List.map_map]; rfl
  unfold wrongs at h
  simp only [List.mem_cons, List.not_mem_nil, or_false] at h
  rcases h with rfl | rfl | rfl | rfl | rfl | rfl
  · exact bad_none hl ho
  · exact bad_keys hl ho rfl (sortedK (ks := []) rfl (by decide)) (dNe_lens (shaped_strs (by simp)) sh (by simp; omega))
  · refine bad_keys hl ho rfl (sortedK (ks := ["zoe"]) rfl (by decide)) ?_
    have e : ((["zoe"] : List Str).mergeSort sleS) = (["zoe"] : List Str) := (sorted_uniq (.refl _) (by decide +kernel)).symm
    rw [e]
    by_cases c : ws.length = 1
    · rcases hl.cases with ⟨x, rfl, h1⟩ | ⟨x, y, rfl, h1, h2⟩ | ⟨x, y, z, rfl, h1, h2, h3⟩
      · simp only [List.map_cons, List.map_nil, h1]
        unfold dNe
        rw [if_pos (.inr ⟨by decide +kernel, by decide +kernel⟩)]
        have : PyData.eqv (.list [.str "zoe"]) (.list [.str "arm"]) = false := by decide +kernel
        rw [this]; rfl
      · simp at c
      · simp at c
    · exact dNe_lens (shaped_strs (ks := ["zoe"]) (by simp; exact okZ)) sh (by simp; omega)
  · rw [dmerge_app, dmerge_ok hl]
    have e : dmerge [((.str "zoe" : D), pair12)] (ws.map fun r => (.str r.n, eP r)) = (ws.map fun r => (.str r.n, eP r)) ++ [(.str "zoe", pair12)] := zoe_new hl eP pair12
    rw [e]
    have hk : ∀ k ∈ ((ws.map (·.n) ++ [("zoe" : Str)] : List Str)).mergeSort sleS, PyData.strOk k = true := fun k hk => by
      have := (List.mergeSort_perm ((ws.map (·.n) ++ [("zoe" : Str)] : List Str)) sleS).mem_iff.mp hk
      simp only [List.mem_append, List.mem_map, List.mem_singleton] at this
      rcases this with ⟨r, hr, rfl⟩ | rfl
      · exact hl.strOk hr
      · exact okZ
    refine bad_keys hl ho ?_ (sortedK (strsO_app eP "zoe" pair12) (by simp; omega)) (dNe_lens (shaped_strs hk) sh (by simp [List.length_mergeSort]))
    rw [List.all_append, flat_ok]; rfl
  · rw [dmerge_app, dmerge_ok hl]
    have e : dmerge [((.str q.n : D), pair21)] (ws.map fun r => (.str r.n, eP r)) = _ := dput_old hq eP pair21
    rw [e]
    refine bad_val hl ho (fun r => if r.n = q.n then pair21 else eP r) (fun r => !decide (r.n = q.n)) (fun r hr => ?_) hq (by simp)
    by_cases c : r.n = q.n
    · simp [c, pair21, span_21]
    · have := (ho r hr).fo
      simp [c, eP, is_span_int, this]
  · rw [dmerge_app, dmerge_ok hl]
    have e : dmerge [((.str q.n : D), list12)] (ws.map fun r => (.str r.n, eP r)) = _ := dput_old hq eP list12
    rw [e]
    refine bad_val hl ho (fun r => if r.n = q.n then list12 else eP r) (fun r => !decide (r.n = q.n)) (fun r hr => ?_) hq (by simp)
    by_cases c : r.n = q.n
    · simp [c, list12, span_list]
    · have := (ho r hr).fo
      simp [c, eP, is_span_int, this]
end Ev

set_option Elab.async false
set_option linter.all false
set_option maxRecDepth 100000
set_option maxHeartbeats 8000000
/-! K41M: a turn of the law. -/
namespace Ev
open PySem
theorem rp1 : (reprText "ann").length ≤ 20 := by decide +kernel
theorem rp2 : (reprText "arm").length ≤ 20 := by decide +kernel
theorem rp3 : (reprText "chest").length ≤ 20 := by decide +kernel
theorem rp4 : (reprText "hip").length ≤ 20 := by decide +kernel
theorem Nm.rp {ws : List Ms} (hl : Nm ws) {r : Ms} (hr : r ∈ ws) : (reprText r.n).length ≤ 20 := by
  rcases hl.cases with ⟨x, rfl, h1⟩ | ⟨x, y, rfl, h1, h2⟩ | ⟨x, y, z, rfl, h1, h2, h3⟩ <;> simp at hr
  · subst hr; rw [h1]; exact rp2
  · rcases hr with rfl | rfl
    · rw [h1]; exact rp2
    · rw [h2]; exact rp3
  · rcases hr with rfl | rfl | rfl
    · rw [h1]; exact rp2
    · rw [h2]; exact rp3
    · rw [h3]; exact rp4
/-- numbers that are shown shortly -/
def Sm_ (r : Ms) : Prop := r.l.natAbs < 10 ^ 18 ∧ r.m.natAbs < 10 ^ 18 ∧ r.lo.natAbs < 10 ^ 18 ∧ r.hi.natAbs < 10 ^ 18
theorem small_of {i : Int} (h : -100000 ≤ i ∧ i ≤ 100000) : i.natAbs < 10 ^ 18 := by
  have : i.natAbs ≤ 100000 := by omega
  exact Nat.lt_of_le_of_lt this (by decide)
theorem eN_ok {ws : List Ms} (hl : Nm ws) (hs : ∀ r ∈ ws, Sm_ r) {r : Ms} (hr : r ∈ ws) : okR (eN r) = true ∧ rb (eN r) ≤ 100 ∧ (eN r).depth ≤ 1 := by
  obtain ⟨h1, h2, _⟩ := hs r hr
  have h3 := hl.rp hr
  refine ⟨?_, ?_, ?_⟩
  · simp only [eN, okR, okRA, Bool.and_true, Bool.true_and, Bool.and_eq_true, decide_eq_true_eq]
    exact ⟨h1, h2⟩
  · simp only [eN, rb, rbA]; omega
  · simp [eN, PyData.depth, PyData.depthAll]
theorem per_ok {ws : List Ms} (hl : Nm ws) (hs : ∀ r ∈ ws, Sm_ r) : okR (per ws) = true ∧ rb (per ws) ≤ 1000 ∧ (per ws).depth ≤ 3 := by
  have hlen := hl.len
  have a1 : okRA (ws.map eN) = true := okRA_of fun d hd => by
    obtain ⟨r, hr, rfl⟩ := List.mem_map.mp hd
    exact (eN_ok hl hs hr).1
  have a2 : rbA (ws.map eN) ≤ (ws.map eN).length * (100 + 2) := rbA_of fun d hd => by
    obtain ⟨r, hr, rfl⟩ := List.mem_map.mp hd
    exact (eN_ok hl hs hr).2.1
  have a3 : PyData.depthAll (ws.map eN) ≤ 1 := depthA_of fun d hd => by
    obtain ⟨r, hr, rfl⟩ := List.mem_map.mp hd
    exact (eN_ok hl hs hr).2.2
  have a4 := rp1
  rw [List.length_map] at a2
  refine ⟨?_, ?_, ?_⟩
  · simp only [per, okR, okRA, a1, Bool.and_true]
  · simp only [per, rb, rbA]; omega
  · simp only [per, PyData.depth, PyData.depthAll]; omega
theorem per_repr {ws : List Ms} (hl : Nm ws) (hs : ∀ r ∈ ws, Sm_ r) : ∃ s, dRepr (per ws) = some (.val (.str s)) := by
  obtain ⟨h1, h2, h3⟩ := per_ok hl hs
  unfold per at h1 h2 h3 ⊢
  exact ⟨_, repr_tuple (by simpa [okR] using h1) (by simp only [PyData.depth] at h3; omega) (by simp only [rb] at h2; omega)⟩
/-- the items of a dict of bounds, sorted -/
def itms (ws : List Ms) : List D := ws.map fun r => .tuple [.str r.n, eP r]
theorem itm_ok {ws : List Ms} (hl : Nm ws) (hs : ∀ r ∈ ws, Sm_ r) {d : D} (hd : d ∈ itms ws) : okR d = true ∧ rb d ≤ 200 ∧ d.depth ≤ 2 := by
  unfold itms at hd
  obtain ⟨r, hr, rfl⟩ := List.mem_map.mp hd
  obtain ⟨_, _, h1, h2⟩ := hs r hr
  have h3 := hl.rp hr
  refine ⟨?_, ?_, ?_⟩
  · simp only [eP, okR, okRA, Bool.and_true, Bool.true_and, Bool.and_eq_true, decide_eq_true_eq]
    exact ⟨h1, h2⟩
  · simp only [eP, rb, rbA]; omega
  · simp [eP, PyData.depth, PyData.depthAll]
theorem items_list {ws : List Ms} : dItemsL (bnd ws) = some (.frs (.list (itms ws))) := by
  unfold bnd dItemsL itms
  simp only
  rw [flat_ok, if_pos rfl, List.map_map]
  rfl
theorem items_sorted {ws : List Ms} : dSorted (.list (itms ws)) = some (.frs (.list ((itms ws).mergeSort dle))) := by
  show (if sortOk (itms ws) = true then some (Rv.frs (.list ((itms ws).mergeSort dle))) else none) = _
  have al : ∀ r q : Ms, PySem.W.alike (.tuple [.str r.n, eP r]) (.tuple [.str q.n, eP q]) = true := fun r q => by simp [PySem.W.alike, PySem.W.alikeAll, eP]
  rw [if_pos]
  unfold sortOk itms
  simp only [List.all_map, Bool.and_eq_true, Bool.or_eq_true, List.all_eq_true, Function.comp]
  refine ⟨⟨fun r _ q _ => al r q, .inl fun r _ => rfl⟩, fun r _ => ?_⟩
  simp [eP, PyData.depth, PyData.depthAll]
theorem kept_repr {ws qs : List Ms} (hl : Nm ws) (hs : ∀ r ∈ ws, Sm_ r) : ∃ s, dRepr (.list [per ws, .list ((itms ws).mergeSort dle)]) = some (.val (.str s)) := by
  have hlen := hl.len
  obtain ⟨h1, h2, h3⟩ := per_ok hl hs
  have a1 : okRA ((itms ws).mergeSort dle) = true := okRA_of fun d hd => (itm_ok hl hs (sort_mem hd)).1
  have a2 : rbA ((itms ws).mergeSort dle) ≤ ((itms ws).mergeSort dle).length * (200 + 2) := rbA_of fun d hd => (itm_ok hl hs (sort_mem hd)).2.1
  have a3 : PyData.depthAll ((itms ws).mergeSort dle) ≤ 2 := depthA_of fun d hd => (itm_ok hl hs (sort_mem hd)).2.2
  have a4 : ((itms ws).mergeSort dle).length ≤ 3 := by rw [List.length_mergeSort]; unfold itms; rw [List.length_map]; omega
  refine ⟨_, repr_list ?_ ?_ ?_⟩
  · simp only [okRA, okR, h1, a1, Bool.and_true]
  · simp only [PyData.depthAll, PyData.depth]; omega
  · simp only [rbA, rb]; omega
/-! ### one person, one way -/
def sz (w : Bool) (ws : List Ms) (top : Int) : List Int := (szs (top + 1).toNat).filter (fine (!w) ws)
theorem Nm.mv {ws : List Ms} (hl : Nm ws) (w : Bool) : Nm (ws.map (mv w)) := by
  unfold Nm
  rw [List.map_map]
  have : ((fun r : Ms => r.n) ∘ Ev.mv w) = fun r => r.n := by
    funext r
    simp only [Function.comp, Ev.mv, mvP, mvS]
    cases w <;> simp only [Bool.false_eq_true, if_true, if_false] <;> split <;> rfl
  rw [this]
  exact hl
theorem gar_mv (ws : List Ms) (w : Bool) : gar (ws.map (mv w)) = gar ws := by
  unfold gar
  rw [List.map_map]
  congr 1
  apply List.map_congr_left
  intro r _
  simp only [Function.comp, mv, mvP, mvS]
  cases w <;> simp only [Bool.false_eq_true, if_true, if_false] <;> split <;> rfl
theorem mv_facts {r : Ms} (h : Ok r) (w : Bool) : ((1 ≤ (mv w r).b ∧ (mv w r).b ≤ 100) ∧ (0 ≤ (mv w r).s ∧ (mv w r).s ≤ 10) ∧ ((mv w r).l ≤ (mv w r).m ∨ ((mv w r).l = 1 ∧ (mv w r).m = 0))) ∧ Sm_ (mv w r) := by
  have h1 := h.fb
  have h2 := h.fs
  have h4 := h.fr
  have h5 := h.fo
  have h6 := h.fq
  unfold mv mvP mvS Sm_
  cases w <;> simp only [Bool.false_eq_true, if_true, if_false] <;> split <;> simp only
  all_goals exact ⟨⟨by omega, by omega, by first | omega | exact .inr ⟨rfl, rfl⟩ | simp⟩, small_of (by omega), small_of (by omega), small_of (by omega), small_of (by omega)⟩
abbrev bW : Sm := (seqS [(setS 18 (calE m__law_told [.v (var 15), .v (var 12), .v (var 7)])),
    (ifS (blT (op2 dNe (op1 dRepr (var 18)) (op1 dRepr (calE m__law_needs [.v (var 12), .v (var 7), .v (var 15)])))) (seqS [(retS (cst (.bool false)))]) (seqS [])),
    (setS 19 (lcE [20] (itRng1 (op2 dAdd (var 11) (cst (.int 1)))) (stI 20) (blT (op2 (dIsS false) (calE m_serves [.v (var 10), .v (var 11), .v (var 20), .v (var 18)]) (cst (.bool true)))) (var 20))),
    (ifS (blT (op2 dNe (var 19) (calE m__law_served [.v (var 10), .v (var 11), .v (var 12), .v (var 7), .v (op2 dEq (var 15) (cst (.int 0)))]))) (seqS [(retS (cst (.bool false)))]) (seqS [])),
    (expS (appE 6 (var 19)))])
theorem w_turn {ws : List Ms} (hl : Nm ws) (ho : ∀ r ∈ ws, Ok r) (w : Bool) {top : Int} (ht : 0 ≤ top ∧ top ≤ 60) (L : List D) (hL : L.length ≤ 1000) (s0 s1 s2 s3 s4 s5 s8 s9 s13 s14 s16 s17 s18 s19 : Sl) :
    bW [s0, s1, s2, s3, s4, s5, .own (.list L), .val (bnd ws), s8, s9, .val (gar ws), .val (.int top), .val (per ws), s13, s14, .val (.int (wh w)), s16, s17, s18, s19, .no] =
      .nx [s0, s1, s2, s3, s4, s5, .own (.list (L ++ [iL (sz w ws top)])), .val (bnd ws), s8, s9, .val (gar ws), .val (.int top), .val (per ws), s13, s14, .val (.int (wh w)), s16, s17, .val (per (ws.map (mv w))), .val (iL (sz w ws top)), .no] := by
  have hF : L.length < sizeLine := small_lt hL
  have hi : inR (top + 1) = true := inR_ok (by omega)
  have hm := hl.mv w
  obtain ⟨s, hs⟩ := per_repr hm (fun r hr => by
    obtain ⟨q, hq, rfl⟩ := List.mem_map.mp hr
    exact (mv_facts (ho q hq) w).2)
  have hsv : ∀ z : Int, 0 ≤ z ∧ z ≤ top → m_serves [.val (gar ws), .val (.int top), .val (.int z), .val (per (ws.map (mv w)))] = .rt (.val (.bool (fine (!w) ws z))) [] := fun z hz => by
    have := serves_ok (top := top) hm hz ht.2 (fun r hr => by
      obtain ⟨q, hq, rfl⟩ := List.mem_map.mp hr
      exact (mv_facts (ho q hq) w).1)
    rw [gar_mv, fine_law ho] at this
    exact this
  have a1 : lcE [20] (itRng1 (op2 dAdd (var 11) (cst (.int 1)))) (stI 20) (blT (op2 (dIsS false) (calE m_serves [.v (var 10), .v (var 11), .v (var 20), .v (var 18)]) (cst (.bool true)))) (var 20)
      [s0, s1, s2, s3, s4, s5, .own (.list L), .val (bnd ws), s8, s9, .val (gar ws), .val (.int top), .val (per ws), s13, s14, .val (.int (wh w)), s16, s17, .val (per (ws.map (mv w))), s19, .no] =
      .ok (.frs (.list ((sz w ws top).map PyData.int))) [s0, s1, s2, s3, s4, s5, .own (.list L), .val (bnd ws), s8, s9, .val (gar ws), .val (.int top), .val (per ws), s13, s14, .val (.int (wh w)), s16, s17, .val (per (ws.map (mv w))), s19, .no] :=
    filt_lc PyData.int (fine (!w) ws) PyData.int (by simp [hi, szs_rng ht.1]) (by rfl) (by simp [szs]; omega) fun z hz => by
      have hz := szs_mem hz
      have hq := hsv z (by omega)
      cases c : fine (!w) ws z <;> rw [c] at hq <;> simp [lcTurn, hq, dIsS]
  have e1 : decide (wh w = 0) = !w := by cases w <;> rfl
  have hsd := served_ok hl ho (!w) ht
  have hne : dNe (iL (sz w ws top)) (iL (sz w ws top)) = some (.val (.bool false)) := dNe_self (shaped_ints _)
  have hsd' : m__law_served [.val (gar ws), .val (.int top), .val (per ws), .val (bnd ws), .val (.bool (!w))] = .rt (.frs (iL (sz w ws top))) [] := hsd
  simp only [bW]
  simp [told_ok hl ho w, needs_ok hl w, hs, dNe_str, a1, e1, hsd', hne, hF]
end Ev

set_option Elab.async false
set_option linter.all false
set_option maxRecDepth 100000
set_option maxHeartbeats 8000000
/-! K41N: the law's turn, statement by statement. -/
namespace Ev
open PySem
abbrev A1 : Sm := (asgS (stT [(stI 10), (stI 11), (stI 12), (stI 13)]) (calE m__law_world [.r 1]))
abbrev A2 : Sm := (setS 3 (op1 dRepr (lstE [(var 12), (op1 dSorted (op1 dItemsL (var 13)))])))
abbrev A3 : Sm := (setS 4 newD)
abbrev A4 : Sm := (forD (stI 5) (itKeys (var 13)) bNar)
abbrev A5 : Sm := (setS 6 (lstE []))
abbrev A6 : Sm := (forS (stI 7) (itSeq (lstE [(var 13), (var 4)])) (seqS [(forS (stI 15) (itRng1 (cst (.int 2))) bW)]))
abbrev eSub (i j : Int) : Tt := (blT (op2 dNe (lcE [20] (itSeq (op2 dIdx (var 6) (cst (.int i)))) (stI 20) (blT (op2 (dIn true) (var 20) (op2 dIdx (var 6) (cst (.int j))))) (var 20)) (lstE [])))
abbrev A7 : Sm := (ifS (orT (eSub 0 2) (eSub 3 1)) (seqS [(retS (cst (.bool false)))]) (seqS []))
abbrev A8 : Sm := (setS 5 (op2 dIdx (op1 dSorted (op1 dList (var 13))) (cst (.int 0))))
abbrev A9 : Sm := (setS 8 (lstE [(cst .none), newD, (dspE [((cst (.str "zoe")), (tupE [(cst (.int 1)), (cst (.int 2))]))]), (op1 dDict (op2 dAdd (op1 dItemsL (var 13)) (lstE [(tupE [(cst (.str "zoe")), (tupE [(cst (.int 1)), (cst (.int 2))])])]))), (op1 dDict (op2 dAdd (op1 dItemsL (var 13)) (lstE [(tupE [(var 5), (tupE [(cst (.int 2)), (cst (.int 1))])])]))), (op1 dDict (op2 dAdd (op1 dItemsL (var 13)) (lstE [(tupE [(var 5), (lstE [(cst (.int 1)), (cst (.int 2))])])])))]))
abbrev A10 : Sm := (setS 9 (calE m__law_pick [.r 1, .v (var 8)]))
abbrev A11 : Sm := (ifS (blT (op2 dNe (op2 dAdd (lcE [15] (itSeq (lstE [(cst (.int 0)), (cst (.int 1))])) (stI 15) yesT (calE m__law_told [.v (var 15), .v (var 12), .v (var 9)])) (lcE [15] (itSeq (lstE [(cst (.int 0)), (cst (.int 1))])) (stI 15) yesT (calE m__law_told [.v (var 15), .v (tupE [(cst (.str "Ann")), (tupE [])]), .v newD]))) (repE [(cst (.str "not right"))] 4))) (seqS [(retS (cst (.bool false)))]) (seqS []))
abbrev A12 : Sm := (ifS (blT (op2 dNe (op1 dRepr (lstE [(var 12), (op1 dSorted (op1 dItemsL (var 13)))])) (var 3))) (seqS [(retS (cst (.bool false)))]) (seqS []))
abbrev bT : Sm := seqS [A1, A2, A3, A4, A5, A6, A7, A8, A9, A10, A11, A12]
theorem law_eq : m_law = fnS 21 (seqS [(setS 1 (calE m__law_draws [.v (var 0)])), (forS (stI 2) (itRng1 (cst (.int 6))) bT), (retS (cst (.bool true)))]) := rfl
theorem in2 : inR 2 = true := by decide +kernel
theorem rng2 : rng 0 2 = [.int (wh false), .int (wh true)] := by rfl
section
variable {ws qs : List Ms} (hl : Nm ws) (ho : ∀ r ∈ ws, Ok r)
theorem ok_small {ws : List Ms} (ho : ∀ r ∈ ws, Ok r) : ∀ r ∈ ws, Sm_ r := fun r hr => by
  have h4 := (ho r hr).fr
  have h5 := (ho r hr).fo
  have h6 := (ho r hr).fq
  exact ⟨small_of (by omega), small_of (by omega), small_of (by omega), small_of (by omega)⟩
include hl ho
theorem a6_ok (hn : NAll ws qs) {top : Int} (ht : 0 ≤ top ∧ top ≤ 60) (s0 s1 s2 s3 s5 s7 s8 s9 s14 s15 s16 s17 s18 s19 : Sl) :
    ∃ t7 t15 t18 t19, A6 [s0, s1, s2, s3, .own (bnd qs), s5, .own (.list []), s7, s8, s9, .val (gar ws), .val (.int top), .val (per ws), .val (bnd ws), s14, s15, s16, s17, s18, s19, .no] =
      .nx [s0, s1, s2, s3, .val (bnd qs), s5, .own (.list [iL (sz false ws top), iL (sz true ws top), iL (sz false qs top), iL (sz true qs top)]), t7, s8, s9, .val (gar ws), .val (.int top), .val (per ws), .val (bnd ws), s14, .val t15, s16, s17, t18, t19, .no] := by
  obtain ⟨m1, m2, m3⟩ := hn.maps
  have hlq : Nm qs := by unfold Nm; rw [m1]; exact hl
  have hoq := hn.ok ho
  have eg : gar qs = gar ws := by unfold gar; rw [m2]
  have ep : per qs = per ws := by unfold per; rw [m3]
  have w1 := fun (w : Bool) (L : List D) (hL : L.length ≤ 1000) s4 s13 s16 s17 s18 s19 => w_turn hl ho w ht L hL s0 s1 s2 s3 s4 s5 s8 s9 s13 s14 s16 s17 s18 s19
  have w2 := fun (w : Bool) (L : List D) (hL : L.length ≤ 1000) s4 s13 s16 s17 s18 s19 => w_turn hlq hoq w ht L hL s0 s1 s2 s3 s4 s5 s8 s9 s13 s14 s16 s17 s18 s19
  rw [eg, ep] at w2
  have inner1 : forLoop (stI 15) bW [.int (wh false), .int (wh true)] [s0, s1, s2, s3, .val (bnd qs), s5, .own (.list []), .val (bnd ws), s8, s9, .val (gar ws), .val (.int top), .val (per ws), .val (bnd ws), s14, s15, s16, s17, s18, s19, .no] =
      .nx [s0, s1, s2, s3, .val (bnd qs), s5, .own (.list [iL (sz false ws top), iL (sz true ws top)]), .val (bnd ws), s8, s9, .val (gar ws), .val (.int top), .val (per ws), .val (bnd ws), s14, .val (.int (wh true)), s16, s17, .val (per (ws.map (mv true))), .val (iL (sz true ws top)), .no] := by
    rw [e_for_cons]
    simp only [e_stI, List.set_cons_succ, List.set_cons_zero]
    rw [w1 false [] (by simp) _ _ _ _ _ _, turnR_nx, e_for_cons]
    simp only [e_stI, List.set_cons_succ, List.set_cons_zero]
    rw [w1 true _ (by simp) _ _ _ _ _ _, turnR_nx]
    rfl
  have inner2 : ∀ (L : List D) (hL : L.length ≤ 100) (s18 s19 : Sl), forLoop (stI 15) bW [.int (wh false), .int (wh true)] [s0, s1, s2, s3, .val (bnd qs), s5, .own (.list L), .val (bnd qs), s8, s9, .val (gar ws), .val (.int top), .val (per ws), .val (bnd ws), s14, .val (.int (wh true)), s16, s17, s18, s19, .no] =
      .nx [s0, s1, s2, s3, .val (bnd qs), s5, .own (.list (L ++ [iL (sz false qs top)] ++ [iL (sz true qs top)])), .val (bnd qs), s8, s9, .val (gar ws), .val (.int top), .val (per ws), .val (bnd ws), s14, .val (.int (wh true)), s16, s17, .val (per (qs.map (mv true))), .val (iL (sz true qs top)), .no] := fun L hL s18 s19 => by
    rw [e_for_cons]
    simp only [e_stI, List.set_cons_succ, List.set_cons_zero]
    rw [w2 false L (by omega) _ _ _ _ _ _, turnR_nx, e_for_cons]
    simp only [e_stI, List.set_cons_succ, List.set_cons_zero]
    rw [w2 true _ (by simp; omega) _ _ _ _ _ _, turnR_nx]
    rfl
  refine ⟨.val (bnd qs), .int (wh true), .val (per (qs.map (mv true))), .val (iL (sz true qs top)), ?_⟩
  have it : itSeq (lstE [(var 13), (var 4)]) [s0, s1, s2, s3, .own (bnd qs), s5, .own (.list []), s7, s8, s9, .val (gar ws), .val (.int top), .val (per ws), .val (bnd ws), s14, s15, s16, s17, s18, s19, .no] =
      .ok [bnd ws, bnd qs] [s0, s1, s2, s3, .val (bnd qs), s5, .own (.list []), s7, s8, s9, .val (gar ws), .val (.int top), .val (per ws), .val (bnd ws), s14, s15, s16, s17, s18, s19, .no] := by simp
  have one : ∀ (ρ ρ' : En), forLoop (stI 15) bW [.int (wh false), .int (wh true)] ρ = .nx ρ' → seqS [(forS (stI 15) (itRng1 (cst (.int 2))) bW)] ρ = .nx ρ' := fun ρ ρ' h => by
    rw [e_seqS_cons, e_forS]
    have : itRng1 (cst (.int 2)) ρ = .ok [.int (wh false), .int (wh true)] ρ := by simp [in2, rng2]
    rw [this, RE.go_ok, h]
    rfl
  show forS _ _ _ _ = _
  rw [e_forS, it, RE.go_ok, e_for_cons]
  simp only [e_stI, List.set_cons_succ, List.set_cons_zero]
  rw [one _ _ inner1, turnR_nx, e_for_cons]
  simp only [e_stI, List.set_cons_succ, List.set_cons_zero]
  rw [one _ _ (inner2 _ (by simp) _ _), turnR_nx]
  rfl
end
end Ev

set_option Elab.async false
set_option linter.all false
set_option maxRecDepth 100000
set_option maxHeartbeats 8000000
/-! K41O: the rest of the law's turn. -/
namespace Ev
open PySem
theorem dIn_ints (z : Int) (B : List Int) : dIn true (.int z) (iL B) = some (.val (.bool (!B.any fun y => y == z))) := by
  unfold dIn dIn0
  simp only
  rw [if_pos ⟨shaped_int _, shaped_ints B⟩]
  simp only [Option.map_some, List.any_map]
  have e : ((fun z_1 => PyData.eqv z_1 (.int z)) ∘ PyData.int) = fun y : Int => y == z := by
    funext y
    simp [PyData.eqv]
  rw [e]
  simp
theorem filter_nil {A B : List Int} (h : ∀ z ∈ A, z ∈ B) : A.filter (fun z => !B.any fun y => y == z) = [] := by
  rw [List.filter_eq_nil_iff]
  intro z hz c
  have : (B.any fun y => y == z) = true := by rw [List.any_eq_true]; exact ⟨z, h z hz, by simp⟩
  rw [this] at c
  cases c
theorem empty_ne : dNe (.list []) (.list []) = some (.val (.bool false)) := dNe_self (by decide +kernel)
theorem sub_ok (i j : Int) (A B : List Int) (T : List D) (hi : dIdx (.list T) (.int i) = some (.val (iL A))) (hj : dIdx (.list T) (.int j) = some (.val (iL B))) (hA : A.length ≤ 1000) (h : ∀ z ∈ A, z ∈ B) (s0 s1 s2 s3 s4 s5 s7 s8 s9 s10 s11 s12 s13 s14 s15 s16 s17 s18 s19 : Sl) :
    eSub i j [s0, s1, s2, s3, s4, s5, .own (.list T), s7, s8, s9, s10, s11, s12, s13, s14, s15, s16, s17, s18, s19, .no] = .ok false [s0, s1, s2, s3, s4, s5, .own (.list T), s7, s8, s9, s10, s11, s12, s13, s14, s15, s16, s17, s18, s19, .no] := by
  have a1 : lcE [20] (itSeq (op2 dIdx (var 6) (cst (.int i)))) (stI 20) (blT (op2 (dIn true) (var 20) (op2 dIdx (var 6) (cst (.int j))))) (var 20) [s0, s1, s2, s3, s4, s5, .own (.list T), s7, s8, s9, s10, s11, s12, s13, s14, s15, s16, s17, s18, s19, .no] =
      .ok (.frs (.list ((A.filter (fun z => !B.any fun y => y == z)).map PyData.int))) [s0, s1, s2, s3, s4, s5, .own (.list T), s7, s8, s9, s10, s11, s12, s13, s14, s15, s16, s17, s18, s19, .no] :=
    filt_lc PyData.int (fun z => !B.any fun y => y == z) PyData.int (by simp [hi]) (by rfl) hA fun z hz => by
      cases c : (B.any fun y => y == z) <;> simp [lcTurn, hj, dIn_ints, c]
  rw [filter_nil h] at a1
  simp [a1, empty_ne]
theorem sz_len (w : Bool) (ws : List Ms) {top : Int} (ht : 0 ≤ top ∧ top ≤ 60) : (sz w ws top).length ≤ 1000 := by
  have : (sz w ws top).length ≤ (szs (top + 1).toNat).length := List.length_filter_le _ _
  have h2 : (szs (top + 1).toNat).length = (top + 1).toNat := by simp [szs]
  omega
theorem sz_sub1 {ws qs : List Ms} (hn : NAll ws qs) (top : Int) : ∀ z ∈ sz false ws top, z ∈ sz false qs top := fun z hz => by
  unfold sz at hz ⊢
  rw [List.mem_filter] at hz ⊢
  exact ⟨hz.1, (hn.fine z).1 hz.2⟩
theorem sz_sub2 {ws qs : List Ms} (hn : NAll ws qs) (top : Int) : ∀ z ∈ sz true qs top, z ∈ sz true ws top := fun z hz => by
  unfold sz at hz ⊢
  rw [List.mem_filter] at hz ⊢
  exact ⟨hz.1, (hn.fine z).2 hz.2⟩
theorem list_names {ws : List Ms} : dList (bnd ws) = some (.frs (.list (ws.map fun r => .str r.n))) := by
  unfold dList bnd
  simp only [dListOf, dKeysL]
  rw [flat_ok, if_pos rfl, List.map_map]
  rfl
theorem first_name {ws : List Ms} (hl : Nm ws) : ∃ L, dSorted (.list (ws.map fun r => .str r.n)) = some (.frs (.list L)) ∧ ∃ q ∈ ws, dIdx (.list L) (.int 0) = some (.val (.str q.n)) := by
  have hlen := hl.len
  have ok : sortOk (ws.map fun r => .str r.n) = true := by
    unfold sortOk
    simp only [List.all_map, Bool.and_eq_true, Bool.or_eq_true, List.all_eq_true, Function.comp]
    exact ⟨⟨fun r _ q _ => by simp [PySem.W.alike], .inr fun r _ => rfl⟩, fun r _ => by simp [PyData.depth]⟩
  refine ⟨(ws.map fun r => (.str r.n : D)).mergeSort dle, ?_, ?_⟩
  · show (if sortOk (ws.map fun r => .str r.n) = true then some (Rv.frs (.list ((ws.map fun r => .str r.n).mergeSort dle))) else none) = _
    rw [if_pos ok]
  · cases q : (ws.map fun r => (.str r.n : D)).mergeSort dle with
    | nil =>
      have := congrArg List.length q
      rw [List.length_mergeSort, List.length_map, List.length_nil] at this
      omega
    | cons d t =>
      have hd : d ∈ (ws.map fun r => (.str r.n : D)).mergeSort dle := by rw [q]; exact List.mem_cons_self
      obtain ⟨r, hr, rfl⟩ := List.mem_map.mp (sort_mem hd)
      exact ⟨r, hr, by simp⟩
theorem nr4 : dNe (.list [.str NR, .str NR, .str NR, .str NR]) (.list [.str NR, .str NR, .str NR, .str NR]) = some (.val (.bool false)) := dNe_self (by decide +kernel)
section
variable {ws qs : List Ms} (hl : Nm ws) (ho : ∀ r ∈ ws, Ok r)
include hl ho
theorem a9_ok {q : Ms} (hq : q ∈ ws) (s0 s1 s2 s3 s4 s6 s7 s8 s9 s10 s11 s12 s14 s15 s16 s17 s18 s19 : Sl) : A9 [s0, s1, s2, s3, s4, .val (.str q.n), s6, s7, s8, s9, s10, s11, s12, .val (bnd ws), s14, s15, s16, s17, s18, s19, .no] =
    .nx [s0, s1, s2, s3, s4, .val (.str q.n), s6, s7, .own (.list (wrongs ws q.n)), s9, s10, s11, s12, .val (bnd ws), s14, s15, s16, s17, s18, s19, .no] := by
  have hlen := hl.len
  have hz : ∀ d : D, dAdd (.list (itms ws)) (.list [d]) = some (.frs (.list (itms ws ++ [d]))) := fun d => by
    unfold dAdd
    simp only
    rw [if_pos]
    unfold itms
    rw [List.length_map]
    exact small_line (by simp; omega)
  have hp : ∀ (n : Str) (v : D), dDict (.list (itms ws ++ [.tuple [.str n, v]])) = some (.frs (.dict (dmerge ((ws.map fun r => (.str r.n, eP r)) ++ [(.str n, v)]) []))) := fun n v => by
    unfold dDict itms
    simp only
    rw [pairsO_ok]
  simp [A9, items_list, hz, hp, dspE, prsE, flatK, wrongs, pair12, pair21, list12, dmerge, dput]
theorem a11_ok {o : D} (hb : m_check_bounds [.val (per ws), .val o] = .exc "NotRight" []) (s0 s1 s2 s3 s4 s5 s6 s7 s8 s10 s11 s13 s14 s16 s17 s18 s19 s20 : Sl) (d15 : D) :
    A11 [s0, s1, s2, s3, s4, s5, s6, s7, s8, .val o, s10, s11, .val (per ws), s13, s14, .val d15, s16, s17, s18, s19, s20] = .nx [s0, s1, s2, s3, s4, s5, s6, s7, s8, .val o, s10, s11, .val (per ws), s13, s14, .val d15, s16, s17, s18, s19, s20] := by
  have t1 := fun w => check_bad (b := true) hb w
  have t2 := fun w => check_bad (b := true) (bad_Ann (.dict [])) w
  have l1 : lcE [15] (itSeq (lstE [(cst (.int 0)), (cst (.int 1))])) (stI 15) yesT (calE m__law_told [.v (var 15), .v (var 12), .v (var 9)]) [s0, s1, s2, s3, s4, s5, s6, s7, s8, .val o, s10, s11, .val (per ws), s13, s14, .val d15, s16, s17, s18, s19, s20] =
      .ok (.frs (.list ([false, true].map fun _ => .str NR))) [s0, s1, s2, s3, s4, s5, s6, s7, s8, .val o, s10, s11, .val (per ws), s13, s14, .val d15, s16, s17, s18, s19, s20] :=
    map_lc (fun b => .int (wh b)) _ (by simp [wh]) (by rfl) (by simp) fun b _ => by simp [lcTurn, t1 b]
  have l2 : lcE [15] (itSeq (lstE [(cst (.int 0)), (cst (.int 1))])) (stI 15) yesT (calE m__law_told [.v (var 15), .v (tupE [(cst (.str "Ann")), (tupE [])]), .v newD]) [s0, s1, s2, s3, s4, s5, s6, s7, s8, .val o, s10, s11, .val (per ws), s13, s14, .val d15, s16, s17, s18, s19, s20] =
      .ok (.frs (.list ([false, true].map fun _ => .str NR))) [s0, s1, s2, s3, s4, s5, s6, s7, s8, .val o, s10, s11, .val (per ws), s13, s14, .val d15, s16, s17, s18, s19, s20] :=
    map_lc (fun b => .int (wh b)) _ (by simp [wh]) (by rfl) (by simp) fun b _ => by simp [lcTurn, t2 b]
  have ad : dAdd (.list [.str NR, .str NR]) (.list [.str NR, .str NR]) = some (.frs (.list [.str NR, .str NR, .str NR, .str NR])) := by
    unfold dAdd
    simp only
    rw [if_pos (small_line (by simp))]
    rfl
  have rp : ∀ ρ : En, repE [(cst (.str "not right"))] 4 ρ = .ok (.frs (.list [.str NR, .str NR, .str NR, .str NR])) ρ := fun ρ => by
    have h1 : 1 ≤ sizeLine := by decide
    have h4 : 4 ≤ sizeLine := by decide
    simp [repE, h1, h4]
  simp only [A11]
  simp [l1, l2, ad, rp, nr4]
end
/-! ### the turn -/
theorem seq_step {s : Sm} {r : List Sm} {ρ ρ' : En} (h : s ρ = .nx ρ') : seqS (s :: r) ρ = seqS r ρ' := by rw [e_seqS_cons, h, nxt_nx]
theorem turn_ok (s0 s2 : Sl) (ds : List Int) (s3 s4 s5 s6 s7 s8 s9 s10 s11 s12 s13 s14 s15 s16 s17 s18 s19 : Sl) :
    ∃ (ds' : List Int) (t3 t4 t5 t6 t7 t8 t9 t10 t11 t12 t13 t14 t15 t16 t17 t18 t19 : Sl), bT [s0, .own (iL ds), s2, s3, s4, s5, s6, s7, s8, s9, s10, s11, s12, s13, s14, s15, s16, s17, s18, s19, .no] =
      .nx [s0, .own (iL ds'), s2, t3, t4, t5, t6, t7, t8, t9, t10, t11, t12, t13, t14, t15, t16, t17, t18, t19, .no] := by
  obtain ⟨ws, top, d1, hl, ho, t0, t60, hw⟩ := world_ok ds
  have hlen := hl.len
  obtain ⟨K, hK⟩ := kept_repr (qs := ws) hl (ok_small ho)
  obtain ⟨qs, d2, u5, u14, u16, u17, hn, hnar⟩ := nar_loop hl ho s0 s2 (.val (.str K)) s6 s7 s8 s9 (.val (gar ws)) (.val (.int top)) (.val (per ws)) s15 s18 s19 .no ws (fun _ h => h) d1 [] s5 s14 s16 s17 (by simp; omega) rfl
  obtain ⟨m1, m2, m3⟩ := hn.maps
  have hlq : Nm qs := by unfold Nm; rw [m1]; exact hl
  rw [dmerge_ok hlq] at hnar
  obtain ⟨v7, v15, v18, v19, h6⟩ := a6_ok hl ho hn ⟨t0, t60⟩ s0 (.own (iL d2)) s2 (.val (.str K)) u5 s7 s8 s9 u14 s15 u16 u17 s18 s19
  obtain ⟨L, hL, q, hq, hq0⟩ := first_name hl
  have hne : ∃ x xs, wrongs ws q.n = x :: xs := ⟨_, _, rfl⟩
  obtain ⟨wx, wxs, hwr⟩ := hne
  obtain ⟨odd, d3, hodd, hpick⟩ := pick_ok d2 wx wxs
  rw [← hwr] at hodd hpick
  have hbad := wrong_bad hl ho hq hodd
  have e1 : A1 [s0, .own (iL ds), s2, s3, s4, s5, s6, s7, s8, s9, s10, s11, s12, s13, s14, s15, s16, s17, s18, s19, .no] = .nx [s0, .own (iL d1), s2, s3, s4, s5, s6, s7, s8, s9, .val (gar ws), .val (.int top), .val (per ws), .val (bnd ws), s14, s15, s16, s17, s18, s19, .no] := by
    simp [A1, hw]
  have e2 : A2 [s0, .own (iL d1), s2, s3, s4, s5, s6, s7, s8, s9, .val (gar ws), .val (.int top), .val (per ws), .val (bnd ws), s14, s15, s16, s17, s18, s19, .no] = .nx [s0, .own (iL d1), s2, .val (.str K), s4, s5, s6, s7, s8, s9, .val (gar ws), .val (.int top), .val (per ws), .val (bnd ws), s14, s15, s16, s17, s18, s19, .no] := by
    simp [A2, items_list, items_sorted, hK]
  have e3 : A3 [s0, .own (iL d1), s2, .val (.str K), s4, s5, s6, s7, s8, s9, .val (gar ws), .val (.int top), .val (per ws), .val (bnd ws), s14, s15, s16, s17, s18, s19, .no] = .nx [s0, .own (iL d1), s2, .val (.str K), .own (.dict []), s5, s6, s7, s8, s9, .val (gar ws), .val (.int top), .val (per ws), .val (bnd ws), s14, s15, s16, s17, s18, s19, .no] := by
    simp [A3]
  have e4 : A4 [s0, .own (iL d1), s2, .val (.str K), .own (.dict []), s5, s6, s7, s8, s9, .val (gar ws), .val (.int top), .val (per ws), .val (bnd ws), s14, s15, s16, s17, s18, s19, .no] = .nx [s0, .own (iL d2), s2, .val (.str K), .own (bnd qs), u5, s6, s7, s8, s9, .val (gar ws), .val (.int top), .val (per ws), .val (bnd ws), u14, s15, u16, u17, s18, s19, .no] := by
    have it : itKeys (var 13) [s0, .own (iL d1), s2, .val (.str K), .own (.dict []), s5, s6, s7, s8, s9, .val (gar ws), .val (.int top), .val (per ws), .val (bnd ws), s14, s15, s16, s17, s18, s19, .no] = .ok (ws.map fun r => .str r.n) [s0, .own (iL d1), s2, .val (.str K), .own (.dict []), s5, s6, s7, s8, s9, .val (gar ws), .val (.int top), .val (per ws), .val (bnd ws), s14, s15, s16, s17, s18, s19, .no] := by
      simp [itKeys, itDict, bnd]
    show forD _ _ _ _ = _
    rw [e_forD, it, RE.go_ok, hnar]
    rfl
  have e5 : A5 [s0, .own (iL d2), s2, .val (.str K), .own (bnd qs), u5, s6, s7, s8, s9, .val (gar ws), .val (.int top), .val (per ws), .val (bnd ws), u14, s15, u16, u17, s18, s19, .no] = .nx [s0, .own (iL d2), s2, .val (.str K), .own (bnd qs), u5, .own (.list []), s7, s8, s9, .val (gar ws), .val (.int top), .val (per ws), .val (bnd ws), u14, s15, u16, u17, s18, s19, .no] := by
    simp [A5]
  have e7 : A7 [s0, .own (iL d2), s2, .val (.str K), .val (bnd qs), u5, .own (.list [iL (sz false ws top), iL (sz true ws top), iL (sz false qs top), iL (sz true qs top)]), v7, s8, s9, .val (gar ws), .val (.int top), .val (per ws), .val (bnd ws), u14, .val v15, u16, u17, v18, v19, .no] =
      .nx [s0, .own (iL d2), s2, .val (.str K), .val (bnd qs), u5, .own (.list [iL (sz false ws top), iL (sz true ws top), iL (sz false qs top), iL (sz true qs top)]), v7, s8, s9, .val (gar ws), .val (.int top), .val (per ws), .val (bnd ws), u14, .val v15, u16, u17, v18, v19, .no] := by
    have c1 := sub_ok 0 2 (sz false ws top) (sz false qs top) [iL (sz false ws top), iL (sz true ws top), iL (sz false qs top), iL (sz true qs top)] (by simp) (by simp) (sz_len _ _ ⟨t0, t60⟩) (sz_sub1 hn top) s0 (.own (iL d2)) s2 (.val (.str K)) (.val (bnd qs)) u5 v7 s8 s9 (.val (gar ws)) (.val (.int top)) (.val (per ws)) (.val (bnd ws)) u14 (.val v15) u16 u17 v18 v19
    have c2 := sub_ok 3 1 (sz true qs top) (sz true ws top) [iL (sz false ws top), iL (sz true ws top), iL (sz false qs top), iL (sz true qs top)] (by simp) (by simp) (sz_len _ _ ⟨t0, t60⟩) (sz_sub2 hn top) s0 (.own (iL d2)) s2 (.val (.str K)) (.val (bnd qs)) u5 v7 s8 s9 (.val (gar ws)) (.val (.int top)) (.val (per ws)) (.val (bnd ws)) u14 (.val v15) u16 u17 v18 v19
    show ifS _ _ _ _ = _
    rw [e_ifS, e_orT, c1, RE.bind_ok, if_neg Bool.false_ne_true, c2, RE.go_ok, if_neg Bool.false_ne_true]
    rfl
  have e8 : A8 [s0, .own (iL d2), s2, .val (.str K), .val (bnd qs), u5, .own (.list [iL (sz false ws top), iL (sz true ws top), iL (sz false qs top), iL (sz true qs top)]), v7, s8, s9, .val (gar ws), .val (.int top), .val (per ws), .val (bnd ws), u14, .val v15, u16, u17, v18, v19, .no] =
      .nx [s0, .own (iL d2), s2, .val (.str K), .val (bnd qs), .val (.str q.n), .own (.list [iL (sz false ws top), iL (sz true ws top), iL (sz false qs top), iL (sz true qs top)]), v7, s8, s9, .val (gar ws), .val (.int top), .val (per ws), .val (bnd ws), u14, .val v15, u16, u17, v18, v19, .no] := by
    have hq0' := hq0
    simp only [e_idx_list] at hq0'
    simp [A8, list_names, hL, hq0']
  have e9 := a9_ok hl ho hq s0 (.own (iL d2)) s2 (.val (.str K)) (.val (bnd qs)) (.own (.list [iL (sz false ws top), iL (sz true ws top), iL (sz false qs top), iL (sz true qs top)])) v7 s8 s9 (.val (gar ws)) (.val (.int top)) (.val (per ws)) u14 (.val v15) u16 u17 v18 v19
  have e10 : A10 [s0, .own (iL d2), s2, .val (.str K), .val (bnd qs), .val (.str q.n), .own (.list [iL (sz false ws top), iL (sz true ws top), iL (sz false qs top), iL (sz true qs top)]), v7, .own (.list (wrongs ws q.n)), s9, .val (gar ws), .val (.int top), .val (per ws), .val (bnd ws), u14, .val v15, u16, u17, v18, v19, .no] =
      .nx [s0, .own (iL d3), s2, .val (.str K), .val (bnd qs), .val (.str q.n), .own (.list [iL (sz false ws top), iL (sz true ws top), iL (sz false qs top), iL (sz true qs top)]), v7, .val (.list (wrongs ws q.n)), .val odd, .val (gar ws), .val (.int top), .val (per ws), .val (bnd ws), u14, .val v15, u16, u17, v18, v19, .no] := by
    simp [A10, hpick]
  have e11 := a11_ok hl ho hbad s0 (.own (iL d3)) s2 (.val (.str K)) (.val (bnd qs)) (.val (.str q.n)) (.own (.list [iL (sz false ws top), iL (sz true ws top), iL (sz false qs top), iL (sz true qs top)])) v7 (.val (.list (wrongs ws q.n))) (.val (gar ws)) (.val (.int top)) (.val (bnd ws)) u14 u16 u17 v18 v19 .no v15
  have e12 : A12 [s0, .own (iL d3), s2, .val (.str K), .val (bnd qs), .val (.str q.n), .own (.list [iL (sz false ws top), iL (sz true ws top), iL (sz false qs top), iL (sz true qs top)]), v7, .val (.list (wrongs ws q.n)), .val odd, .val (gar ws), .val (.int top), .val (per ws), .val (bnd ws), u14, .val v15, u16, u17, v18, v19, .no] =
      .nx [s0, .own (iL d3), s2, .val (.str K), .val (bnd qs), .val (.str q.n), .own (.list [iL (sz false ws top), iL (sz true ws top), iL (sz false qs top), iL (sz true qs top)]), v7, .val (.list (wrongs ws q.n)), .val odd, .val (gar ws), .val (.int top), .val (per ws), .val (bnd ws), u14, .val v15, u16, u17, v18, v19, .no] := by
    simp [A12, items_list, items_sorted, hK, dNe_str]
  have fin : bT [s0, .own (iL ds), s2, s3, s4, s5, s6, s7, s8, s9, s10, s11, s12, s13, s14, s15, s16, s17, s18, s19, .no] =
      .nx [s0, .own (iL d3), s2, .val (.str K), .val (bnd qs), .val (.str q.n), .own (.list [iL (sz false ws top), iL (sz true ws top), iL (sz false qs top), iL (sz true qs top)]), v7, .val (.list (wrongs ws q.n)), .val odd, .val (gar ws), .val (.int top), .val (per ws), .val (bnd ws), u14, .val v15, u16, u17, v18, v19, .no] := by
    show seqS [A1, A2, A3, A4, A5, A6, A7, A8, A9, A10, A11, A12] _ = _
    rw [seq_step e1, seq_step e2, seq_step e3, seq_step e4, seq_step e5, seq_step h6, seq_step e7, seq_step e8, seq_step e9, seq_step e10, seq_step e11, seq_step e12]
    rfl
  exact ⟨_, _, _, _, _, _, _, _, _, _, _, _, _, _, _, _, _, _, fin⟩
theorem turns_ok (s0 : Sl) : ∀ (xs : List D) (s2 : Sl) (ds : List Int) (s3 s4 s5 s6 s7 s8 s9 s10 s11 s12 s13 s14 s15 s16 s17 s18 s19 : Sl),
    ∃ ρ, forLoop (stI 2) bT xs [s0, .own (iL ds), s2, s3, s4, s5, s6, s7, s8, s9, s10, s11, s12, s13, s14, s15, s16, s17, s18, s19, .no] = .nx (s0 :: ρ)
  | [], s2, ds, s3, s4, s5, s6, s7, s8, s9, s10, s11, s12, s13, s14, s15, s16, s17, s18, s19 => ⟨_, rfl⟩
  | x :: xs, s2, ds, s3, s4, s5, s6, s7, s8, s9, s10, s11, s12, s13, s14, s15, s16, s17, s18, s19 => by
    obtain ⟨d', t3, t4, t5, t6, t7, t8, t9, t10, t11, t12, t13, t14, t15, t16, t17, t18, t19, h⟩ := turn_ok s0 (.val x) ds s3 s4 s5 s6 s7 s8 s9 s10 s11 s12 s13 s14 s15 s16 s17 s18 s19
    obtain ⟨ρ, h2⟩ := turns_ok s0 xs (.val x) d' t3 t4 t5 t6 t7 t8 t9 t10 t11 t12 t13 t14 t15 t16 t17 t18 t19
    refine ⟨ρ, ?_⟩
    rw [e_for_cons]
    simp only [e_stI, List.set_cons_succ, List.set_cons_zero]
    rw [h, turnR_nx, h2]
theorem law_true (ns : List Int) (h : ns.length ≤ 63) : m_law [.val (.list (ns.map PyData.int))] = .rt (.val (.bool true)) [] := by
  obtain ⟨ds, hd⟩ := draws_ok ns h
  obtain ⟨ρ, ht⟩ := turns_ok (.val (iL ns)) (rng 0 6) .no ds .no .no .no .no .no .no .no .no .no .no .no .no .no .no .no .no .no
  rw [law_eq, e_fnS]
  have e1 : setS 1 (calE m__law_draws [.v (var 0)]) ([.val (.list (ns.map PyData.int))] ++ List.replicate (21 - 1) .no) = .nx [.val (iL ns), .own (iL ds), .no, .no, .no, .no, .no, .no, .no, .no, .no, .no, .no, .no, .no, .no, .no, .no, .no, .no, .no] := by
    simp only [iL] at hd
    simp [hd]
  have e2 : forS (stI 2) (itRng1 (cst (.int 6))) bT [.val (iL ns), .own (iL ds), .no, .no, .no, .no, .no, .no, .no, .no, .no, .no, .no, .no, .no, .no, .no, .no, .no, .no, .no] = .nx (.val (iL ns) :: ρ) := by
    have it : itRng1 (cst (.int 6)) [.val (iL ns), .own (iL ds), .no, .no, .no, .no, .no, .no, .no, .no, .no, .no, .no, .no, .no, .no, .no, .no, .no, .no, .no] = .ok (rng 0 6) [.val (iL ns), .own (iL ds), .no, .no, .no, .no, .no, .no, .no, .no, .no, .no, .no, .no, .no, .no, .no, .no, .no, .no, .no] := by simp [in6]
    rw [e_forS, it, RE.go_ok, ht]
  have e3 : [Sl.val (PyData.list (ns.map PyData.int))].length = 1 := rfl
  rw [e3, seq_step e1, seq_step e2]
  simp
end Ev

open PySem PySem.W PyProof.Rows in
set_option maxRecDepth 100000 in
set_option maxHeartbeats 0 in
theorem PySem.Challenge.cw_hemstead_k41_whole_persons_with_bounds_holds : PySem.Challenge.rw_hemstead_k41_whole_persons_with_bounds.Holds := by
  w_on; o_law; k_head; (case hw => w_witness2)
  k_fill
  refine Ev.walkG (l := PySem.Challenge.rw_hemstead_k41_whole_persons_with_bounds) (k := 9) (F := Ev.m_law) (x := "script") rfl (by decide) rfl ⟨rfl, by decide, by decide⟩ (fun w h Y => PySem.W.kIn_of Y) ?F Ev.law_true
  case F =>
    intro w mg fa h KX G hmg
    refine' Ev.law_mk KX G hmg ?a0 ?l0 ?c0 ?k0 ?a1 ?l1 ?c1 ?k1 ?a2 ?l2 ?c2 ?k2 ?a3 ?l3 ?c3 ?k3 ?a4 ?l4 ?c4 ?k4 ?a5 ?l5 ?c5 ?k5 ?a6 ?l6 ?c6 ?k6 ?a7 ?l7 ?c7 ?k7 ?a8 ?l8 ?c8 ?k8 ?a9 ?l9 ?c9 ?k9 ?a10 ?l10 ?c10 ?k10 ?a11 ?l11 ?c11 ?k11 ?a12 ?l12 ?c12 ?k12 ?a13 ?l13 ?c13 ?k13 ?a14 ?l14 ?c14 ?k14 ?a15 ?l15 ?c15 ?k15 ?a16 ?l16 ?c16 ?k16 ?a17 ?l17 ?c17 ?k17 ?a18 ?l18 ?c18 ?k18 ?a19 ?l19 ?c19 ?k19 ?a20 ?l20 ?c20 ?k20 ?a21 ?l21 ?c21 ?k21 ?a22 ?l22 ?c22 ?k22 ?a23 ?l23 ?c23 ?k23 ?a24 ?l24 ?c24 ?k24 ?a25 ?l25 ?c25 ?k25 ?z_all ?z_len ?z_isinstance ?z_str ?z_zip ?z_bool ?z_int ?z_tuple ?z_sorted ?z_dict ?z_list ?z_reversed ?z_range ?z_abs ?z_repr ?v_SMALL ?v_FIGURES ?v_LONGEST ?v_MOST_MEASURES ?v_NO_NEED ?w_NO_NEED ?v_TOP_SIZE ?e_NotRight ?q_NotRight ?r_NotRight ?s_NotRight ?u_NotRight ?e_NotThere ?q_NotThere ?r_NotThere ?s_NotThere ?u_NotThere ?e_SeamError ?q_SeamError ?r_SeamError ?s_SeamError ?u_SeamError ?i_SeamError ?y_NotRight_SeamError ?y_NotThere_SeamError ?y_SeamError_SeamError ?i_NotRight ?y_NotRight_NotRight ?y_NotThere_NotRight ?y_SeamError_NotRight
    (case a0 => k_is)
    (case l0 => k_is)
    (case c0 => k_is)
    (case k0 => k_is)
    (case a1 => k_is)
    (case l1 => k_is)
    (case c1 => k_is)
    (case k1 => k_is)
    (case a2 => k_is)
    (case l2 => k_is)
    (case c2 => k_is)
    (case k2 => k_is)
    (case a3 => k_is)
    (case l3 => k_is)
    (case c3 => k_is)
    (case k3 => k_is)
    (case a4 => k_is)
    (case l4 => k_is)
    (case c4 => k_is)
    (case k4 => k_is)
    (case a5 => k_is)
    (case l5 => k_is)
    (case c5 => k_is)
    (case k5 => k_is)
    (case a6 => k_is)
    (case l6 => k_is)
    (case c6 => k_is)
    (case k6 => k_is)
    (case a7 => k_is)
    (case l7 => k_is)
    (case c7 => k_is)
    (case k7 => k_is)
    (case a8 => k_is)
    (case l8 => k_is)
    (case c8 => k_is)
    (case k8 => k_is)
    (case a9 => k_is)
    (case l9 => k_is)
    (case c9 => k_is)
    (case k9 => k_is)
    (case a10 => k_is)
    (case l10 => k_is)
    (case c10 => k_is)
    (case k10 => k_is)
    (case a11 => k_is)
    (case l11 => k_is)
    (case c11 => k_is)
    (case k11 => k_is)
    (case a12 => k_is)
    (case l12 => k_is)
    (case c12 => k_is)
    (case k12 => k_is)
    (case a13 => k_is)
    (case l13 => k_is)
    (case c13 => k_is)
    (case k13 => k_is)
    (case a14 => k_is)
    (case l14 => k_is)
    (case c14 => k_is)
    (case k14 => k_is)
    (case a15 => k_is)
    (case l15 => k_is)
    (case c15 => k_is)
    (case k15 => k_is)
    (case a16 => k_is)
    (case l16 => k_is)
    (case c16 => k_is)
    (case k16 => k_is)
    (case a17 => k_is)
    (case l17 => k_is)
    (case c17 => k_is)
    (case k17 => k_is)
    (case a18 => k_is)
    (case l18 => k_is)
    (case c18 => k_is)
    (case k18 => k_is)
    (case a19 => k_is)
    (case l19 => k_is)
    (case c19 => k_is)
    (case k19 => k_is)
    (case a20 => k_is)
    (case l20 => k_is)
    (case c20 => k_is)
    (case k20 => k_is)
    (case a21 => k_is)
    (case l21 => k_is)
    (case c21 => k_is)
    (case k21 => k_is)
    (case a22 => k_is)
    (case l22 => k_is)
    (case c22 => k_is)
    (case k22 => k_is)
    (case a23 => k_is)
    (case l23 => k_is)
    (case c23 => k_is)
    (case k23 => k_is)
    (case a24 => k_is)
    (case l24 => k_is)
    (case c24 => k_is)
    (case k24 => k_is)
    (case a25 => k_is)
    (case l25 => k_is)
    (case c25 => k_is)
    (case k25 => k_is)
    (case z_all => k_is)
    (case z_len => k_is)
    (case z_isinstance => k_is)
    (case z_str => k_is)
    (case z_zip => k_is)
    (case z_bool => k_is)
    (case z_int => k_is)
    (case z_tuple => k_is)
    (case z_sorted => k_is)
    (case z_dict => k_is)
    (case z_list => k_is)
    (case z_reversed => k_is)
    (case z_range => k_is)
    (case z_abs => k_is)
    (case z_repr => k_is)
    (case v_SMALL => k_is)
    (case v_FIGURES => k_is)
    (case v_LONGEST => k_is)
    (case v_MOST_MEASURES => k_is)
    (case v_NO_NEED => k_is)
    (case w_NO_NEED => k_is)
    (case v_TOP_SIZE => k_is)
    (case e_NotRight => k_is)
    (case q_NotRight => k_exc)
    (case r_NotRight => k_is)
    (case s_NotRight => k_is)
    (case u_NotRight => k_is)
    (case e_NotThere => k_is)
    (case q_NotThere => k_exc)
    (case r_NotThere => k_is)
    (case s_NotThere => k_is)
    (case u_NotThere => k_is)
    (case e_SeamError => k_is)
    (case q_SeamError => k_exc)
    (case r_SeamError => k_is)
    (case s_SeamError => k_is)
    (case u_SeamError => k_is)
    (case i_SeamError => k_is)
    (case y_NotRight_SeamError => k_is)
    (case y_NotThere_SeamError => k_is)
    (case y_SeamError_SeamError => k_is)
    (case i_NotRight => k_is)
    (case y_NotRight_NotRight => k_is)
    (case y_NotThere_NotRight => k_is)
    (case y_SeamError_NotRight => k_is)
#print axioms PySem.Challenge.cw_hemstead_k41_whole_persons_with_bounds_holds
